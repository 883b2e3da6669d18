/- Part 1: words, walks of functions, and plain laws of what these compute. (printed by this session's own programs; Lean checks it.) -/
import Derived.Test.YtjppikolddklfaaDoorQW0
import Derived.Shelf.Unicode.Decode
import Derived.Shelf.Unicode.DecodeSlow
import Derived.Shelf.Unicode.DecodeAny
import Derived.Test.YtjppikolddklfaaDoorProg
import Derived.Shelf.Strings.Builder1
import Derived.WalkKit
import Derived.Laws.Externs
import Derived.Laws.IdiomCopy
import Derived.Below
import Derived.Deep.Draws
import Derived.Deep.AppendLies
import Derived.Maps.AppendAt
import Derived.OwnWalk
import Derived.Laws.BytesArg
import Derived.Laws.MakeOwn
import Derived.Laws.OwnMore
import Derived.Deep.OwnRows
import Derived.Tactics
import Derived.Lib.ConvBytes
import Derived.Laws.Slices
import Derived.KernelRfl
import Derived.RowKit3
import Derived.Deep.LoopGhost
import Derived.Deep.QuietTactic
import Derived.BigQuiet
import Derived.WideLaws
import Derived.Deep.DeepCutAuto
import Derived.Deep.CutBlock
import Derived.Deep.RegionHeld3
import Derived.Laws.Rows
import Derived.Lib.AppendStr
import Derived.ArgAppend
import Derived.OrdersHeld
import Derived.Laws.BitsLemmas
import Derived.RowKit
import Derived.Lib.SliceRun
import Derived.RegionTactic
import Derived.ChangeAlike
import Derived.WalkLawsBesides
section
namespace Go.Proofs
open Go.Shelf
def Tryd.lays197_ren:Go.Shelf.Ren:=⟨fun|197=>65|260=>92|n=>n,fun|9=>9|21=>21|3=>3|4=>4|5=>5|105=>66|119=>55|0=>0|46=>59|139=>58|138=>57|n=>n,fun|3=>0|4=>1|n=>n⟩
theorem Tryd.lays197:Go.Proofs.Lays.n197 Tryd.prog Tryd.lays197_ren:={
 mixed:=by kernel_rfl
 f197:=Tryd.func65.trans (congrArg some (by kernel_rfl))
 f260:=Tryd.func92.trans (congrArg some (by kernel_rfl))
 t0:=Tryd.underlying0
 a0:=Tryd.isAgg0
 z0:=Tryd.sizeOf0
 v0:=Tryd.zeroValue0
 t3:=Tryd.underlying3
 a3:=Tryd.isAgg3
 z3:=Tryd.sizeOf3
 v3:=Tryd.zeroValue3
 t4:=Tryd.underlying4
 a4:=Tryd.isAgg4
 z4:=Tryd.sizeOf4
 v4:=Tryd.zeroValue4
 t5:=Tryd.underlying5
 a5:=Tryd.isAgg5
 z5:=Tryd.sizeOf5
 v5:=Tryd.zeroValue5
 t9:=Tryd.underlying9
 a9:=Tryd.isAgg9
 z9:=Tryd.sizeOf9
 v9:=Tryd.zeroValue9
 t21:=Tryd.underlying21
 a21:=Tryd.isAgg21
 z21:=Tryd.sizeOf21
 v21:=Tryd.zeroValue21
 t46:=Tryd.underlying59
 a46:=Tryd.isAgg59
 z46:=Tryd.sizeOf59
 v46:=Tryd.zeroValue59
 t105:=Tryd.underlying66
 a105:=Tryd.isAgg66
 z105:=Tryd.sizeOf66
 v105:=Tryd.zeroValue66
 t119:=Tryd.underlying55
 a119:=Tryd.isAgg55
 z119:=Tryd.sizeOf55
 t138:=Tryd.underlying57
 a138:=Tryd.isAgg57
 z138:=Tryd.sizeOf57
 v138:=Tryd.zeroValue57
 t139:=Tryd.underlying58
 a139:=Tryd.isAgg58
 z139:=Tryd.sizeOf58
 v139:=Tryd.zeroValue58
 g3:=by kernel_rfl
 g4:=by kernel_rfl }
def Tryd.lays260_ren:Go.Shelf.Ren:=⟨fun|260=>92|n=>n,fun|9=>9|21=>21|3=>3|4=>4|5=>5|119=>55|0=>0|46=>59|139=>58|138=>57|n=>n,fun|3=>0|4=>1|n=>n⟩
theorem Tryd.lays260:Go.Proofs.Lays.n260 Tryd.prog Tryd.lays260_ren:={
 mixed:=by kernel_rfl
 f260:=Tryd.func92.trans (congrArg some (by kernel_rfl))
 t0:=Tryd.underlying0
 a0:=Tryd.isAgg0
 z0:=Tryd.sizeOf0
 v0:=Tryd.zeroValue0
 t3:=Tryd.underlying3
 a3:=Tryd.isAgg3
 z3:=Tryd.sizeOf3
 v3:=Tryd.zeroValue3
 t4:=Tryd.underlying4
 a4:=Tryd.isAgg4
 z4:=Tryd.sizeOf4
 v4:=Tryd.zeroValue4
 t5:=Tryd.underlying5
 a5:=Tryd.isAgg5
 z5:=Tryd.sizeOf5
 v5:=Tryd.zeroValue5
 t9:=Tryd.underlying9
 a9:=Tryd.isAgg9
 z9:=Tryd.sizeOf9
 v9:=Tryd.zeroValue9
 t21:=Tryd.underlying21
 a21:=Tryd.isAgg21
 z21:=Tryd.sizeOf21
 v21:=Tryd.zeroValue21
 t46:=Tryd.underlying59
 a46:=Tryd.isAgg59
 z46:=Tryd.sizeOf59
 v46:=Tryd.zeroValue59
 t119:=Tryd.underlying55
 a119:=Tryd.isAgg55
 z119:=Tryd.sizeOf55
 t138:=Tryd.underlying57
 a138:=Tryd.isAgg57
 z138:=Tryd.sizeOf57
 v138:=Tryd.zeroValue57
 t139:=Tryd.underlying58
 a139:=Tryd.isAgg58
 z139:=Tryd.sizeOf58
 v139:=Tryd.zeroValue58
 g3:=by kernel_rfl
 g4:=by kernel_rfl }
open Go.RowKit Go.Lib in
theorem Tryd.utf8_DecodeRuneInString (s:ByteArray) (w:World) (hT:Lib.Utf8Tabs 0 1 w) :
  Calls Tryd.prog 65 #[.string s] w fun e w'=>e = .returned (.tuple #[.int .i32 (Lib.decodeGo s).1,.int .i64 (Lib.decodeGo s).2])∧Below w.heap.size w w':=Any.utf8_DecodeRuneInString Tryd.lays197 s w hT
end Go.Proofs
end
section
namespace Go.Proofs.YtjppikolddklfaaDoor
open Go.RowKit
def Tabs (w:World):Prop:=Lib.Utf8Tabs 0 1 w
theorem Tabs_below {w w' : World} (h:Tabs w) (hb:Below w.heap.size w w'):Tabs w':=Utf8Tabs_below h hb
end Go.Proofs.YtjppikolddklfaaDoor
end
section
namespace Go.Proofs.YtjppikolddklfaaDoor.PW
open Go.RowKit Go.Proofs.YtjppikolddklfaaDoorW.PrintWords Go.Proofs.YtjppikolddklfaaDoorW.PrintLast Go.Proofs.YtjppikolddklfaaDoorW.PrintMore
attribute [local go_sem] max2_int min2_int max_two min_two max_three min_three max_four min_four   
set_option linter.unusedVariables false
set_option linter.unusedSimpArgs false
theorem info2:(Tryd.prog.info? 2).map (fun i=>(i.zero,i.size,i.bytes))=some (some (.int .i64 0),1,8):=by kernel_rfl
theorem info4:(Tryd.prog.info? 4).map (fun i=>(i.zero,i.size,i.bytes))=some (some (.bool false),1,1):=by kernel_rfl
theorem info9:(Tryd.prog.info? 9).map (fun i=>(i.zero,i.size,i.bytes))=some (some (.string ⟨#[]⟩),1,16):=by kernel_rfl
theorem info45:(Tryd.prog.info? 45).map (fun i=>(i.zero,i.size,i.bytes))=some (some (.agg #[(.int .i64 0),(.int .i64 0),(.int .i64 0),(.bool false)]),4,32):=by kernel_rfl
structure S78 where
 f0:Int
 f1:Int
 f2:Int
 f3:Int
def z78:S78:=⟨(0:Int),(0:Int),(0:Int),(0:Int)⟩
def k78:Kd S78:=Kd.iso (Kd.pair (Kd.int .i64) (Kd.pair (Kd.int .i64) (Kd.pair (Kd.int .i64) (Kd.int .i64)))) (fun x:S78=>(x.f0,x.f1,x.f2,x.f3))
theorem k78_open {w:World} {x:S78} {cs:List Value} (h:k78.K w x cs):cs=[.int .i64 x.f0,.int .i64 x.f1,.int .i64 x.f2,.int .i64 x.f3]:=by
 obtain ⟨_,_,rfl,rfl,⟨_,_,rfl,rfl,⟨_,_,rfl,rfl,rfl⟩⟩⟩:=h
 exact rfl
theorem k78_mkM (w:World) (base:Nat) (ok:Nat→Prop) (x:S78)  : k78.M w base ok x [.int .i64 x.f0,.int .i64 x.f1,.int .i64 x.f2,.int .i64 x.f3]:=⟨[.int .i64 x.f0],[.int .i64 x.f1,.int .i64 x.f2,.int .i64 x.f3],rfl,rfl,⟨[.int .i64 x.f1],[.int .i64 x.f2,.int .i64 x.f3],rfl,rfl,⟨[.int .i64 x.f2],[.int .i64 x.f3],rfl,rfl,rfl⟩⟩⟩
def rd_T78 (xs:List S78) (i:Int):S78:=xs.getD i.toNat z78
theorem at_T78 {w:World} {A:Option Addr} {n:Nat} {xs:List S78} (h:Kd.C k78 w A n xs) (i:Int) (h0:0≤i) (h1:i<n):∃ ad ,A=some ad∧w.cell? (ad.add (i.toNat*4))=some (.int .i64 (rd_T78 xs i).f0)∧w.cell? ⟨(ad.add (i.toNat*4)).block,(ad.add (i.toNat*4)).off+1,none⟩=some (.int .i64 (rd_T78 xs i).f1)∧w.cell? ⟨(ad.add (i.toNat*4)).block,(ad.add (i.toNat*4)).off+2,none⟩=some (.int .i64 (rd_T78 xs i).f2)∧w.cell? ⟨(ad.add (i.toNat*4)).block,(ad.add (i.toNat*4)).off+3,none⟩=some (.int .i64 (rd_T78 xs i).f3):=by
 obtain ⟨ad,c,e,_,hK,hc0⟩:=Kd.C_get h z78 i h0 h1
 have hc:∀ j u,c[j]? = some u→w.cell? (ad.add (i.toNat*4+j))=some u:=hc0
 obtain rfl:=k78_open hK
 exact ⟨ad,e,hc 0 _ rfl,by rw [← add_field _ _ 1 (by omega)];exact hc 1 _ rfl,by rw [← add_field _ _ 2 (by omega)];exact hc 2 _ rfl,by rw [← add_field _ _ 3 (by omega)];exact hc 3 _ rfl⟩
structure S45 where
 f0:Int
 f1:Int
 f2:Int
 f3:Bool
def z45:S45:=⟨(0:Int),(0:Int),(0:Int),false⟩
def k45:Kd S45:=Kd.iso (Kd.pair (Kd.int .i64) (Kd.pair (Kd.int .i64) (Kd.pair (Kd.int .i64) Kd.bool))) (fun x:S45=>(x.f0,x.f1,x.f2,x.f3))
theorem k45_open {w:World} {x:S45} {cs:List Value} (h:k45.K w x cs):cs=[.int .i64 x.f0,.int .i64 x.f1,.int .i64 x.f2,.bool x.f3]:=by
 obtain ⟨_,_,rfl,rfl,⟨_,_,rfl,rfl,⟨_,_,rfl,rfl,rfl⟩⟩⟩:=h
 exact rfl
theorem k45_mkM (w:World) (base:Nat) (ok:Nat→Prop) (x:S45)  : k45.M w base ok x [.int .i64 x.f0,.int .i64 x.f1,.int .i64 x.f2,.bool x.f3]:=⟨[.int .i64 x.f0],[.int .i64 x.f1,.int .i64 x.f2,.bool x.f3],rfl,rfl,⟨[.int .i64 x.f1],[.int .i64 x.f2,.bool x.f3],rfl,rfl,⟨[.int .i64 x.f2],[.bool x.f3],rfl,rfl,rfl⟩⟩⟩
def rd_T45 (xs:List S45) (i:Int):S45:=xs.getD i.toNat z45
theorem at_T45 {w:World} {A:Option Addr} {n:Nat} {xs:List S45} (h:Kd.C k45 w A n xs) (i:Int) (h0:0≤i) (h1:i<n):∃ ad ,A=some ad∧w.cell? (ad.add (i.toNat*4))=some (.int .i64 (rd_T45 xs i).f0)∧w.cell? ⟨(ad.add (i.toNat*4)).block,(ad.add (i.toNat*4)).off+1,none⟩=some (.int .i64 (rd_T45 xs i).f1)∧w.cell? ⟨(ad.add (i.toNat*4)).block,(ad.add (i.toNat*4)).off+2,none⟩=some (.int .i64 (rd_T45 xs i).f2)∧w.cell? ⟨(ad.add (i.toNat*4)).block,(ad.add (i.toNat*4)).off+3,none⟩=some (.bool (rd_T45 xs i).f3):=by
 obtain ⟨ad,c,e,_,hK,hc0⟩:=Kd.C_get h z45 i h0 h1
 have hc:∀ j u,c[j]? = some u→w.cell? (ad.add (i.toNat*4+j))=some u:=hc0
 obtain rfl:=k45_open hK
 exact ⟨ad,e,hc 0 _ rfl,by rw [← add_field _ _ 1 (by omega)];exact hc 1 _ rfl,by rw [← add_field _ _ 2 (by omega)];exact hc 2 _ rfl,by rw [← add_field _ _ 3 (by omega)];exact hc 3 _ rfl⟩
def spec_l07Pieces.l0:Nat→ByteArray→List Int→List ByteArray→Int→Option (List ByteArray)
 | 0,_,_,_,_=>none
 | k+1,x0,x1,x5,x6=>if (wrap64 (x6+1))<(x1.length:Int) then (if 0≤x6 then (if x6<(x1.length:Int) then (if 0≤(wrap64 (x6+1)) then (if 0≤(rd x1 x6) then (if (rd x1 x6)≤(rd x1 (wrap64 (x6+1))) then (if (rd x1 (wrap64 (x6+1)))≤(x0.size:Int) then (if x5.length<8796093022208 then (spec_l07Pieces.l0 k x0 x1 (x5 ++ [x0.extract ((rd x1 x6):Int).toNat ((rd x1 (wrap64 (x6+1))):Int).toNat]) (wrap64 (x6+1))) else (none)) else (none)) else (none)) else (none)) else (none)) else (none)) else (none)) else (some x5)
def spec_l07Pieces.f (k:Nat) (a0:ByteArray) (l1:List Int):Option (List ByteArray):=spec_l07Pieces.l0 k a0 l1 (([]:List ByteArray)) 0
def spec_l07Pieces.T5:Bool × List (List Nat × List Nat):=(true,[([],[]),([],[]),([],[]),([],[]),([2,3],[2,3]),([4],[4]),([],[]),([],[]),([7],[7]),([6,8],[6,8]),([9],[9]),([1,5,10],[1,5,10]),([11],[11]),([0,12],[0,12]),([13,13,0,1,2,3,4,5,6,7,8,9,10,11,12,13],[0,13])])
def spec_l07Pieces.B5:List Nat:=[0,0,0,0,12,28,0,0,128,448,960,2046,4094,8191,16383]
theorem spec_l07Pieces.tab5:rtab .any (opsOf Tryd.f27 5)=spec_l07Pieces.T5:=by kernel_rfl
theorem spec_l07Pieces.bits5:waitsOk spec_l07Pieces.T5.2 spec_l07Pieces.B5=true:=by kernel_rfl
set_option maxHeartbeats 8000000 in
set_option maxRecDepth 100000 in
theorem spec_l07Pieces.calls (k:Nat) (a0:ByteArray) (A1:Option Addr) (c1:Nat) (l1:List Int) (r:List ByteArray) (w:World) (hr1:Kd.C (Kd.int .i64) w A1 l1.length l1) (hc1:l1.length≤c1) (h:spec_l07Pieces.f k a0 l1=some r) :
  Calls Tryd.prog 27 #[.string a0,.slice A1 l1.length c1] w fun e w'=>∃ v0_:Value,e = .returned (v0_)∧Kd.R Kd.string 9 w' w.heap.size (fun _=>True) v0_ r∧Below w.heap.size w w':=by
 have HR1:=Aside0.mk hr1
 have HC1:=Aside0.mk hc1
 clear hr1 hc1
 have HB:=Aside0.mk (Below.refl w.heap.size w)
 have H:(spec_l07Pieces.l0 k a0 l1 (([]:List ByteArray)) 0)=some r:=h
 clear h
 obtain ⟨y101,hy101⟩:∃ y_:List ByteArray,y_=(([]:List ByteArray)):=⟨_,rfl⟩
 replace H:(spec_l07Pieces.l0 k a0 l1 y101 0)=some r:=by first|(rw [hy101];with_reducible exact H)|(have H2_:=(Option.bind_some _ _).symm.trans H;rw [hy101];with_reducible exact H2_)|(have H2_:=(Option.bind_some _ _).symm.trans H;with_reducible exact H2_)|with_reducible exact H|(rw [hy101];exact H)|exact H
 have Ny101:=Aside0.mk hy101
 clear hy101
 have H':=Aside0.mk H
 clear H
 go_enter Tryd.func27,Tryd.ntmps27
 go_wp2_with (first|((with_reducible refine gate_dst (N:=7) rfl ?_);refine Kd.R_lit Kd.string _ 9 ?hg (N:=7) ?hd (xs:=([]:List ByteArray)) (inner:=[]) (ok:=fun _=>True) (okp:=fun _=>True) ?hr ?hp (fun _ hk=>hk) trivial (Below.refl _ _) (Nat.le_refl _) (by simp) ?_;(case hd=>rfl);(case hg=>rfl);(case hr=>first|(go_simp;done)|(go_simp;rfl));(case hp=>exact (Reps.none _ _));intro v102 w3 ho4 hb hg_ hnew_;clear hg_ hnew_;(first|rw [← Ny101.out] at ho4|(simp only [Int.reduceToNat] at ho4;rw [← Ny101.out] at ho4));have n0_:=Aside0.mk (Kd.R_lower ho4 (below_size (by repeat (first|(with_reducible first|exact HB.out|apply below_alloc|apply pw_below_drewN|apply below_drew1)|exact HB.out))));have n1_:=Aside0.mk (below_step (by repeat (first|(with_reducible first|exact HB.out|apply below_alloc|apply pw_below_drewN|apply below_drew1)|exact HB.out)) hb);clear HB;have HO103:=n0_;have HB:=n1_;clear n0_ n1_;clear hb ho4))
 go_loopg [5,6] k (fun kq v5 v6 w'=>∃ (x5_1:List ByteArray) (x6_1:Int),v6 = .int .i64 x6_1∧Aside0 (spec_l07Pieces.l0 kq a0 l1 x5_1 x6_1=some r)∧Aside0 (kq≤k)∧Aside0 (Kd.R Kd.string 9 w' w.heap.size (fun _=>True) v5 x5_1)∧Aside0 (Below w.heap.size w w'))
 case atStart=>exact ⟨(y101),(0),(by first|rfl|(simp;done)|(simp [*];done)),H',⟨Nat.le_refl _⟩,⟨by (with_reducible repeat (first|apply Kd.R_alloc|apply Kd.R_drewN|apply Kd.R_drew));exact HO103.out⟩,⟨by repeat (first|(with_reducible first|exact HB.out|apply below_alloc|apply pw_below_drewN|apply below_drew1)|exact HB.out)⟩⟩
 case round =>
  clear H'
  try clear c1
  try clear c2
  try clear p2
  obtain ⟨x5_1,x6_1,rfl,HA,HK1,HO_5,HB⟩:=hrel
  cases gk with
  | zero=>exact absurd HA.out (by simp [spec_l07Pieces.l0])
  | succ k1 =>
   have H:=HA.out
   clear HA
   simp only [spec_l07Pieces.l0] at H
   by_cases c5:(wrap64 (x6_1+1))<(l1.length:Int)
   ·
    rw [if_pos c5] at H
    have c5b0:decide ((wrap64 (x6_1+1))<(l1.length:Int))=true:=decide_eq_true c5
    clear c5
    by_cases c6:0≤x6_1
    ·
     rw [if_pos c6] at H
     have c6b0:decide (0≤x6_1)=true:=decide_eq_true c6
     clear c6
     by_cases c7:x6_1<(l1.length:Int)
     ·
      rw [if_pos c7] at H
      have c7b0:decide (x6_1<(l1.length:Int))=true:=decide_eq_true c7
      clear c7
      obtain ⟨ji8,hji8⟩:∃ j_:Int,(wrap64 (x6_1+1))=j_:=⟨_,rfl⟩
      replace H:(if 0≤(ji8) then (if 0≤(rd l1 x6_1) then (if (rd l1 x6_1)≤(rd l1 (ji8)) then (if (rd l1 (ji8))≤(a0.size:Int) then (if x5_1.length<8796093022208 then (spec_l07Pieces.l0 k1 a0 l1 (x5_1 ++ [a0.extract ((rd l1 x6_1):Int).toNat ((rd l1 (ji8)):Int).toNat]) ji8) else (none)) else (none)) else (none)) else (none)) else (none))=some r:=by first|(rw [hji8] at H;exact H)|(simp only [hji8] at H ⊢;exact H)
      (try rw [hji8] at c5b0)
      have hji8w:(IntKind.i64.wrap (x6_1+1))=ji8:=(i64_w _).trans hji8
      by_cases c9:0≤(ji8)
      ·
       rw [if_pos c9] at H
       have c9b0:decide (0≤(ji8))=true:=decide_eq_true c9
       clear c9
       by_cases c10:0≤(rd l1 x6_1)
       ·
        rw [if_pos c10] at H
        have c10b0:=eq_true c10
        have c10b1:decide (0≤(rd l1 x6_1))=true:=decide_eq_true c10
        clear c10
        by_cases c11:(rd l1 x6_1)≤(rd l1 (ji8))
        ·
         rw [if_pos c11] at H
         have c11b0:=eq_true c11
         have c11b1:decide ((rd l1 x6_1)≤(rd l1 (ji8)))=true:=decide_eq_true c11
         clear c11
         by_cases c12:(rd l1 (ji8))≤(a0.size:Int)
         ·
          rw [if_pos c12] at H
          have c12b0:=eq_true c12
          have c12b1:decide ((rd l1 (ji8))≤(a0.size:Int))=true:=decide_eq_true c12
          clear c12
          by_cases c13:x5_1.length<8796093022208
          ·
           rw [if_pos c13] at H
           have LMc13:=Aside0.mk c13
           clear c13
           obtain ⟨y106,hy106⟩:∃ y_:List ByteArray,y_=(x5_1 ++ [a0.extract ((rd l1 x6_1):Int).toNat ((rd l1 (ji8)):Int).toNat]):=⟨_,rfl⟩
           replace H:(spec_l07Pieces.l0 k1 a0 l1 y106 ji8)=some r:=by first|(rw [hy106];with_reducible exact H)|(have H2_:=(Option.bind_some _ _).symm.trans H;rw [hy106];with_reducible exact H2_)|(have H2_:=(Option.bind_some _ _).symm.trans H;with_reducible exact H2_)|with_reducible exact H|(rw [hy106];exact H)|exact H
           have Ny106:=Aside0.mk hy106
           clear hy106
           have H':=Aside0.mk H
           clear H
           try go_wp2
           have n0_:=Aside0.mk (Kd.R_drew HO_5.out)
           have n1_:=Aside0.mk (below_drew1 HB.out)
           clear HO_5
           clear HB
           have HO_5:=n0_
           have HB:=n1_
           clear n0_ n1_
           have p104:0≤(x6_1:Int):=of_decide_eq_true (by first|(with_reducible assumption)|assumption)
           have q104:x6_1<(l1.length:Int):=of_decide_eq_true (by first|(with_reducible assumption)|assumption)
           obtain ⟨ad104,e104,hx104_0⟩:=Kd.at_int HR1.out x6_1 p104 q104
           have hw104_0:=hx104_0
           cases e104
           replace hx104_0:=(HB.out.cell (World.block_lt_of_cell? _ _ hx104_0)).trans hx104_0
           replace p104:=eq_true p104
           replace q104:=eq_true q104
           have p105:0≤((ji8):Int):=of_decide_eq_true (by first|(with_reducible assumption)|assumption)
           have q105:(ji8)<(l1.length:Int):=of_decide_eq_true (by first|(with_reducible assumption)|assumption)
           obtain ⟨ad105,e105,hx105_0⟩:=Kd.at_int HR1.out (ji8) p105 q105
           have hw105_0:=hx105_0
           obtain rfl:ad104=ad105:=(by injection e105)
           replace hx105_0:=(HB.out.cell (World.block_lt_of_cell? _ _ hx105_0)).trans hx105_0
           replace p105:=eq_true p105
           replace q105:=eq_true q105
           refine start_ (n:=15) (S:=fun w'=>w'.cell? (ad104.add (x6_1).toNat)=some (.int .i64 (rd l1 x6_1))∧w'.cell? (ad104.add ((ji8)).toNat)=some (.int .i64 (rd l1 (ji8)))) (ds:=[]) #[false,false,false,false,false,false,false,false,false,false,false,false,false,false,false] (by kernel_rfl) rfl rfl ⟨((HB.out.cell (World.block_lt_of_cell? _ _ hw104_0)).trans hw104_0),((HB.out.cell (World.block_lt_of_cell? _ _ hw105_0)).trans hw105_0)⟩ (fun hHeld=>?_);refine with_tabW spec_l07Pieces.tab5 spec_l07Pieces.bits5 (fun HT_ HW_=>?_)
           generalize wr.drew=w14 at HO_5 HB hx104_0 hx105_0 hHeld ⊢
           refine pure_ (i:=0) (N:=some 15) (v:=?_) (a':=?_) #[true,false,false,false,false,false,false,false,false,false,false,false,false,false,false] rfl rfl (any_of HT_.out (by kernel_rfl)) (fun _ _ _ h=>h) (Or.inl ⟨by rfl,?_⟩) ?_ ?_
           rotate_left
           ·
            intro w'
            go_simp
            with_reducible rfl
           rotate_left
           ·
            simp only [Act.put,List.setIfInBounds_toArray,List.set_cons_zero,List.set_cons_succ,i64_w,i32_w]
            rfl
           refine pure_ (i:=1) (N:=some 16) (v:=?_) (a':=?_) #[true,true,false,false,false,false,false,false,false,false,false,false,false,false,false] rfl rfl (any_of HT_.out (by kernel_rfl)) (fun _ _ _ h=>h) (Or.inl ⟨by rfl,?_⟩) ?_ ?_
           rotate_left
           ·
            intro w'
            go_simp
            with_reducible rfl
           rotate_left
           ·
            simp only [Act.put,List.setIfInBounds_toArray,List.set_cons_zero,List.set_cons_succ,i64_w,i32_w]
            rfl
           refine pure_ (i:=2) (N:=some 17) (v:=?_) (a':=?_) #[true,true,true,false,false,false,false,false,false,false,false,false,false,false,false] rfl rfl (any_of HT_.out (by kernel_rfl)) (fun _ _ _ h=>h) (Or.inl ⟨by rfl,?_⟩) ?_ ?_
           rotate_left
           ·
            intro w'
            go_simp
            with_reducible rfl
           rotate_left
           ·
            simp only [Act.put,List.setIfInBounds_toArray,List.set_cons_zero,List.set_cons_succ,i64_w,i32_w]
            rfl
           refine pure_ (i:=3) (N:=some 18) (v:=?_) (a':=?_) #[true,true,true,true,false,false,false,false,false,false,false,false,false,false,false] rfl rfl (any_of HT_.out (by kernel_rfl)) (fun _ _ _ h=>h) (Or.inl ⟨by rfl,?_⟩) ?_ ?_
           rotate_left
           ·
            intro w'
            go_simp
            with_reducible rfl
           rotate_left
           ·
            simp only [Act.put,List.setIfInBounds_toArray,List.set_cons_zero,List.set_cons_succ,i64_w,i32_w]
            rfl
           refine pure_ (i:=4) (N:=some 19) (v:=?_) (a':=?_) #[true,true,true,true,true,false,false,false,false,false,false,false,false,false,false] rfl rfl (any_of HT_.out (by kernel_rfl)) (fun _ _ _ h=>h) (Or.inl ⟨by rfl,?_⟩) ?_ ?_
           rotate_left
           ·
            intro w'
            go_simp
            with_reducible rfl
           rotate_left
           ·
            simp only [Act.put,List.setIfInBounds_toArray,List.set_cons_zero,List.set_cons_succ,i64_w,i32_w]
            rfl
           refine pure_ (i:=6) (N:=some 21) (v:=?_) (a':=?_) #[true,true,true,true,true,false,true,false,false,false,false,false,false,false,false] rfl rfl (any_of HT_.out (by kernel_rfl)) (fun _ _ _ h=>h) (Or.inl ⟨by rfl,?_⟩) ?_ ?_
           rotate_left
           ·
            intro w'
            go_simp
            with_reducible rfl
           rotate_left
           ·
            simp only [Act.put,List.setIfInBounds_toArray,List.set_cons_zero,List.set_cons_succ,i64_w,i32_w]
            rfl
           refine pure_ (i:=7) (N:=some 22) (v:=?_) (a':=?_) #[true,true,true,true,true,false,true,true,false,false,false,false,false,false,false] rfl rfl (any_of HT_.out (by kernel_rfl)) (fun _ _ _ h=>h) (Or.inl ⟨by rfl,?_⟩) ?_ ?_
           rotate_left
           ·
            intro w'
            go_simp
            with_reducible rfl
           rotate_left
           ·
            simp only [Act.put,List.setIfInBounds_toArray,List.set_cons_zero,List.set_cons_succ,i64_w,i32_w]
            rfl
           refine pure_ (i:=8) (N:=some 23) (v:=?_) (a':=?_) #[true,true,true,true,true,false,true,true,true,false,false,false,false,false,false] rfl rfl (any_of HT_.out (by kernel_rfl)) (fun _ _ _ h=>h) (Or.inl ⟨by rfl,?_⟩) ?_ ?_
           rotate_left
           ·
            intro w'
            go_simp
            with_reducible rfl
           rotate_left
           ·
            simp only [Act.put,List.setIfInBounds_toArray,List.set_cons_zero,List.set_cons_succ,i64_w,i32_w]
            rfl
           refine pure_ (i:=9) (N:=some 24) (v:=?_) (a':=?_) #[true,true,true,true,true,false,true,true,true,true,false,false,false,false,false] rfl rfl (any_of HT_.out (by kernel_rfl)) (fun _ _ _ h=>h) (Or.inl ⟨by rfl,?_⟩) ?_ ?_
           rotate_left
           ·
            intro w'
            go_simp
            with_reducible rfl
           rotate_left
           ·
            simp only [Act.put,List.setIfInBounds_toArray,List.set_cons_zero,List.set_cons_succ,i64_w,i32_w]
            rfl
           refine take_ (i:=5) (N:=some 20) (v:=?_) (a':=?_) #[true,true,true,true,true,true,true,true,true,true,false,false,false,false,false] rfl rfl (take_ofW HT_.out HW_.out (by kernel_rfl)) (fun _ _ _ h=>h) (Or.inl ⟨by rfl,?_⟩) hHeld ?_ ?_
           rotate_left
           ·
            rintro w' ⟨s0,s1⟩
            go_simp
            with_reducible rfl
           rotate_left
           ·
            simp only [Act.put,List.setIfInBounds_toArray,List.set_cons_zero,List.set_cons_succ,i64_w,i32_w]
            rfl
           refine take_ (i:=10) (N:=some 25) (v:=?_) (a':=?_) #[true,true,true,true,true,true,true,true,true,true,true,false,false,false,false] rfl rfl (take_ofW HT_.out HW_.out (by kernel_rfl)) (fun _ _ _ h=>h) (Or.inl ⟨by rfl,?_⟩) hHeld ?_ ?_
           rotate_left
           ·
            rintro w' ⟨s0,s1⟩
            go_simp
            with_reducible rfl
           rotate_left
           ·
            simp only [Act.put,List.setIfInBounds_toArray,List.set_cons_zero,List.set_cons_succ,i64_w,i32_w]
            rfl
           refine pure_ (i:=11) (N:=some 26) (v:=?_) (a':=?_) #[true,true,true,true,true,true,true,true,true,true,true,true,false,false,false] rfl rfl (any_of HT_.out (by kernel_rfl)) (fun _ _ _ h=>h) (Or.inl ⟨by rfl,?_⟩) ?_ ?_
           rotate_left
           ·
            intro w'
            go_simp
            with_reducible rfl
           rotate_left
           ·
            simp only [Act.put,List.setIfInBounds_toArray,List.set_cons_zero,List.set_cons_succ,i64_w,i32_w]
            rfl
           refine one_ (i:=12) (N:=some 27) #[true,true,true,true,true,true,true,true,true,true,true,true,true,false,false] rfl rfl (one_of HT_.out (by kernel_rfl)) (by decide) (fun K hK=>?_)
           refine value_ (w1:=?_) (v:=?_) (by rfl) rfl ?_ ?_
           rotate_left 2
           ·
            go_simp
            constructor
            ·
             rfl
            ·
             rfl
           refine hK.out _ _ ⟨(World.cell?_alloc_lt _ _ _ (World.block_lt_of_cell? _ _ (((HB.out.cell (World.block_lt_of_cell? _ _ hw104_0)).trans hw104_0)))).trans (((HB.out.cell (World.block_lt_of_cell? _ _ hw104_0)).trans hw104_0)),(World.cell?_alloc_lt _ _ _ (World.block_lt_of_cell? _ _ (((HB.out.cell (World.block_lt_of_cell? _ _ hw105_0)).trans hw105_0)))).trans (((HB.out.cell (World.block_lt_of_cell? _ _ hw105_0)).trans hw105_0))⟩ (fun hHeld=>?_)
           clear hK K
           refine norm_ (a':=?_) ?_ ?_
           rotate_left
           ·
            show Act.put _ (some 27) _=_
            simp only [Act.put,List.setIfInBounds_toArray,List.set_cons_zero,List.set_cons_succ,i64_w,i32_w]
            rfl
           refine one_ (i:=13) (N:=some 28) #[true,true,true,true,true,true,true,true,true,true,true,true,true,true,false] rfl rfl (one_of HT_.out (by kernel_rfl)) (by decide) (fun K hK=>?_)
           refine Kd.R_append_step Kd.string (w0:=w) w.heap.size (by rfl) (.tmp 15) (.tmp 27) 33 9 (.string ⟨#[]⟩) 16 rfl Tryd.underlying33 info9 rfl (by decide) (by omega) u5 x5_1 (a0.extract ((rd l1 x6_1):Int).toNat ((rd l1 (ji8)):Int).toNat) [.string (a0.extract ((rd l1 x6_1):Int).toNat ((rd l1 (ji8)):Int).toNat)] (fun _=>True) (fun _=>False) rfl rfl ?aP (fun _ hk=>hk.elim) ?aF ?aO ?aB ?aS ?aL ?_
           (case aP=>exact rfl)
           (case aB=>exact (by repeat (first|(with_reducible first|exact HB.out|apply below_alloc|apply pw_below_drewN|apply below_drew1)|exact HB.out)))
           (case aF=>exact (fun _ _=>trivial))
           (case aO=>exact (by (with_reducible repeat (first|apply Kd.R_alloc|apply Kd.R_drewN|apply Kd.R_drew));exact HO_5.out))
           (case aS=>exact (below_size (by repeat (first|(with_reducible first|exact HB.out|apply below_alloc|apply pw_below_drewN|apply below_drew1)|exact HB.out))))
           (case aL=>have:=LMc13.out;omega)
           intro v107 w15 ho hb hg hat
           rw [← Ny106.out] at ho
           have n0_:=Aside0.mk (hb)
           have n1_:=Aside0.mk (ho)
           clear HB
           clear HO_5
           have HB:=n0_
           have HO108:=n1_
           clear n0_ n1_
           clear ho hb hg hat
           refine hK.out _ _ ⟨((HB.out.cell (World.block_lt_of_cell? _ _ hw104_0)).trans hw104_0),((HB.out.cell (World.block_lt_of_cell? _ _ hw105_0)).trans hw105_0)⟩ (fun hHeld=>?_)
           clear hK K
           refine norm_ (a':=?_) ?_ ?_
           rotate_left
           ·
            show Act.put _ (some 28) _=_
            simp only [Act.put,List.setIfInBounds_toArray,List.set_cons_zero,List.set_cons_succ,i64_w,i32_w]
            rfl
           refine pure_ (i:=14) (N:=some 5) (v:=?_) (a':=?_) #[true,true,true,true,true,true,true,true,true,true,true,true,true,true,true] rfl rfl (any_of HT_.out (by kernel_rfl)) (fun _ _ _ h=>h) (Or.inl ⟨by rfl,?_⟩) ?_ ?_
           rotate_left
           ·
            intro w'
            go_simp
            with_reducible rfl
           rotate_left
           ·
            simp only [Act.put,List.setIfInBounds_toArray,List.set_cons_zero,List.set_cons_succ,i64_w,i32_w]
            rfl
           refine done_ (done_of HT_.out (by kernel_rfl)) ?_
           try go_wp2
           go_roundg k1
           case measure=>have:=HK1.out;omega
           case rel=>exact ⟨(y106),(ji8),(by first|rfl|(simp;done)|(simp only [← hji8] <;> (first|rfl|simp))|(simp [*];done)),H',⟨by have:=HK1.out;omega⟩,⟨by (with_reducible repeat (first|apply Kd.R_alloc|apply Kd.R_drewN|apply Kd.R_drew));exact HO108.out⟩,⟨by repeat (first|(with_reducible first|exact HB.out|apply below_alloc|apply pw_below_drewN|apply below_drew1)|exact HB.out)⟩⟩
          ·
           rw [if_neg c13] at H
           exact absurd H (by simp)
         ·
          rw [if_neg c12] at H
          exact absurd H (by simp)
        ·
         rw [if_neg c11] at H
         exact absurd H (by simp)
       ·
        rw [if_neg c10] at H
        exact absurd H (by simp)
      ·
       rw [if_neg c9] at H
       exact absurd H (by simp)
     ·
      rw [if_neg c7] at H
      exact absurd H (by simp)
    ·
     rw [if_neg c6] at H
     exact absurd H (by simp)
   ·
    rw [if_neg c5] at H
    have c5b0:decide ((wrap64 (x6_1+1))<(l1.length:Int))=false:=decide_eq_false c5
    clear c5
    obtain rfl:=Option.some.inj H
    go_wp2
    go_ret
    exact ⟨_,by first|rfl|(simp [errW_none,errW_some] <;> rfl)|(simp [*,errW_none,errW_some] <;> rfl),by (with_reducible repeat (first|apply Kd.R_alloc|apply Kd.R_drewN|apply Kd.R_drew));exact HO_5.out,by repeat (first|(with_reducible first|exact HB.out|apply below_alloc|apply pw_below_drewN|apply below_drew1)|exact HB.out)⟩
def spec_l01IsPoint.f (a0:Int):Option (Bool):=if a0≥0 then (if a0≤1114111 then (if a0<55296 then (some true) else (some (decide (a0>57343)))) else (some false)) else (some false)
set_option maxHeartbeats 8000000 in
set_option maxRecDepth 100000 in
theorem spec_l01IsPoint.calls (a0:Int) (r:Bool) (w:World) (h:spec_l01IsPoint.f a0=some r) :
  Calls Tryd.prog 55 #[.int .i64 a0] w fun e w'=>e = .returned (.bool r)∧Drawn0 w w':=by
 have H:(if a0≥0 then (if a0≤1114111 then (if a0<55296 then (some true) else (some (decide (a0>57343)))) else (some false)) else (some false))=some r:=h
 clear h
 by_cases c2:a0≥0
 ·
  rw [if_pos c2] at H
  have c2b0:decide (0≤a0)=true:=decide_eq_true c2
  clear c2
  by_cases c3:a0≤1114111
  ·
   rw [if_pos c3] at H
   have c3b0:decide (a0≤1114111)=true:=decide_eq_true c3
   clear c3
   by_cases c4:a0<55296
   ·
    rw [if_pos c4] at H
    have c4b0:decide (a0<55296)=true:=decide_eq_true c4
    clear c4
    obtain rfl:=Option.some.inj H
    go_enter Tryd.func55,Tryd.ntmps55
    go_wp2
    go_ret
    exact ⟨by first|rfl|(simp;done)|(simp [*];done),by repeat (first|exact Drawn0.refl _|apply Drawn0.step)⟩
   ·
    rw [if_neg c4] at H
    have c4b0:decide (a0<55296)=false:=decide_eq_false c4
    clear c4
    obtain rfl:=Option.some.inj H
    go_enter Tryd.func55,Tryd.ntmps55
    go_wp2
    go_ret
    exact ⟨by first|rfl|(simp;done)|(simp [*];done),by repeat (first|exact Drawn0.refl _|apply Drawn0.step)⟩
  ·
   rw [if_neg c3] at H
   have c3b0:decide (a0≤1114111)=false:=decide_eq_false c3
   clear c3
   obtain rfl:=Option.some.inj H
   go_enter Tryd.func55,Tryd.ntmps55
   go_wp2
   go_ret
   exact ⟨by first|rfl|(simp;done)|(simp [*];done),by repeat (first|exact Drawn0.refl _|apply Drawn0.step)⟩
 ·
  rw [if_neg c2] at H
  have c2b0:decide (0≤a0)=false:=decide_eq_false c2
  clear c2
  obtain rfl:=Option.some.inj H
  go_enter Tryd.func55,Tryd.ntmps55
  go_wp2
  go_ret
  exact ⟨by first|rfl|(simp;done)|(simp [*];done),by repeat (first|exact Drawn0.refl _|apply Drawn0.step)⟩
def spec_l01Write.j0:Nat→Int→Option (ByteArray)
 | 0,_=>none
 | k+1,x0=>if x0<128 then (some (strOfNums (([(x0) % 256]:List Int)))) else (if x0<2048 then (some (strOfNums (([(wrap64 (192+(wrap64 (Int.tdiv x0 64)))) % 256,(wrap64 (128+(Int.tmod x0 64))) % 256]:List Int)))) else (if x0<65536 then (some (strOfNums (([(wrap64 (224+(wrap64 (Int.tdiv x0 4096)))) % 256,(wrap64 (128+(Int.tmod (wrap64 (Int.tdiv x0 64)) 64))) % 256,(wrap64 (128+(Int.tmod x0 64))) % 256]:List Int)))) else (some (strOfNums (([(wrap64 (240+(wrap64 (Int.tdiv x0 262144)))) % 256,(wrap64 (128+(Int.tmod (wrap64 (Int.tdiv x0 4096)) 64))) % 256,(wrap64 (128+(Int.tmod (wrap64 (Int.tdiv x0 64)) 64))) % 256,(wrap64 (128+(Int.tmod x0 64))) % 256]:List Int))))))
def spec_l01Write.f (k:Nat) (a0:Int):Option (ByteArray):=(spec_l01IsPoint.f a0).bind fun t109=>(if t109=true then (spec_l01Write.j0 k a0) else (spec_l01Write.j0 k 65533))
set_option maxHeartbeats 8000000 in
set_option maxRecDepth 100000 in
theorem spec_l01Write.calls (k:Nat) (a0:Int) (r:ByteArray) (w:World) (h:spec_l01Write.f k a0=some r) :
  Calls Tryd.prog 56 #[.int .i64 a0] w fun e w'=>e = .returned (.string r)∧Below w.heap.size w w':=by
 have HB:=Aside0.mk (Below.refl w.heap.size w)
 have H:((spec_l01IsPoint.f a0).bind fun t109=>(if t109=true then (spec_l01Write.j0 k a0) else (spec_l01Write.j0 k 65533)))=some r:=h
 clear h
 replace H:=Option.bind_eq_some_iff.mp H
 obtain ⟨t109,A20,H⟩:=H
 replace H:(if t109=true then (spec_l01Write.j0 k a0) else (spec_l01Write.j0 k 65533))=some r:=H
 have A2:=Aside0.mk A20
 clear A20
 have HC3:=Aside0.mk H
 clear H
 go_enter Tryd.func56,Tryd.ntmps56
 go_upto_if 5 with (first|((with_reducible refine gate_callee (f:=55) rfl ?_);refine goesL_ (some 4) rfl rfl Tryd.func55 (by kernel_rfl) rfl #[.int .i64 a0] rfl (by (try simp only [List.map_toArray,List.map_cons,List.map_nil]);first|done|rfl|(simp only [List.length_drop,List.length_take];rfl)) ?_;(with_reducible refine (spec_l01IsPoint.calls a0 t109 _ A2.out).mono ?_);rintro e w' ⟨rfl,⟨nd,rfl⟩⟩;refine ⟨_,rfl,?_⟩))
 (try simp only [Act.put,List.setIfInBounds_toArray,List.set_cons_zero,List.set_cons_succ])
 go_cut [0] (fun v0 wc=>∃ (kq:Nat) (x0_2:Int),v0 = .int .i64 x0_2∧Aside0 (spec_l01Write.j0 kq x0_2=some r)∧Aside0 (kq≤k)∧Aside0 (Below w.heap.size w wc))
 case first =>
  have H:=HC3.out
  clear HC3
  by_cases c4:t109=true
  ·
   subst c4
   have H1:(spec_l01Write.j0 k a0)=some r:=by rw [if_pos rfl] at H;exact H
   clear H
   have H:=H1
   clear H1
   have H':=Aside0.mk H
   clear H
   go_wp2
   go_meet
   case rel=>exact ⟨_,(a0),(by first|rfl|(simp;done)|(simp [*];done)),H',⟨by first|omega|exact Nat.le_refl _⟩,⟨by repeat (first|(with_reducible first|exact HB.out|apply below_alloc|apply pw_below_drewN|apply below_drew1)|exact HB.out)⟩⟩
  ·
   replace c4:=Bool.eq_false_iff.mpr c4
   subst c4
   have H1:(spec_l01Write.j0 k 65533)=some r:=by rw [if_neg (show ¬ (false=true) by decide)] at H;exact H
   clear H
   have H:=H1
   clear H1
   have H':=Aside0.mk H
   clear H
   go_wp2
   go_meet
   case rel=>exact ⟨_,(65533),(by first|rfl|(simp;done)|(simp [*];done)),H',⟨by first|omega|exact Nat.le_refl _⟩,⟨by repeat (first|(with_reducible first|exact HB.out|apply below_alloc|apply pw_below_drewN|apply below_drew1)|exact HB.out)⟩⟩
 case rest =>
  clear HC3
  try clear p2
  try clear c4
  obtain ⟨kq,x0_2,rfl,HA,HJ2,HB⟩:=hcut
  cases kq with
  | zero=>exact absurd HA.out (by simp [spec_l01Write.j0])
  | succ kj2 =>
   have H:=HA.out
   clear HA
   simp only [spec_l01Write.j0] at H
   by_cases c5:x0_2<128
   ·
    rw [if_pos c5] at H
    have c5b0:decide (x0_2<128)=true:=decide_eq_true c5
    clear c5
    obtain ⟨y110,hy110⟩:∃ y_:List Int,y_=(([(x0_2) % 256]:List Int)):=⟨_,rfl⟩
    replace H:(some (strOfNums y110))=some r:=by first|(rw [hy110];with_reducible exact H)|(have H2_:=(Option.bind_some _ _).symm.trans H;rw [hy110];with_reducible exact H2_)|(have H2_:=(Option.bind_some _ _).symm.trans H;with_reducible exact H2_)|with_reducible exact H|(rw [hy110];exact H)|exact H
    have Ny110:=Aside0.mk hy110
    clear hy110
    obtain rfl:=Option.some.inj H
    go_wp2_with (first|((with_reducible refine gate_dst (N:=11) rfl ?_);refine Kd.R_lit (Kd.int .u8) _ 5 ?hg (N:=11) ?hd (xs:=([(x0_2) % 256]:List Int)) (inner:=[.int .u8 ((x0_2) % 256)]) (ok:=fun _=>True) (okp:=fun _=>True) ?hr ?hp (fun _ hk=>hk) trivial (Below.refl _ _) (Nat.le_refl _) (by simp) ?_;(case hd=>rfl);(case hg=>rfl);(case hr=>first|(go_simp;done)|(go_simp;rfl));(case hp=>exact (Reps.one (show Kd.M (Kd.int .u8) _ _ _ ((x0_2) % 256) [.int .u8 ((x0_2) % 256)] from rfl) (Reps.none _ _)));intro v111 w6 ho7 hb hg_ hnew_;clear hg_ hnew_;(first|rw [← Ny110.out] at ho7|(simp only [Int.reduceToNat] at ho7;rw [← Ny110.out] at ho7));have n0_:=Aside0.mk (Kd.R_lower ho7 (below_size (by repeat (first|(with_reducible first|exact HB.out|apply below_alloc|apply pw_below_drewN|apply below_drew1)|exact HB.out))));have n1_:=Aside0.mk (below_step (by repeat (first|(with_reducible first|exact HB.out|apply below_alloc|apply pw_below_drewN|apply below_drew1)|exact HB.out)) hb);clear HB;have HO112:=n0_;have HB:=n1_;clear n0_ n1_;clear hb ho7;have hcv8:=own_string (P:=Tryd.prog) Tryd.underlying60 Tryd.underlying5 Tryd.underlying9 (Kd.own_of_R HO112.out)))
    go_ret
    exact ⟨by first|rfl|(simp [errW_none,errW_some] <;> rfl)|(simp [*,errW_none,errW_some] <;> rfl),by repeat (first|(with_reducible first|exact HB.out|apply below_alloc|apply pw_below_drewN|apply below_drew1)|exact HB.out)⟩
   ·
    rw [if_neg c5] at H
    have c5b0:decide (x0_2<128)=false:=decide_eq_false c5
    clear c5
    by_cases c9:x0_2<2048
    ·
     rw [if_pos c9] at H
     have c9b0:decide (x0_2<2048)=true:=decide_eq_true c9
     clear c9
     obtain ⟨y113,hy113⟩:∃ y_:List Int,y_=(([(wrap64 (192+(wrap64 (Int.tdiv x0_2 64)))) % 256,(wrap64 (128+(Int.tmod x0_2 64))) % 256]:List Int)):=⟨_,rfl⟩
     replace H:(some (strOfNums y113))=some r:=by first|(rw [hy113];with_reducible exact H)|(have H2_:=(Option.bind_some _ _).symm.trans H;rw [hy113];with_reducible exact H2_)|(have H2_:=(Option.bind_some _ _).symm.trans H;with_reducible exact H2_)|with_reducible exact H|(rw [hy113];exact H)|exact H
     have Ny113:=Aside0.mk hy113
     clear hy113
     obtain rfl:=Option.some.inj H
     go_wp2_with (first|((with_reducible refine gate_dst (N:=24) rfl ?_);refine Kd.R_lit (Kd.int .u8) _ 5 ?hg (N:=24) ?hd (xs:=([(wrap64 (192+(wrap64 (Int.tdiv x0_2 64)))) % 256,(wrap64 (128+(Int.tmod x0_2 64))) % 256]:List Int)) (inner:=[.int .u8 ((wrap64 (192+(wrap64 (Int.tdiv x0_2 64)))) % 256),.int .u8 ((wrap64 (128+(Int.tmod x0_2 64))) % 256)]) (ok:=fun _=>True) (okp:=fun _=>True) ?hr ?hp (fun _ hk=>hk) trivial (Below.refl _ _) (Nat.le_refl _) (by simp) ?_;(case hd=>rfl);(case hg=>rfl);(case hr=>first|(go_simp;done)|(go_simp;rfl));(case hp=>exact (Reps.one (show Kd.M (Kd.int .u8) _ _ _ ((wrap64 (192+(wrap64 (Int.tdiv x0_2 64)))) % 256) [.int .u8 ((wrap64 (192+(wrap64 (Int.tdiv x0_2 64)))) % 256)] from rfl) (Reps.one (show Kd.M (Kd.int .u8) _ _ _ ((wrap64 (128+(Int.tmod x0_2 64))) % 256) [.int .u8 ((wrap64 (128+(Int.tmod x0_2 64))) % 256)] from rfl) (Reps.none _ _))));intro v114 w10 ho11 hb hg_ hnew_;clear hg_ hnew_;(first|rw [← Ny113.out] at ho11|(simp only [Int.reduceToNat] at ho11;rw [← Ny113.out] at ho11));have n0_:=Aside0.mk (Kd.R_lower ho11 (below_size (by repeat (first|(with_reducible first|exact HB.out|apply below_alloc|apply pw_below_drewN|apply below_drew1)|exact HB.out))));have n1_:=Aside0.mk (below_step (by repeat (first|(with_reducible first|exact HB.out|apply below_alloc|apply pw_below_drewN|apply below_drew1)|exact HB.out)) hb);clear HB;have HO115:=n0_;have HB:=n1_;clear n0_ n1_;clear hb ho11;have hcv12:=own_string (P:=Tryd.prog) Tryd.underlying60 Tryd.underlying5 Tryd.underlying9 (Kd.own_of_R HO115.out)))
     go_ret
     exact ⟨by first|rfl|(simp [errW_none,errW_some] <;> rfl)|(simp [*,errW_none,errW_some] <;> rfl),by repeat (first|(with_reducible first|exact HB.out|apply below_alloc|apply pw_below_drewN|apply below_drew1)|exact HB.out)⟩
    ·
     rw [if_neg c9] at H
     have c9b0:decide (x0_2<2048)=false:=decide_eq_false c9
     clear c9
     by_cases c13:x0_2<65536
     ·
      rw [if_pos c13] at H
      have c13b0:decide (x0_2<65536)=true:=decide_eq_true c13
      clear c13
      obtain ⟨y116,hy116⟩:∃ y_:List Int,y_=(([(wrap64 (224+(wrap64 (Int.tdiv x0_2 4096)))) % 256,(wrap64 (128+(Int.tmod (wrap64 (Int.tdiv x0_2 64)) 64))) % 256,(wrap64 (128+(Int.tmod x0_2 64))) % 256]:List Int)):=⟨_,rfl⟩
      replace H:(some (strOfNums y116))=some r:=by first|(rw [hy116];with_reducible exact H)|(have H2_:=(Option.bind_some _ _).symm.trans H;rw [hy116];with_reducible exact H2_)|(have H2_:=(Option.bind_some _ _).symm.trans H;with_reducible exact H2_)|with_reducible exact H|(rw [hy116];exact H)|exact H
      have Ny116:=Aside0.mk hy116
      clear hy116
      obtain rfl:=Option.some.inj H
      go_wp2_with (first|((with_reducible refine gate_dst (N:=42) rfl ?_);refine Kd.R_lit (Kd.int .u8) _ 5 ?hg (N:=42) ?hd (xs:=([(wrap64 (224+(wrap64 (Int.tdiv x0_2 4096)))) % 256,(wrap64 (128+(Int.tmod (wrap64 (Int.tdiv x0_2 64)) 64))) % 256,(wrap64 (128+(Int.tmod x0_2 64))) % 256]:List Int)) (inner:=[.int .u8 ((wrap64 (224+(wrap64 (Int.tdiv x0_2 4096)))) % 256),.int .u8 ((wrap64 (128+(Int.tmod (wrap64 (Int.tdiv x0_2 64)) 64))) % 256),.int .u8 ((wrap64 (128+(Int.tmod x0_2 64))) % 256)]) (ok:=fun _=>True) (okp:=fun _=>True) ?hr ?hp (fun _ hk=>hk) trivial (Below.refl _ _) (Nat.le_refl _) (by simp) ?_;(case hd=>rfl);(case hg=>rfl);(case hr=>first|(go_simp;done)|(go_simp;rfl));(case hp=>exact (Reps.one (show Kd.M (Kd.int .u8) _ _ _ ((wrap64 (224+(wrap64 (Int.tdiv x0_2 4096)))) % 256) [.int .u8 ((wrap64 (224+(wrap64 (Int.tdiv x0_2 4096)))) % 256)] from rfl) (Reps.one (show Kd.M (Kd.int .u8) _ _ _ ((wrap64 (128+(Int.tmod (wrap64 (Int.tdiv x0_2 64)) 64))) % 256) [.int .u8 ((wrap64 (128+(Int.tmod (wrap64 (Int.tdiv x0_2 64)) 64))) % 256)] from rfl) (Reps.one (show Kd.M (Kd.int .u8) _ _ _ ((wrap64 (128+(Int.tmod x0_2 64))) % 256) [.int .u8 ((wrap64 (128+(Int.tmod x0_2 64))) % 256)] from rfl) (Reps.none _ _)))));intro v117 w14 ho15 hb hg_ hnew_;clear hg_ hnew_;(first|rw [← Ny116.out] at ho15|(simp only [Int.reduceToNat] at ho15;rw [← Ny116.out] at ho15));have n0_:=Aside0.mk (Kd.R_lower ho15 (below_size (by repeat (first|(with_reducible first|exact HB.out|apply below_alloc|apply pw_below_drewN|apply below_drew1)|exact HB.out))));have n1_:=Aside0.mk (below_step (by repeat (first|(with_reducible first|exact HB.out|apply below_alloc|apply pw_below_drewN|apply below_drew1)|exact HB.out)) hb);clear HB;have HO118:=n0_;have HB:=n1_;clear n0_ n1_;clear hb ho15;have hcv16:=own_string (P:=Tryd.prog) Tryd.underlying60 Tryd.underlying5 Tryd.underlying9 (Kd.own_of_R HO118.out)))
      go_ret
      exact ⟨by first|rfl|(simp [errW_none,errW_some] <;> rfl)|(simp [*,errW_none,errW_some] <;> rfl),by repeat (first|(with_reducible first|exact HB.out|apply below_alloc|apply pw_below_drewN|apply below_drew1)|exact HB.out)⟩
     ·
      rw [if_neg c13] at H
      have c13b0:decide (x0_2<65536)=false:=decide_eq_false c13
      clear c13
      obtain ⟨y119,hy119⟩:∃ y_:List Int,y_=(([(wrap64 (240+(wrap64 (Int.tdiv x0_2 262144)))) % 256,(wrap64 (128+(Int.tmod (wrap64 (Int.tdiv x0_2 4096)) 64))) % 256,(wrap64 (128+(Int.tmod (wrap64 (Int.tdiv x0_2 64)) 64))) % 256,(wrap64 (128+(Int.tmod x0_2 64))) % 256]:List Int)):=⟨_,rfl⟩
      replace H:(some (strOfNums y119))=some r:=by first|(rw [hy119];with_reducible exact H)|(have H2_:=(Option.bind_some _ _).symm.trans H;rw [hy119];with_reducible exact H2_)|(have H2_:=(Option.bind_some _ _).symm.trans H;with_reducible exact H2_)|with_reducible exact H|(rw [hy119];exact H)|exact H
      have Ny119:=Aside0.mk hy119
      clear hy119
      obtain rfl:=Option.some.inj H
      go_wp2_with (first|((with_reducible refine gate_dst (N:=62) rfl ?_);refine Kd.R_lit (Kd.int .u8) _ 5 ?hg (N:=62) ?hd (xs:=([(wrap64 (240+(wrap64 (Int.tdiv x0_2 262144)))) % 256,(wrap64 (128+(Int.tmod (wrap64 (Int.tdiv x0_2 4096)) 64))) % 256,(wrap64 (128+(Int.tmod (wrap64 (Int.tdiv x0_2 64)) 64))) % 256,(wrap64 (128+(Int.tmod x0_2 64))) % 256]:List Int)) (inner:=[.int .u8 ((wrap64 (240+(wrap64 (Int.tdiv x0_2 262144)))) % 256),.int .u8 ((wrap64 (128+(Int.tmod (wrap64 (Int.tdiv x0_2 4096)) 64))) % 256),.int .u8 ((wrap64 (128+(Int.tmod (wrap64 (Int.tdiv x0_2 64)) 64))) % 256),.int .u8 ((wrap64 (128+(Int.tmod x0_2 64))) % 256)]) (ok:=fun _=>True) (okp:=fun _=>True) ?hr ?hp (fun _ hk=>hk) trivial (Below.refl _ _) (Nat.le_refl _) (by simp) ?_;(case hd=>rfl);(case hg=>rfl);(case hr=>first|(go_simp;done)|(go_simp;rfl));(case hp=>exact (Reps.one (show Kd.M (Kd.int .u8) _ _ _ ((wrap64 (240+(wrap64 (Int.tdiv x0_2 262144)))) % 256) [.int .u8 ((wrap64 (240+(wrap64 (Int.tdiv x0_2 262144)))) % 256)] from rfl) (Reps.one (show Kd.M (Kd.int .u8) _ _ _ ((wrap64 (128+(Int.tmod (wrap64 (Int.tdiv x0_2 4096)) 64))) % 256) [.int .u8 ((wrap64 (128+(Int.tmod (wrap64 (Int.tdiv x0_2 4096)) 64))) % 256)] from rfl) (Reps.one (show Kd.M (Kd.int .u8) _ _ _ ((wrap64 (128+(Int.tmod (wrap64 (Int.tdiv x0_2 64)) 64))) % 256) [.int .u8 ((wrap64 (128+(Int.tmod (wrap64 (Int.tdiv x0_2 64)) 64))) % 256)] from rfl) (Reps.one (show Kd.M (Kd.int .u8) _ _ _ ((wrap64 (128+(Int.tmod x0_2 64))) % 256) [.int .u8 ((wrap64 (128+(Int.tmod x0_2 64))) % 256)] from rfl) (Reps.none _ _))))));intro v120 w17 ho18 hb hg_ hnew_;clear hg_ hnew_;(first|rw [← Ny119.out] at ho18|(simp only [Int.reduceToNat] at ho18;rw [← Ny119.out] at ho18));have n0_:=Aside0.mk (Kd.R_lower ho18 (below_size (by repeat (first|(with_reducible first|exact HB.out|apply below_alloc|apply pw_below_drewN|apply below_drew1)|exact HB.out))));have n1_:=Aside0.mk (below_step (by repeat (first|(with_reducible first|exact HB.out|apply below_alloc|apply pw_below_drewN|apply below_drew1)|exact HB.out)) hb);clear HB;have HO121:=n0_;have HB:=n1_;clear n0_ n1_;clear hb ho18;have hcv19:=own_string (P:=Tryd.prog) Tryd.underlying60 Tryd.underlying5 Tryd.underlying9 (Kd.own_of_R HO121.out)))
      go_ret
      exact ⟨by first|rfl|(simp [errW_none,errW_some] <;> rfl)|(simp [*,errW_none,errW_some] <;> rfl),by repeat (first|(with_reducible first|exact HB.out|apply below_alloc|apply pw_below_drewN|apply below_drew1)|exact HB.out)⟩
mutual
def spec_l01Next.j2:Nat→ByteArray→Int→Int→Int→Option (Int × Int × Bool)
 | 0,_,_,_,_=>none
 | k+1,x0,x1,x8,x9=>if (wrap64 (x1+x8))≥(x0.size:Int) then (some (65533,1,false)) else (spec_l01Next.l0 k x0 x1 x8 x9 1)
def spec_l01Next.l0:Nat→ByteArray→Int→Int→Int→Int→Option (Int × Int × Bool)
 | 0,_,_,_,_,_=>none
 | k+1,x0,x1,x8,x9,x10=>if x10≤x8 then (if 0≤(wrap64 (x1+x10)) then (if (wrap64 (x1+x10))<(x0.size:Int) then (if (wrap64 (bt x0 (wrap64 (x1+x10))))<128 then (some (65533,1,false)) else (if (wrap64 (bt x0 (wrap64 (x1+x10))))>191 then (some (65533,1,false)) else (spec_l01Next.l0 k x0 x1 x8 (wrap64 ((wrap64 (x9*64))+(Int.tmod (wrap64 (bt x0 (wrap64 (x1+x10)))) 64))) (wrap64 (x10+1))))) else (none)) else (none)) else ((spec_l01IsPoint.f x9).bind fun t122=>(if t122=true then ((spec_l01Write.f k x9).bind fun t123=>(if (t123.size:Int)=(wrap64 (x8+1)) then (some (x9,wrap64 (x8+1),true)) else (some (65533,1,false)))) else (some (65533,1,false))))
def spec_l01Next.j0:Nat→ByteArray→Int→Int→Bool→Option (Int × Int × Bool)
 | 0,_,_,_,_=>none
 | k+1,x0,x1,x7,x21=>if x21=true then (spec_l01Next.j2 k x0 x1 1 (Int.tmod x7 32)) else (if x7≥224 then (spec_l01Next.j1 k x0 x1 x7 (decide (x7<240))) else (spec_l01Next.j1 k x0 x1 x7 false))
def spec_l01Next.j1:Nat→ByteArray→Int→Int→Bool→Option (Int × Int × Bool)
 | 0,_,_,_,_=>none
 | k+1,x0,x1,x7,x30=>if x30=true then (spec_l01Next.j2 k x0 x1 2 (Int.tmod x7 16)) else (if x7≥240 then (if x7<245 then (spec_l01Next.j2 k x0 x1 3 (Int.tmod x7 8)) else (some (65533,1,false))) else (some (65533,1,false)))
end
def spec_l01Next.f (k:Nat) (a0:ByteArray) (a1:Int):Option (Int × Int × Bool):=if 0≤a1 then (if a1<(a0.size:Int) then (if (wrap64 (bt a0 a1))<128 then (some (wrap64 (bt a0 a1),1,true)) else (if (wrap64 (bt a0 a1))≥194 then (spec_l01Next.j0 k a0 a1 (wrap64 (bt a0 a1)) (decide ((wrap64 (bt a0 a1))<224))) else (spec_l01Next.j0 k a0 a1 (wrap64 (bt a0 a1)) false))) else (none)) else (none)
set_option maxHeartbeats 8000000 in
set_option maxRecDepth 100000 in
theorem spec_l01Next.calls (k:Nat) (a0:ByteArray) (a1:Int) (r1:Int) (r2:Int) (r3:Bool) (w:World) (h:spec_l01Next.f k a0 a1=some (r1,r2,r3)) :
  Calls Tryd.prog 39 #[.string a0,.int .i64 a1] w fun e w'=>e = .returned (.tuple #[.int .i64 r1,.int .i64 r2,.bool r3])∧Below w.heap.size w w':=by
 have HB:=Aside0.mk (Below.refl w.heap.size w)
 have H:(if 0≤a1 then (if a1<(a0.size:Int) then (if (wrap64 (bt a0 a1))<128 then (some (wrap64 (bt a0 a1),1,true)) else (if (wrap64 (bt a0 a1))≥194 then (spec_l01Next.j0 k a0 a1 (wrap64 (bt a0 a1)) (decide ((wrap64 (bt a0 a1))<224))) else (spec_l01Next.j0 k a0 a1 (wrap64 (bt a0 a1)) false))) else (none)) else (none))=some (r1,r2,r3):=h
 clear h
 by_cases c3:0≤a1
 ·
  rw [if_pos c3] at H
  have c3b0:decide (0≤a1)=true:=decide_eq_true c3
  clear c3
  by_cases c4:a1<(a0.size:Int)
  ·
   rw [if_pos c4] at H
   have c4b0:decide (a1<(a0.size:Int))=true:=decide_eq_true c4
   clear c4
   have HC6:=Aside0.mk H
   clear H
   have p5:0≤(a1:Int):=of_decide_eq_true (by first|(with_reducible assumption)|assumption)
   have q5:a1<(a0.size:Int):=of_decide_eq_true (by first|(with_reducible assumption)|assumption)
   have hx5:=bt_at a0 a1
   replace p5:=eq_true p5
   replace q5:=eq_true q5
   go_enter Tryd.func39,Tryd.ntmps39
   go_upto_block 0 with (fail)
   go_cut [8,9] (fun v8 v9 wc=>∃ (kq:Nat) (x8_5:Int) (x9_5:Int),v8 = .int .i64 x8_5∧v9 = .int .i64 x9_5∧Aside0 (spec_l01Next.j2 kq a0 a1 x8_5 x9_5=some (r1,r2,r3))∧Aside0 (kq≤k)∧Aside0 (Below w.heap.size w wc))
   case first =>
    have H:=HC6.out
    clear HC6
    by_cases c7:(wrap64 (bt a0 a1))<128
    ·
     rw [if_pos c7] at H
     have c7b0:decide ((wrap64 (bt a0 a1))<128)=true:=decide_eq_true c7
     clear c7
     (first|rw [c7b0]|(simp only [i64_w,i32_w];rw [c7b0])|skip)
     simp only [Option.some.injEq,Prod.mk.injEq] at H
     obtain ⟨rfl,rfl,rfl⟩:=H
     go_wp2
     go_ret3
     exact ⟨by first|rfl|(simp [errW_none,errW_some] <;> rfl)|(simp [*,errW_none,errW_some] <;> rfl),by repeat (first|(with_reducible first|exact HB.out|apply below_alloc|apply pw_below_drewN|apply below_drew1)|exact HB.out)⟩
    ·
     rw [if_neg c7] at H
     have c7b0:decide ((wrap64 (bt a0 a1))<128)=false:=decide_eq_false c7
     clear c7
     (first|rw [c7b0]|(simp only [i64_w,i32_w];rw [c7b0])|skip)
     have HC8:=Aside0.mk H
     clear H
     go_upto_region 7 with (fail)
     go_cut [21] (fun v21 wc=>∃ (kq:Nat) (x21_7:Bool),v21 = .bool x21_7∧Aside0 (spec_l01Next.j0 kq a0 a1 (wrap64 (bt a0 a1)) x21_7=some (r1,r2,r3))∧Aside0 (kq≤k)∧Aside0 (Below w.heap.size w wc))
     case first =>
      have H:=HC8.out
      clear HC8
      by_cases c9:(wrap64 (bt a0 a1))≥194
      ·
       rw [if_pos c9] at H
       have c9b0:decide (194≤(wrap64 (bt a0 a1)))=true:=decide_eq_true c9
       clear c9
       (first|rw [c9b0]|(simp only [i64_w,i32_w];rw [c9b0])|skip)
       have H':=Aside0.mk H
       clear H
       go_wp2
       go_meet
       case rel=>exact ⟨_,(decide ((wrap64 (bt a0 a1))<224)),(by first|rfl|(simp;done)|(simp [*];done)),H',⟨by first|omega|exact Nat.le_refl _⟩,⟨by repeat (first|(with_reducible first|exact HB.out|apply below_alloc|apply pw_below_drewN|apply below_drew1)|exact HB.out)⟩⟩
      ·
       rw [if_neg c9] at H
       have c9b0:decide (194≤(wrap64 (bt a0 a1)))=false:=decide_eq_false c9
       clear c9
       (first|rw [c9b0]|(simp only [i64_w,i32_w];rw [c9b0])|skip)
       have H':=Aside0.mk H
       clear H
       go_wp2
       go_meet
       case rel=>exact ⟨_,(false),(by first|rfl|(simp;done)|(simp [*];done)),H',⟨by first|omega|exact Nat.le_refl _⟩,⟨by repeat (first|(with_reducible first|exact HB.out|apply below_alloc|apply pw_below_drewN|apply below_drew1)|exact HB.out)⟩⟩
     case rest =>
      clear HC8
      try clear p2
      try clear c3
      try clear c3b0
      try clear c4
      try clear c4b0
      try clear p5
      try clear q5
      try clear hx5
      try clear p6
      try clear c7
      try clear c7b0
      try clear c9
      try clear c9b0
      try clear p5
      try clear q5
      obtain ⟨kq,x21_7,rfl,HA,HJ7,HB⟩:=hcut
      cases kq with
      | zero=>exact absurd HA.out (by simp [spec_l01Next.j0])
      | succ kj7 =>
       have H:=HA.out
       clear HA
       simp only [spec_l01Next.j0] at H
       by_cases c10:x21_7=true
       ·
        subst c10
        have H1:(spec_l01Next.j2 kj7 a0 a1 1 (Int.tmod (wrap64 (bt a0 a1)) 32))=some (r1,r2,r3):=by rw [if_pos rfl] at H;exact H
        clear H
        have H:=H1
        clear H1
        have H':=Aside0.mk H
        clear H
        go_wp2
        go_meet
        case rel=>exact ⟨_,(1),(Int.tmod (wrap64 (bt a0 a1)) 32),(by first|rfl|(simp;done)|(simp [*];done)),(by first|rfl|(simp;done)|(simp [*];done)),H',⟨by have:=HJ7.out;first|omega|exact Nat.le_refl _⟩,⟨by repeat (first|(with_reducible first|exact HB.out|apply below_alloc|apply pw_below_drewN|apply below_drew1)|exact HB.out)⟩⟩
       ·
        replace c10:=Bool.eq_false_iff.mpr c10
        subst c10
        have H1:(if (wrap64 (bt a0 a1))≥224 then (spec_l01Next.j1 kj7 a0 a1 (wrap64 (bt a0 a1)) (decide ((wrap64 (bt a0 a1))<240))) else (spec_l01Next.j1 kj7 a0 a1 (wrap64 (bt a0 a1)) false))=some (r1,r2,r3):=by rw [if_neg (show ¬ (false=true) by decide)] at H;exact H
        clear H
        have H:=H1
        clear H1
        have HC11:=Aside0.mk H
        clear H
        go_upto_region 10 with (fail)
        go_cut [30] (fun v30 wc=>∃ (kq:Nat) (x30_10:Bool),v30 = .bool x30_10∧Aside0 (spec_l01Next.j1 kq a0 a1 (wrap64 (bt a0 a1)) x30_10=some (r1,r2,r3))∧Aside0 (kq≤kj7)∧Aside0 (Below w.heap.size w wc))
        case first =>
         have H:=HC11.out
         clear HC11
         by_cases c12:(wrap64 (bt a0 a1))≥224
         ·
          rw [if_pos c12] at H
          have c12b0:decide (224≤(wrap64 (bt a0 a1)))=true:=decide_eq_true c12
          clear c12
          (first|rw [c12b0]|(simp only [i64_w,i32_w];rw [c12b0])|skip)
          have H':=Aside0.mk H
          clear H
          go_wp2
          go_meet
          case rel=>exact ⟨_,(decide ((wrap64 (bt a0 a1))<240)),(by first|rfl|(simp;done)|(simp [*];done)),H',⟨by have:=HJ7.out;first|omega|exact Nat.le_refl _⟩,⟨by repeat (first|(with_reducible first|exact HB.out|apply below_alloc|apply pw_below_drewN|apply below_drew1)|exact HB.out)⟩⟩
         ·
          rw [if_neg c12] at H
          have c12b0:decide (224≤(wrap64 (bt a0 a1)))=false:=decide_eq_false c12
          clear c12
          (first|rw [c12b0]|(simp only [i64_w,i32_w];rw [c12b0])|skip)
          have H':=Aside0.mk H
          clear H
          go_wp2
          go_meet
          case rel=>exact ⟨_,(false),(by first|rfl|(simp;done)|(simp [*];done)),H',⟨by have:=HJ7.out;first|omega|exact Nat.le_refl _⟩,⟨by repeat (first|(with_reducible first|exact HB.out|apply below_alloc|apply pw_below_drewN|apply below_drew1)|exact HB.out)⟩⟩
        case rest =>
         clear HC11
         try clear c1
         try clear p2
         try clear c3
         try clear c3b0
         try clear c4
         try clear c4b0
         try clear p5
         try clear q5
         try clear hx5
         try clear p6
         try clear c7
         try clear c7b0
         try clear c9
         try clear c9b0
         try clear c10
         try clear c12
         try clear c12b0
         try clear p2
         try clear p5
         try clear p6
         try clear q5
         obtain ⟨kq,x30_10,rfl,HA,HJ10,HB⟩:=hcut
         cases kq with
         | zero=>exact absurd HA.out (by simp [spec_l01Next.j1])
         | succ kj10 =>
          have H:=HA.out
          clear HA
          simp only [spec_l01Next.j1] at H
          by_cases c13:x30_10=true
          ·
           subst c13
           have H1:(spec_l01Next.j2 kj10 a0 a1 2 (Int.tmod (wrap64 (bt a0 a1)) 16))=some (r1,r2,r3):=by rw [if_pos rfl] at H;exact H
           clear H
           have H:=H1
           clear H1
           have H':=Aside0.mk H
           clear H
           go_wp2
           go_meet
           case rel=>exact ⟨_,(2),(Int.tmod (wrap64 (bt a0 a1)) 16),(by first|rfl|(simp;done)|(simp [*];done)),(by first|rfl|(simp;done)|(simp [*];done)),H',⟨by have:=HJ7.out;have:=HJ10.out;first|omega|exact Nat.le_refl _⟩,⟨by repeat (first|(with_reducible first|exact HB.out|apply below_alloc|apply pw_below_drewN|apply below_drew1)|exact HB.out)⟩⟩
          ·
           replace c13:=Bool.eq_false_iff.mpr c13
           subst c13
           have H1:(if (wrap64 (bt a0 a1))≥240 then (if (wrap64 (bt a0 a1))<245 then (spec_l01Next.j2 kj10 a0 a1 3 (Int.tmod (wrap64 (bt a0 a1)) 8)) else (some (65533,1,false))) else (some (65533,1,false)))=some (r1,r2,r3):=by rw [if_neg (show ¬ (false=true) by decide)] at H;exact H
           clear H
           have H:=H1
           clear H1
           by_cases c14:(wrap64 (bt a0 a1))≥240
           ·
            rw [if_pos c14] at H
            have c14b0:decide (240≤(wrap64 (bt a0 a1)))=true:=decide_eq_true c14
            clear c14
            by_cases c15:(wrap64 (bt a0 a1))<245
            ·
             rw [if_pos c15] at H
             have c15b0:decide ((wrap64 (bt a0 a1))<245)=true:=decide_eq_true c15
             clear c15
             have H':=Aside0.mk H
             clear H
             go_wp2
             go_meet
             case rel=>exact ⟨_,(3),(Int.tmod (wrap64 (bt a0 a1)) 8),(by first|rfl|(simp;done)|(simp [*];done)),(by first|rfl|(simp;done)|(simp [*];done)),H',⟨by have:=HJ7.out;have:=HJ10.out;first|omega|exact Nat.le_refl _⟩,⟨by repeat (first|(with_reducible first|exact HB.out|apply below_alloc|apply pw_below_drewN|apply below_drew1)|exact HB.out)⟩⟩
            ·
             rw [if_neg c15] at H
             have c15b0:decide ((wrap64 (bt a0 a1))<245)=false:=decide_eq_false c15
             clear c15
             simp only [Option.some.injEq,Prod.mk.injEq] at H
             obtain ⟨rfl,rfl,rfl⟩:=H
             go_wp2
             go_ret3
             exact ⟨by first|rfl|(simp [errW_none,errW_some] <;> rfl)|(simp [*,errW_none,errW_some] <;> rfl),by repeat (first|(with_reducible first|exact HB.out|apply below_alloc|apply pw_below_drewN|apply below_drew1)|exact HB.out)⟩
           ·
            rw [if_neg c14] at H
            have c14b0:decide (240≤(wrap64 (bt a0 a1)))=false:=decide_eq_false c14
            clear c14
            simp only [Option.some.injEq,Prod.mk.injEq] at H
            obtain ⟨rfl,rfl,rfl⟩:=H
            go_wp2
            go_ret3
            exact ⟨by first|rfl|(simp [errW_none,errW_some] <;> rfl)|(simp [*,errW_none,errW_some] <;> rfl),by repeat (first|(with_reducible first|exact HB.out|apply below_alloc|apply pw_below_drewN|apply below_drew1)|exact HB.out)⟩
   case rest =>
    clear HC6
    try clear c1
    try clear p2
    try clear c3
    try clear c3b0
    try clear c4
    try clear c4b0
    try clear p5
    try clear q5
    try clear hx5
    try clear p6
    try clear c7
    try clear c7b0
    try clear c9
    try clear c9b0
    try clear c10
    try clear c12
    try clear c12b0
    try clear c13
    try clear c14
    try clear c14b0
    try clear c15
    try clear c15b0
    try clear p2
    try clear p5
    try clear p6
    try clear q5
    obtain ⟨kq,x8_5,x9_5,rfl,rfl,HA,HJ5,HB⟩:=hcut
    cases kq with
    | zero=>exact absurd HA.out (by simp [spec_l01Next.j2])
    | succ kj5 =>
     have H:=HA.out
     clear HA
     simp only [spec_l01Next.j2] at H
     by_cases c16:(wrap64 (a1+x8_5))≥(a0.size:Int)
     ·
      rw [if_pos c16] at H
      have c16b0:decide ((a0.size:Int)≤(wrap64 (a1+x8_5)))=true:=decide_eq_true c16
      clear c16
      simp only [Option.some.injEq,Prod.mk.injEq] at H
      obtain ⟨rfl,rfl,rfl⟩:=H
      go_wp2
      go_ret3
      exact ⟨by first|rfl|(simp [errW_none,errW_some] <;> rfl)|(simp [*,errW_none,errW_some] <;> rfl),by repeat (first|(with_reducible first|exact HB.out|apply below_alloc|apply pw_below_drewN|apply below_drew1)|exact HB.out)⟩
     ·
      rw [if_neg c16] at H
      have c16b0:decide ((a0.size:Int)≤(wrap64 (a1+x8_5)))=false:=decide_eq_false c16
      clear c16
      have H':=Aside0.mk H
      clear H
      go_wp2
      go_loopg [9,10] kj5 (fun kq v9 v10 w'=>∃ (x9_2:Int) (x10_2:Int),v9 = .int .i64 x9_2∧v10 = .int .i64 x10_2∧Aside0 (spec_l01Next.l0 kq a0 a1 x8_5 x9_2 x10_2=some (r1,r2,r3))∧Aside0 (kq≤kj5)∧Aside0 (Below w.heap.size w w'))
      case atStart=>exact ⟨(x9_5),(1),(by first|rfl|(simp;done)|(simp [*];done)),(by first|rfl|(simp;done)|(simp [*];done)),H',⟨Nat.le_refl _⟩,⟨by repeat (first|(with_reducible first|exact HB.out|apply below_alloc|apply pw_below_drewN|apply below_drew1)|exact HB.out)⟩⟩
      case round =>
       clear H'
       try clear c1
       try clear p2
       try clear c3
       try clear c3b0
       try clear c4
       try clear c4b0
       try clear p5
       try clear q5
       try clear hx5
       try clear p6
       try clear c7
       try clear c7b0
       try clear c9
       try clear c9b0
       try clear c10
       try clear c12
       try clear c12b0
       try clear c13
       try clear c14
       try clear c14b0
       try clear c15
       try clear c15b0
       try clear c16
       try clear c16b0
       try clear p2
       try clear p5
       try clear p6
       try clear q5
       obtain ⟨x9_2,x10_2,rfl,rfl,HA,HK2,HB⟩:=hrel
       cases gk with
       | zero=>exact absurd HA.out (by simp [spec_l01Next.l0])
       | succ k2 =>
        have H:=HA.out
        clear HA
        simp only [spec_l01Next.l0] at H
        by_cases c17:x10_2≤x8_5
        ·
         rw [if_pos c17] at H
         have c17b0:decide (x10_2≤x8_5)=true:=decide_eq_true c17
         clear c17
         obtain ⟨ji18,hji18⟩:∃ j_:Int,(wrap64 (a1+x10_2))=j_:=⟨_,rfl⟩
         replace H:(if 0≤(ji18) then (if (ji18)<(a0.size:Int) then (if (wrap64 (bt a0 (ji18)))<128 then (some (65533,1,false)) else (if (wrap64 (bt a0 (ji18)))>191 then (some (65533,1,false)) else (spec_l01Next.l0 k2 a0 a1 x8_5 (wrap64 ((wrap64 (x9_2*64))+(Int.tmod (wrap64 (bt a0 (ji18))) 64))) (wrap64 (x10_2+1))))) else (none)) else (none))=some (r1,r2,r3):=by first|(rw [hji18] at H;exact H)|(simp only [hji18] at H ⊢;exact H)
         have hji18w:(IntKind.i64.wrap (a1+x10_2))=ji18:=(i64_w _).trans hji18
         by_cases c19:0≤(ji18)
         ·
          rw [if_pos c19] at H
          have c19b0:decide (0≤(ji18))=true:=decide_eq_true c19
          clear c19
          by_cases c20:(ji18)<(a0.size:Int)
          ·
           rw [if_pos c20] at H
           have c20b0:decide ((ji18)<(a0.size:Int))=true:=decide_eq_true c20
           clear c20
           by_cases c22:(wrap64 (bt a0 (ji18)))<128
           ·
            rw [if_pos c22] at H
            have c22b0:decide ((wrap64 (bt a0 (ji18)))<128)=true:=decide_eq_true c22
            clear c22
            simp only [Option.some.injEq,Prod.mk.injEq] at H
            obtain ⟨rfl,rfl,rfl⟩:=H
            have p21:0≤((ji18):Int):=of_decide_eq_true (by first|(with_reducible assumption)|assumption)
            have q21:(ji18)<(a0.size:Int):=of_decide_eq_true (by first|(with_reducible assumption)|assumption)
            have hx21:=bt_at a0 (ji18)
            replace p21:=eq_true p21
            replace q21:=eq_true q21
            go_wp2
            go_ret3
            exact ⟨by first|rfl|(simp [errW_none,errW_some] <;> rfl)|(simp only [← hji18];first|rfl|(simp [errW_none,errW_some] <;> rfl))|(simp [*,errW_none,errW_some] <;> rfl),by repeat (first|(with_reducible first|exact HB.out|apply below_alloc|apply pw_below_drewN|apply below_drew1)|exact HB.out)⟩
           ·
            rw [if_neg c22] at H
            have c22b0:decide ((wrap64 (bt a0 (ji18)))<128)=false:=decide_eq_false c22
            clear c22
            by_cases c23:(wrap64 (bt a0 (ji18)))>191
            ·
             rw [if_pos c23] at H
             have c23b0:decide (191<(wrap64 (bt a0 (ji18))))=true:=decide_eq_true c23
             clear c23
             simp only [Option.some.injEq,Prod.mk.injEq] at H
             obtain ⟨rfl,rfl,rfl⟩:=H
             have p21:0≤((ji18):Int):=of_decide_eq_true (by first|(with_reducible assumption)|assumption)
             have q21:(ji18)<(a0.size:Int):=of_decide_eq_true (by first|(with_reducible assumption)|assumption)
             have hx21:=bt_at a0 (ji18)
             replace p21:=eq_true p21
             replace q21:=eq_true q21
             go_wp2
             go_ret3
             exact ⟨by first|rfl|(simp [errW_none,errW_some] <;> rfl)|(simp only [← hji18];first|rfl|(simp [errW_none,errW_some] <;> rfl))|(simp [*,errW_none,errW_some] <;> rfl),by repeat (first|(with_reducible first|exact HB.out|apply below_alloc|apply pw_below_drewN|apply below_drew1)|exact HB.out)⟩
            ·
             rw [if_neg c23] at H
             have c23b0:decide (191<(wrap64 (bt a0 (ji18))))=false:=decide_eq_false c23
             clear c23
             have H':=Aside0.mk H
             clear H
             have p21:0≤((ji18):Int):=of_decide_eq_true (by first|(with_reducible assumption)|assumption)
             have q21:(ji18)<(a0.size:Int):=of_decide_eq_true (by first|(with_reducible assumption)|assumption)
             have hx21:=bt_at a0 (ji18)
             replace p21:=eq_true p21
             replace q21:=eq_true q21
             go_wp2
             go_roundg k2
             case measure=>have:=HJ5.out;have:=HK2.out;omega
             case rel=>exact ⟨(wrap64 ((wrap64 (x9_2*64))+(Int.tmod (wrap64 (bt a0 (ji18))) 64))),(wrap64 (x10_2+1)),(by first|rfl|(simp;done)|(simp only [← hji18] <;> (first|rfl|simp))|(simp [*];done)),(by first|rfl|(simp;done)|(simp [*];done)),H',⟨by have:=HJ5.out;have:=HK2.out;omega⟩,⟨by repeat (first|(with_reducible first|exact HB.out|apply below_alloc|apply pw_below_drewN|apply below_drew1)|exact HB.out)⟩⟩
          ·
           rw [if_neg c20] at H
           exact absurd H (by simp)
         ·
          rw [if_neg c19] at H
          exact absurd H (by simp)
        ·
         rw [if_neg c17] at H
         have c17b0:decide (x10_2≤x8_5)=false:=decide_eq_false c17
         clear c17
         replace H:=Option.bind_eq_some_iff.mp H
         obtain ⟨t122,A240,H⟩:=H
         replace H:(if t122=true then ((spec_l01Write.f k2 x9_2).bind fun t123=>(if (t123.size:Int)=(wrap64 (x8_5+1)) then (some (x9_2,wrap64 (x8_5+1),true)) else (some (65533,1,false)))) else (some (65533,1,false)))=some (r1,r2,r3):=H
         have A24:=Aside0.mk A240
         clear A240
         by_cases c25:t122=true
         ·
          subst c25
          have H1:((spec_l01Write.f k2 x9_2).bind fun t123=>(if (t123.size:Int)=(wrap64 (x8_5+1)) then (some (x9_2,wrap64 (x8_5+1),true)) else (some (65533,1,false))))=some (r1,r2,r3):=by rw [if_pos rfl] at H;exact H
          clear H
          have H:=H1
          clear H1
          replace H:=Option.bind_eq_some_iff.mp H
          obtain ⟨t123,A260,H⟩:=H
          replace H:(if (t123.size:Int)=(wrap64 (x8_5+1)) then (some (x9_2,wrap64 (x8_5+1),true)) else (some (65533,1,false)))=some (r1,r2,r3):=H
          have A26:=Aside0.mk A260
          clear A260
          by_cases c27:(t123.size:Int)=(wrap64 (x8_5+1))
          ·
           rw [if_pos c27] at H
           have c27b0:((t123.size:Int) == (wrap64 (x8_5+1)))=true:=beq_iff_eq.mpr c27
           have c27b1:((t123.size:Int) != (wrap64 (x8_5+1)))=false:=bne_eq_false_iff_eq.mpr c27
           clear c27
           simp only [Option.some.injEq,Prod.mk.injEq] at H
           obtain ⟨rfl,rfl,rfl⟩:=H
           go_wp2_with (first|((with_reducible refine gate_callee (f:=55) rfl ?_);refine goesL_ (some 77) rfl rfl Tryd.func55 (by kernel_rfl) rfl #[.int .i64 x9_2] rfl (by (try simp only [List.map_toArray,List.map_cons,List.map_nil]);first|done|rfl|(simp only [List.length_drop,List.length_take];rfl)) ?_;(with_reducible refine (spec_l01IsPoint.calls x9_2 true _ A24.out).mono ?_);rintro e w' ⟨rfl,⟨nd,rfl⟩⟩;refine ⟨_,rfl,?_⟩)|(go_at_call 56;(with_reducible refine (spec_l01Write.calls k2 x9_2 t123 _ A26.out).mono ?_);rintro e w28 ⟨rfl,hb⟩;have n0_:=Aside0.mk (below_step (by repeat (first|(with_reducible first|exact HB.out|apply below_alloc|apply pw_below_drewN|apply below_drew1)|exact HB.out)) hb);clear HB;have HB:=n0_;clear n0_;(try clear hb);(try clear hb2);(try clear hk);(try clear hi)))
           go_ret3
           exact ⟨by first|rfl|(simp [errW_none,errW_some] <;> rfl)|(simp [*,errW_none,errW_some] <;> rfl),by repeat (first|(with_reducible first|exact HB.out|apply below_alloc|apply pw_below_drewN|apply below_drew1)|exact HB.out)⟩
          ·
           rw [if_neg c27] at H
           have c27b0:((t123.size:Int) == (wrap64 (x8_5+1)))=false:=beq_eq_false_iff_ne.mpr c27
           have c27b1:((t123.size:Int) != (wrap64 (x8_5+1)))=true:=bne_iff_ne.mpr c27
           simp only [Option.some.injEq,Prod.mk.injEq] at H
           obtain ⟨rfl,rfl,rfl⟩:=H
           go_wp2_with (first|((with_reducible refine gate_callee (f:=55) rfl ?_);refine goesL_ (some 77) rfl rfl Tryd.func55 (by kernel_rfl) rfl #[.int .i64 x9_2] rfl (by (try simp only [List.map_toArray,List.map_cons,List.map_nil]);first|done|rfl|(simp only [List.length_drop,List.length_take];rfl)) ?_;(with_reducible refine (spec_l01IsPoint.calls x9_2 true _ A24.out).mono ?_);rintro e w' ⟨rfl,⟨nd,rfl⟩⟩;refine ⟨_,rfl,?_⟩)|(go_at_call 56;(with_reducible refine (spec_l01Write.calls k2 x9_2 t123 _ A26.out).mono ?_);rintro e w29 ⟨rfl,hb⟩;have n0_:=Aside0.mk (below_step (by repeat (first|(with_reducible first|exact HB.out|apply below_alloc|apply pw_below_drewN|apply below_drew1)|exact HB.out)) hb);clear HB;have HB:=n0_;clear n0_;(try clear hb);(try clear hb2);(try clear hk);(try clear hi)))
           go_ret3
           exact ⟨by first|rfl|(simp [errW_none,errW_some] <;> rfl)|(simp [*,errW_none,errW_some] <;> rfl),by repeat (first|(with_reducible first|exact HB.out|apply below_alloc|apply pw_below_drewN|apply below_drew1)|exact HB.out)⟩
         ·
          replace c25:=Bool.eq_false_iff.mpr c25
          subst c25
          have H1:(some (65533,1,false))=some (r1,r2,r3):=by rw [if_neg (show ¬ (false=true) by decide)] at H;exact H
          clear H
          have H:=H1
          clear H1
          simp only [Option.some.injEq,Prod.mk.injEq] at H
          obtain ⟨rfl,rfl,rfl⟩:=H
          go_wp2_with (first|((with_reducible refine gate_callee (f:=55) rfl ?_);refine goesL_ (some 77) rfl rfl Tryd.func55 (by kernel_rfl) rfl #[.int .i64 x9_2] rfl (by (try simp only [List.map_toArray,List.map_cons,List.map_nil]);first|done|rfl|(simp only [List.length_drop,List.length_take];rfl)) ?_;(with_reducible refine (spec_l01IsPoint.calls x9_2 false _ A24.out).mono ?_);rintro e w' ⟨rfl,⟨nd,rfl⟩⟩;refine ⟨_,rfl,?_⟩))
          go_ret3
          exact ⟨by first|rfl|(simp [errW_none,errW_some] <;> rfl)|(simp [*,errW_none,errW_some] <;> rfl),by repeat (first|(with_reducible first|exact HB.out|apply below_alloc|apply pw_below_drewN|apply below_drew1)|exact HB.out)⟩
  ·
   rw [if_neg c4] at H
   exact absurd H (by simp)
 ·
  rw [if_neg c3] at H
  exact absurd H (by simp)
def spec_l07RowOf.l0:Nat→ByteArray→Int→List Int→List Int→Option (List Int × List Int)
 | 0,_,_,_,_=>none
 | k+1,x0,x4,x126000,x126001=>if x4<(x0.size:Int) then ((spec_l01Next.f k x0 x4).bind fun bt126=>(if x126000.length<17592186044416 then (if x126001.length<17592186044416 then (spec_l07RowOf.l0 k x0 (wrap64 (x4+bt126.2.1)) (x126000 ++ [bt126.1]) (x126001 ++ [x4])) else (none)) else (none))) else (if x126001.length<17592186044416 then (some (x126000,(x126001 ++ [(x0.size:Int)]))) else (none))
def spec_l07RowOf.f (k:Nat) (a0:ByteArray):Option (List Int × List Int):=spec_l07RowOf.l0 k a0 0 ([]:List Int) ([]:List Int)
set_option maxHeartbeats 8000000 in
set_option maxRecDepth 100000 in
theorem spec_l07RowOf.calls (k:Nat) (a0:ByteArray) (r1:List Int) (r2:List Int) (w:World) (h:spec_l07RowOf.f k a0=some (r1,r2)) :
  Calls Tryd.prog 47 #[.string a0] w fun e w'=>∃ v0_ v1_:Value,e = .returned (.agg #[v0_,v1_])∧Kd.R (Kd.int .i64) 2 w' w.heap.size (fun k_=>some k_≠(v1_:Value).ownBlock) v0_ r1∧Kd.R (Kd.int .i64) 2 w' w.heap.size (fun k_=>some k_≠(v0_:Value).ownBlock) v1_ r2∧Below w.heap.size w w':=by
 have hu48:=Tryd.underlying48
 have HB:=Aside0.mk (Below.refl w.heap.size w)
 have H:(spec_l07RowOf.l0 k a0 0 ([]:List Int) ([]:List Int))=some (r1,r2):=h
 clear h
 have H':=Aside0.mk H
 clear H
 go_enter Tryd.func47,Tryd.ntmps47
 go_wp2_with (first|((with_reducible refine gate_dst (N:=2) rfl ?_);refine box_event ?hg (N:=2) ?hd (cs:=#[.slice none 0 0,.slice none 0 0]) (t:=48) ?hr ?_;(case hd=>rfl);(case hg=>rfl);(case hr=>first|(go_simp;done)|(go_simp;rfl));intro gb124 hg w2 hbox hb;have n0_:=Aside0.mk (below_step (by repeat (first|(with_reducible first|exact HB.out|apply below_alloc|apply pw_below_drewN|apply below_drew1)|exact HB.out)) hb);have n1_:=Aside0.mk (hbox);have n2_:=Aside0.mk ((by rw [hg];exact (below_size (by repeat (first|(with_reducible first|exact HB.out|apply below_alloc|apply pw_below_drewN|apply below_drew1)|exact HB.out))):w.heap.size≤gb124));have n3_:=Aside0.mk ((by rw [hg];exact (below_size (by repeat (first|(with_reducible first|exact HB.out|apply below_alloc|apply pw_below_drewN|apply below_drew1)|exact HB.out))):w.heap.size≤gb124));clear HB;have HB:=n0_;have BK124:=n1_;have GW124:=n2_;have GE124:=n3_;clear n0_ n1_ n2_ n3_;clear hb hbox hg)|((with_reducible refine gate_dst (N:=3) rfl ?_);refine box_event ?hg (N:=3) ?hd (cs:=#[.slice none 0 0,.slice none 0 0]) (t:=48) ?hr ?_;(case hd=>rfl);(case hg=>rfl);(case hr=>first|(go_simp;done)|(go_simp;rfl));intro gb125 hg w3 hbox hb;have n0_:=Aside0.mk (blk_below (g:=gb124) (o:=.cells #[.slice none 0 0,.slice none 0 0] 48 (0,0)) (by (with_reducible repeat (first|refine blk_drewN ?_ _|refine blk_drew ?_|refine blk_alloc ?_ _));exact BK124.out) hb);have n1_:=Aside0.mk (below_step (by repeat (first|(with_reducible first|exact HB.out|apply below_alloc|apply pw_below_drewN|apply below_drew1|refine below_set ?_ GE124.out)|exact HB.out)) hb);have n2_:=Aside0.mk (hbox);have n3_:=Aside0.mk ((by rw [hg];exact (below_size (by repeat (first|(with_reducible first|exact HB.out|apply below_alloc|apply pw_below_drewN|apply below_drew1|refine below_set ?_ GE124.out)|exact HB.out))):w.heap.size≤gb125));have n4_:=Aside0.mk ((by rw [hg];exact (below_size (by repeat (first|(with_reducible first|exact HB.out|apply below_alloc|apply pw_below_drewN|apply below_drew1|refine below_set ?_ GE124.out)|exact HB.out))):w.heap.size≤gb125));have n5_:=Aside0.mk ((by rw [hg];exact Nat.ne_of_lt (blk_lt (g:=gb124) (o:=.cells #[.slice none 0 0,.slice none 0 0] 48 (0,0)) (by (with_reducible repeat (first|refine blk_drewN ?_ _|refine blk_drew ?_|refine blk_alloc ?_ _));exact BK124.out)):gb124≠gb125));have n6_:=Aside0.mk ((by rw [hg];exact Nat.ne_of_gt (blk_lt (g:=gb124) (o:=.cells #[.slice none 0 0,.slice none 0 0] 48 (0,0)) (by (with_reducible repeat (first|refine blk_drewN ?_ _|refine blk_drew ?_|refine blk_alloc ?_ _));exact BK124.out)):gb125≠gb124));clear BK124;clear HB;have BK124:=n0_;have HB:=n1_;have BK125:=n2_;have GW125:=n3_;have GE125:=n4_;have NB124_125:=n5_;have NB125_124:=n6_;clear n0_ n1_ n2_ n3_ n4_ n5_ n6_;clear hb hbox hg;have hnb4:=NB125_124.out;have hnc4:=NB124_125.out;have hcz5_0:w3.cell? ⟨gb125,0,none⟩=some (.slice none 0 0):=(blk_cell BK125.out 0).trans rfl;have hcz5_1:w3.cell? ⟨gb125,1,none⟩=some (.slice none 0 0):=(blk_cell BK125.out 1).trans rfl;have hfz5_0:=blk_frozen BK125.out 0;have hfz5_1:=blk_frozen BK125.out 1))
 go_loopg [4] k (fun kq v4 w'=>∃ (x4_1:Int) (x126000_1:List Int) (x126001_1:List Int) (u126000:Value) (u126001:Value),v4 = .int .i64 x4_1∧Aside0 (spec_l07RowOf.l0 kq a0 x4_1 x126000_1 x126001_1=some (r1,r2))∧Aside0 (kq≤k)∧Aside0 (Kd.R (Kd.int .i64) 2 w' w.heap.size (fun k_=>some k_≠(u126001:Value).ownBlock) u126000 x126000_1)∧Aside0 (Kd.R (Kd.int .i64) 2 w' w.heap.size (fun k_=>some k_≠(u126000:Value).ownBlock) u126001 x126001_1)∧Aside0 (w'.heap[gb124]? = some (.cells #[(.slice none 0 0),(.slice none 0 0)] 48 (0,0)))∧Aside0 (w'.heap[gb125]? = some (.cells #[u126000,u126001] 48 (0,0)))∧Aside0 (Below w.heap.size w w'))
 case atStart=>exact ⟨(0),(([]:List Int)),(([]:List Int)),(.slice none 0 0),(.slice none 0 0),(by first|rfl|(simp;done)|(simp [*];done)),H',⟨Nat.le_refl _⟩,⟨by first|exact Kd.R_nil _ _ _ _ _|exact Kd.N_nil _ _ _ _ _|exact Kd.V_nil _ _ _ _ _|exact Kd.Q_nil _ _ _ _ _|exact Kd.S_nil _ _ _ _ _⟩,⟨by first|exact Kd.R_nil _ _ _ _ _|exact Kd.N_nil _ _ _ _ _|exact Kd.V_nil _ _ _ _ _|exact Kd.Q_nil _ _ _ _ _|exact Kd.S_nil _ _ _ _ _⟩,⟨by (with_reducible repeat (first|refine blk_drewN ?_ _|refine blk_drew ?_|refine blk_alloc ?_ _));refine blk_far ?_ NB124_125.out _;(with_reducible repeat (first|refine blk_drewN ?_ _|refine blk_drew ?_|refine blk_alloc ?_ _));refine blk_far ?_ NB124_125.out _;(with_reducible repeat (first|refine blk_drewN ?_ _|refine blk_drew ?_|refine blk_alloc ?_ _));exact BK124.out⟩,⟨by (with_reducible repeat (first|refine blk_drewN ?_ _|refine blk_drew ?_|refine blk_alloc ?_ _));refine blk_put (cs:=#[.slice none 0 0,.slice none 0 0]) ?_ 1 _ rfl;(with_reducible repeat (first|refine blk_drewN ?_ _|refine blk_drew ?_|refine blk_alloc ?_ _));refine blk_put (cs:=#[.slice none 0 0,.slice none 0 0]) ?_ 0 _ rfl;(with_reducible repeat (first|refine blk_drewN ?_ _|refine blk_drew ?_|refine blk_alloc ?_ _));exact BK125.out⟩,⟨by repeat (first|(with_reducible first|exact HB.out|apply below_alloc|apply pw_below_drewN|apply below_drew1|refine below_set ?_ GE124.out|refine below_set ?_ GE125.out)|exact HB.out)⟩⟩
 case round =>
  clear H'
  try clear p2
  try clear c4
  try clear hcz5_0
  try clear hcz5_1
  try clear hfz5_0
  try clear hfz5_1
  obtain ⟨x4_1,x126000_1,x126001_1,u126000,u126001,rfl,HA,HK1,HO_126000,HO_126001,BK124,BK125,HB⟩:=hrel
  cases gk with
  | zero=>exact absurd HA.out (by simp [spec_l07RowOf.l0])
  | succ k1 =>
   have H:=HA.out
   clear HA
   simp only [spec_l07RowOf.l0] at H
   by_cases c6:x4_1<(a0.size:Int)
   ·
    rw [if_pos c6] at H
    have c6b0:decide (x4_1<(a0.size:Int))=true:=decide_eq_true c6
    clear c6
    replace H:=Option.bind_eq_some_iff.mp H
    obtain ⟨⟨t126,t127,t128⟩,A70,H⟩:=H
    replace H:(if x126000_1.length<17592186044416 then (if x126001_1.length<17592186044416 then (spec_l07RowOf.l0 k1 a0 (wrap64 (x4_1+t127)) (x126000_1 ++ [t126]) (x126001_1 ++ [x4_1])) else (none)) else (none))=some (r1,r2):=H
    have A7:=Aside0.mk A70
    clear A70
    by_cases c8:x126000_1.length<17592186044416
    ·
     rw [if_pos c8] at H
     have LMc8:=Aside0.mk c8
     clear c8
     obtain ⟨y129,hy129⟩:∃ y_:List Int,y_=(x126000_1 ++ [t126]):=⟨_,rfl⟩
     replace H:(if x126001_1.length<17592186044416 then (spec_l07RowOf.l0 k1 a0 (wrap64 (x4_1+t127)) y129 (x126001_1 ++ [x4_1])) else (none))=some (r1,r2):=by first|(rw [hy129];with_reducible exact H)|(have H2_:=(Option.bind_some _ _).symm.trans H;rw [hy129];with_reducible exact H2_)|(have H2_:=(Option.bind_some _ _).symm.trans H;with_reducible exact H2_)|with_reducible exact H|(rw [hy129];exact H)|exact H
     have Ny129:=Aside0.mk hy129
     clear hy129
     by_cases c9:x126001_1.length<17592186044416
     ·
      rw [if_pos c9] at H
      have LMc9:=Aside0.mk c9
      clear c9
      obtain ⟨y132,hy132⟩:∃ y_:List Int,y_=(x126001_1 ++ [x4_1]):=⟨_,rfl⟩
      replace H:(spec_l07RowOf.l0 k1 a0 (wrap64 (x4_1+t127)) y129 y132)=some (r1,r2):=by first|(rw [hy132];with_reducible exact H)|(have H2_:=(Option.bind_some _ _).symm.trans H;rw [hy132];with_reducible exact H2_)|(have H2_:=(Option.bind_some _ _).symm.trans H;with_reducible exact H2_)|with_reducible exact H|(rw [hy132];exact H)|exact H
      have Ny132:=Aside0.mk hy132
      clear hy132
      have H':=Aside0.mk H
      clear H
      go_wp2_with (first|((with_reducible refine gate_callee (f:=39) rfl ?_);refine goesL_ (some 16) rfl rfl Tryd.func39 (by kernel_rfl) rfl #[.string a0,.int .i64 x4_1] rfl (by (try simp only [List.map_toArray,List.map_cons,List.map_nil]);first|done|rfl|(simp only [List.length_drop,List.length_take];rfl)) ?_;(with_reducible refine (spec_l01Next.calls k1 a0 x4_1 t126 t127 t128 _ A7.out).mono ?_);rintro e w10 ⟨rfl,hb⟩;refine ⟨_,rfl,?_⟩;have n0_:=Aside0.mk (Kd.R_below (by (with_reducible repeat (first|apply Kd.R_alloc|apply Kd.R_drewN|apply Kd.R_drew));exact HO_126000.out) hb);have n1_:=Aside0.mk (Kd.R_below (by (with_reducible repeat (first|apply Kd.R_alloc|apply Kd.R_drewN|apply Kd.R_drew));exact HO_126001.out) hb);have n2_:=Aside0.mk (blk_below (g:=gb124) (o:=.cells #[.slice none 0 0,.slice none 0 0] 48 (0,0)) (by (with_reducible repeat (first|refine blk_drewN ?_ _|refine blk_drew ?_|refine blk_alloc ?_ _));exact BK124.out) hb);have n3_:=Aside0.mk (blk_below (g:=gb125) (o:=.cells #[u126000,u126001] 48 (0,0)) (by (with_reducible repeat (first|refine blk_drewN ?_ _|refine blk_drew ?_|refine blk_alloc ?_ _));exact BK125.out) hb);have n4_:=Aside0.mk (below_step (by repeat (first|(with_reducible first|exact HB.out|apply below_alloc|apply pw_below_drewN|apply below_drew1|refine below_set ?_ GE124.out|refine below_set ?_ GE125.out)|exact HB.out)) hb);clear HO_126000;clear HO_126001;clear BK124;clear BK125;clear HB;have HO_126000:=n0_;have HO_126001:=n1_;have BK124:=n2_;have BK125:=n3_;have HB:=n4_;clear n0_ n1_ n2_ n3_ n4_;(try clear hb);(try clear hb2);(try clear hk);(try clear hi);have hnb11:=NB125_124.out;have hnc11:=NB124_125.out;have hcz12_0:w10.cell? ⟨gb125,0,none⟩=some (u126000):=(blk_cell BK125.out 0).trans rfl;have hcz12_1:w10.cell? ⟨gb125,1,none⟩=some (u126001):=(blk_cell BK125.out 1).trans rfl;have hfz12_0:=blk_frozen BK125.out 0;have hfz12_1:=blk_frozen BK125.out 1)|((with_reducible refine gate_builtin (b:=.append) (xs:=#[.tmp 21,.tmp 23]) rfl ?_);at_builtin;refine Kd.R_append (Kd.int .i64) (w0:=w) w.heap.size rfl (.tmp 21) (.tmp 23) 27 2 (.int .i64 0) 8 rfl Tryd.underlying27 info2 rfl (by decide) (by omega) u126000 x126000_1 t126 [.int .i64 t126] (fun k_=>some k_≠(u126001:Value).ownBlock) (fun _=>False) rfl rfl ?aP (fun _ hk=>hk.elim) ?aF ?aO ?aB ?aS ?aL ?_;(case aP=>exact rfl);(case aB=>exact (by repeat (first|(with_reducible first|exact HB.out|apply below_alloc|apply pw_below_drewN|apply below_drew1|refine below_set ?_ GE124.out|refine below_set ?_ GE125.out)|exact HB.out)));(case aF=>exact (fun k_ hk=>Kd.fresh' (Kd.R_lt (by (with_reducible repeat (first|apply Kd.R_alloc|apply Kd.R_drewN|apply Kd.R_drew));exact HO_126001.out)) k_ hk));(case aO=>exact (by (with_reducible repeat (first|apply Kd.R_alloc|apply Kd.R_drewN|apply Kd.R_drew));exact HO_126000.out));(case aS=>exact (below_size (by repeat (first|(with_reducible first|exact HB.out|apply below_alloc|apply pw_below_drewN|apply below_drew1|refine below_set ?_ GE124.out|refine below_set ?_ GE125.out)|exact HB.out))));(case aL=>have:=LMc8.out;omega);intro v130 w13 ho hb hg hat;rw [← Ny129.out] at ho;have n0_:=Aside0.mk (Kd.R_after (ok:=(fun _=>True)) (by (with_reducible repeat (first|apply Kd.R_alloc|apply Kd.R_drewN|apply Kd.R_drew));exact Kd.R_mono HO_126001.out (fun _ hk=>⟨trivial,hk⟩)) hg hat);have n1_:=Aside0.mk (blk_grown (g:=gb124) (o:=.cells #[.slice none 0 0,.slice none 0 0] 48 (0,0)) (by (with_reducible repeat (first|refine blk_drewN ?_ _|refine blk_drew ?_|refine blk_alloc ?_ _));exact BK124.out) hg (Kd.R_ne HO_126000.out BK124.out (by decide)));have n2_:=Aside0.mk (blk_grown (g:=gb125) (o:=.cells #[u126000,u126001] 48 (0,0)) (by (with_reducible repeat (first|refine blk_drewN ?_ _|refine blk_drew ?_|refine blk_alloc ?_ _));exact BK125.out) hg (Kd.R_ne HO_126000.out BK125.out (by decide)));have n3_:=Aside0.mk (hb);have n4_:=Aside0.mk (ho);clear HO_126001;clear BK124;clear BK125;clear HB;clear HO_126000;have HO_126001:=n0_;have BK124:=n1_;have BK125:=n2_;have HB:=n3_;have HO131:=n4_;clear n0_ n1_ n2_ n3_ n4_;clear ho hb hg hat;obtain ⟨Ao14,co14,eo14⟩:=Kd.R_slice HO131.out;subst eo14;have hcz15_0:w13.cell? ⟨gb125,0,none⟩=some (u126000):=(blk_cell BK125.out 0).trans rfl;have hcz15_1:w13.cell? ⟨gb125,1,none⟩=some (u126001):=(blk_cell BK125.out 1).trans rfl;have hfz15_0:=blk_frozen BK125.out 0;have hfz15_1:=blk_frozen BK125.out 1)|((with_reducible refine gate_builtin (b:=.append) (xs:=#[.tmp 27,.tmp 29]) rfl ?_);at_builtin;refine Kd.R_append (Kd.int .i64) (w0:=w) w.heap.size rfl (.tmp 27) (.tmp 29) 27 2 (.int .i64 0) 8 rfl Tryd.underlying27 info2 rfl (by decide) (by omega) u126001 x126001_1 x4_1 [.int .i64 x4_1] (fun k_=>some k_≠(.slice Ao14 y129.length co14:Value).ownBlock) (fun _=>False) rfl (by first|(go_simp;done)|(go_simp;rfl)) ?aP (fun _ hk=>hk.elim) ?aF ?aO ?aB ?aS ?aL ?_;(case aP=>exact rfl);(case aB=>exact (by repeat (first|(with_reducible first|exact HB.out|apply below_alloc|apply pw_below_drewN|apply below_drew1|refine below_set ?_ GE124.out|refine below_set ?_ GE125.out)|exact HB.out)));(case aF=>exact (fun k_ hk=>Kd.fresh' (Kd.R_lt (by (with_reducible repeat (first|apply Kd.R_alloc|apply Kd.R_drewN|apply Kd.R_drew));exact (Kd.R_mono (Kd.R_far (p:=⟨gb125,0,none⟩) (Kd.R_types HO131.out BK125.out (by decide)) (fun _ hk=>hk.2) (.slice Ao14 y129.length co14)) (fun _ h_=>h_.1)))) k_ hk));(case aO=>exact (by (with_reducible repeat (first|apply Kd.R_alloc|apply Kd.R_drewN|apply Kd.R_drew));exact Kd.R_mono (Kd.R_far (p:=⟨gb125,0,none⟩) (Kd.R_types HO_126001.out BK125.out (by decide)) (fun _ hk=>hk.2) (.slice Ao14 y129.length co14)) (fun _ hk=>hk.1.2)));(case aS=>exact (below_size (by repeat (first|(with_reducible first|exact HB.out|apply below_alloc|apply pw_below_drewN|apply below_drew1|refine below_set ?_ GE124.out|refine below_set ?_ GE125.out)|exact HB.out))));(case aL=>have:=LMc9.out;omega);intro v133 w16 ho hb hg hat;rw [← Ny132.out] at ho;have n0_:=Aside0.mk (blk_grown (g:=gb124) (o:=.cells #[.slice none 0 0,.slice none 0 0] 48 (0,0)) (by (with_reducible repeat (first|refine blk_drewN ?_ _|refine blk_drew ?_|refine blk_alloc ?_ _));refine blk_far ?_ NB124_125.out _;(with_reducible repeat (first|refine blk_drewN ?_ _|refine blk_drew ?_|refine blk_alloc ?_ _));exact BK124.out) hg (Kd.R_ne HO_126001.out BK124.out (by decide)));have n1_:=Aside0.mk (blk_grown (g:=gb125) (o:=.cells #[.slice Ao14 y129.length co14,u126001] 48 (0,0)) (by (with_reducible repeat (first|refine blk_drewN ?_ _|refine blk_drew ?_|refine blk_alloc ?_ _));refine blk_put (cs:=#[u126000,u126001]) ?_ 0 _ rfl;(with_reducible repeat (first|refine blk_drewN ?_ _|refine blk_drew ?_|refine blk_alloc ?_ _));exact BK125.out) hg (Kd.R_ne HO_126001.out BK125.out (by decide)));have n2_:=Aside0.mk (Kd.R_after (ok:=(fun _=>True)) (by (with_reducible repeat (first|apply Kd.R_alloc|apply Kd.R_drewN|apply Kd.R_drew));exact Kd.R_mono (Kd.R_far (p:=⟨gb125,0,none⟩) (Kd.R_types HO131.out BK125.out (by decide)) (fun _ hk=>hk.2) (.slice Ao14 y129.length co14)) (fun _ hk=>⟨trivial,hk.1⟩)) hg hat);have n3_:=Aside0.mk (hb);have n4_:=Aside0.mk (ho);clear BK124;clear BK125;clear HO131;clear HB;clear HO_126001;have BK124:=n0_;have BK125:=n1_;have HO131:=n2_;have HB:=n3_;have HO134:=n4_;clear n0_ n1_ n2_ n3_ n4_;clear ho hb hg hat;obtain ⟨Ao17,co17,eo17⟩:=Kd.R_slice HO134.out;subst eo17;have hcz18_0:w16.cell? ⟨gb125,0,none⟩=some (.slice Ao14 y129.length co14):=(blk_cell BK125.out 0).trans rfl;have hcz18_1:w16.cell? ⟨gb125,1,none⟩=some (u126001):=(blk_cell BK125.out 1).trans rfl;have hfz18_0:=blk_frozen BK125.out 0;have hfz18_1:=blk_frozen BK125.out 1))
      go_roundg k1
      case measure=>have:=HK1.out;omega
      case rel=>exact ⟨(wrap64 (x4_1+t127)),(y129),(y132),(.slice Ao14 y129.length co14),(.slice Ao17 y132.length co17),(by first|rfl|(simp;done)|(simp [*];done)),H',⟨by have:=HK1.out;omega⟩,⟨by (with_reducible repeat (first|apply Kd.R_alloc|apply Kd.R_drewN|apply Kd.R_drew));exact Kd.R_mono (Kd.R_far (p:=⟨gb125,1,none⟩) (Kd.R_types HO131.out BK125.out (by decide)) (fun _ hk=>hk.2) (.slice Ao17 y132.length co17)) (fun _ hk=>hk.1.2)⟩,⟨by (with_reducible repeat (first|apply Kd.R_alloc|apply Kd.R_drewN|apply Kd.R_drew));exact Kd.R_mono (Kd.R_far (p:=⟨gb125,1,none⟩) (Kd.R_types HO134.out BK125.out (by decide)) (fun _ hk=>hk.2) (.slice Ao17 y132.length co17)) (fun _ hk=>hk.1)⟩,⟨by (with_reducible repeat (first|refine blk_drewN ?_ _|refine blk_drew ?_|refine blk_alloc ?_ _));refine blk_far ?_ NB124_125.out _;(with_reducible repeat (first|refine blk_drewN ?_ _|refine blk_drew ?_|refine blk_alloc ?_ _));exact BK124.out⟩,⟨by (with_reducible repeat (first|refine blk_drewN ?_ _|refine blk_drew ?_|refine blk_alloc ?_ _));refine blk_put (cs:=#[.slice Ao14 y129.length co14,u126001]) ?_ 1 _ rfl;(with_reducible repeat (first|refine blk_drewN ?_ _|refine blk_drew ?_|refine blk_alloc ?_ _));exact BK125.out⟩,⟨by repeat (first|(with_reducible first|exact HB.out|apply below_alloc|apply pw_below_drewN|apply below_drew1|refine below_set ?_ GE124.out|refine below_set ?_ GE125.out)|exact HB.out)⟩⟩
     ·
      rw [if_neg c9] at H
      exact absurd H (by simp)
    ·
     rw [if_neg c8] at H
     exact absurd H (by simp)
   ·
    rw [if_neg c6] at H
    have c6b0:decide (x4_1<(a0.size:Int))=false:=decide_eq_false c6
    clear c6
    by_cases c19:x126001_1.length<17592186044416
    ·
     rw [if_pos c19] at H
     have LMc19:=Aside0.mk c19
     clear c19
     obtain ⟨y135,hy135⟩:∃ y_:List Int,y_=(x126001_1 ++ [(a0.size:Int)]):=⟨_,rfl⟩
     replace H:(some (x126000_1,y135))=some (r1,r2):=by first|(rw [hy135];with_reducible exact H)|(have H2_:=(Option.bind_some _ _).symm.trans H;rw [hy135];with_reducible exact H2_)|(have H2_:=(Option.bind_some _ _).symm.trans H;with_reducible exact H2_)|with_reducible exact H|(rw [hy135];exact H)|exact H
     have Ny135:=Aside0.mk hy135
     clear hy135
     simp only [Option.some.injEq,Prod.mk.injEq] at H
     obtain ⟨rfl,rfl⟩:=H
     have hnb20:=NB125_124.out
     have hnc20:=NB124_125.out
     have hcz21_0:wr.cell? ⟨gb125,0,none⟩=some (u126000):=(blk_cell BK125.out 0).trans rfl
     have hcz21_1:wr.cell? ⟨gb125,1,none⟩=some (u126001):=(blk_cell BK125.out 1).trans rfl
     have hfz21_0:=blk_frozen BK125.out 0
     have hfz21_1:=blk_frozen BK125.out 1
     go_wp2_with (first|((with_reducible refine gate_builtin (b:=.append) (xs:=#[.tmp 36,.tmp 39]) rfl ?_);at_builtin;refine Kd.R_append (Kd.int .i64) (w0:=w) w.heap.size rfl (.tmp 36) (.tmp 39) 27 2 (.int .i64 0) 8 rfl Tryd.underlying27 info2 rfl (by decide) (by omega) u126001 x126001_1 (a0.size:Int) [.int .i64 (a0.size:Int)] (fun k_=>some k_≠(u126000:Value).ownBlock) (fun _=>False) rfl rfl ?aP (fun _ hk=>hk.elim) ?aF ?aO ?aB ?aS ?aL ?_;(case aP=>exact rfl);(case aB=>exact (by repeat (first|(with_reducible first|exact HB.out|apply below_alloc|apply pw_below_drewN|apply below_drew1|refine below_set ?_ GE124.out|refine below_set ?_ GE125.out)|exact HB.out)));(case aF=>exact (fun k_ hk=>Kd.fresh' (Kd.R_lt (by (with_reducible repeat (first|apply Kd.R_alloc|apply Kd.R_drewN|apply Kd.R_drew));exact HO_126000.out)) k_ hk));(case aO=>exact (by (with_reducible repeat (first|apply Kd.R_alloc|apply Kd.R_drewN|apply Kd.R_drew));exact HO_126001.out));(case aS=>exact (below_size (by repeat (first|(with_reducible first|exact HB.out|apply below_alloc|apply pw_below_drewN|apply below_drew1|refine below_set ?_ GE124.out|refine below_set ?_ GE125.out)|exact HB.out))));(case aL=>have:=LMc19.out;omega);intro v136 w22 ho hb hg hat;rw [← Ny135.out] at ho;have n0_:=Aside0.mk (Kd.R_after (ok:=(fun _=>True)) (by (with_reducible repeat (first|apply Kd.R_alloc|apply Kd.R_drewN|apply Kd.R_drew));exact Kd.R_mono HO_126000.out (fun _ hk=>⟨trivial,hk⟩)) hg hat);have n1_:=Aside0.mk (blk_grown (g:=gb124) (o:=.cells #[.slice none 0 0,.slice none 0 0] 48 (0,0)) (by (with_reducible repeat (first|refine blk_drewN ?_ _|refine blk_drew ?_|refine blk_alloc ?_ _));exact BK124.out) hg (Kd.R_ne HO_126001.out BK124.out (by decide)));have n2_:=Aside0.mk (blk_grown (g:=gb125) (o:=.cells #[u126000,u126001] 48 (0,0)) (by (with_reducible repeat (first|refine blk_drewN ?_ _|refine blk_drew ?_|refine blk_alloc ?_ _));exact BK125.out) hg (Kd.R_ne HO_126001.out BK125.out (by decide)));have n3_:=Aside0.mk (hb);have n4_:=Aside0.mk (ho);clear HO_126000;clear BK124;clear BK125;clear HB;clear HO_126001;have HO_126000:=n0_;have BK124:=n1_;have BK125:=n2_;have HB:=n3_;have HO137:=n4_;clear n0_ n1_ n2_ n3_ n4_;clear ho hb hg hat;obtain ⟨Ao23,co23,eo23⟩:=Kd.R_slice HO137.out;subst eo23;have hcz24_0:w22.cell? ⟨gb125,0,none⟩=some (u126000):=(blk_cell BK125.out 0).trans rfl;have hcz24_1:w22.cell? ⟨gb125,1,none⟩=some (u126001):=(blk_cell BK125.out 1).trans rfl;have hfz24_0:=blk_frozen BK125.out 0;have hfz24_1:=blk_frozen BK125.out 1;obtain ⟨Ao25,co25,eo25⟩:=Kd.R_slice HO_126000.out;subst eo25;have hcz26_0:w22.cell? ⟨gb124,0,none⟩=some (.slice none 0 0):=(blk_cell BK124.out 0).trans rfl;have hcz26_1:w22.cell? ⟨gb124,1,none⟩=some (.slice none 0 0):=(blk_cell BK124.out 1).trans rfl;have hfz26_0:=blk_frozen BK124.out 0;have hfz26_1:=blk_frozen BK124.out 1))
     refine bodyPost_ret (results_cell_row rfl _ _ gb124 48 #[.slice Ao25 x126000_1.length co25,.slice Ao23 y135.length co23] (0,0) _ rfl (by (with_reducible repeat (first|refine blk_drewN ?_ _|refine blk_drew ?_|refine blk_alloc ?_ _));refine blk_put (cs:=#[.slice Ao25 x126000_1.length co25,.slice none 0 0]) ?_ 1 _ rfl;(with_reducible repeat (first|refine blk_drewN ?_ _|refine blk_drew ?_|refine blk_alloc ?_ _));refine blk_put (cs:=#[.slice none 0 0,.slice none 0 0]) ?_ 0 _ rfl;(with_reducible repeat (first|refine blk_drewN ?_ _|refine blk_drew ?_|refine blk_alloc ?_ _));refine blk_far ?_ NB124_125.out _;(with_reducible repeat (first|refine blk_drewN ?_ _|refine blk_drew ?_|refine blk_alloc ?_ _));exact BK124.out) Tryd.underlying48 rfl (by kernel_rfl)) rfl ?_
     exact ⟨_,_,by first|rfl|(simp [errW_none,errW_some] <;> rfl)|(simp [*,errW_none,errW_some] <;> rfl),by (with_reducible repeat (first|apply Kd.R_alloc|apply Kd.R_drewN|apply Kd.R_drew));exact Kd.R_mono (Kd.R_far (p:=⟨gb124,1,none⟩) (Kd.R_far (p:=⟨gb124,0,none⟩) (Kd.R_far (p:=⟨gb125,1,none⟩) (Kd.R_types (Kd.R_types HO_126000.out BK125.out (by decide)) BK124.out (by decide)) (fun _ hk=>hk.1.2) (.slice Ao23 y135.length co23)) (fun _ hk=>hk.2) (.slice Ao25 x126000_1.length co25)) (fun _ hk=>hk.2) (.slice Ao23 y135.length co23)) (fun _ hk=>hk.1.1.2),by (with_reducible repeat (first|apply Kd.R_alloc|apply Kd.R_drewN|apply Kd.R_drew));exact Kd.R_mono (Kd.R_far (p:=⟨gb124,1,none⟩) (Kd.R_far (p:=⟨gb124,0,none⟩) (Kd.R_far (p:=⟨gb125,1,none⟩) (Kd.R_types (Kd.R_types HO137.out BK125.out (by decide)) BK124.out (by decide)) (fun _ hk=>hk.1.2) (.slice Ao23 y135.length co23)) (fun _ hk=>hk.2) (.slice Ao25 x126000_1.length co25)) (fun _ hk=>hk.2) (.slice Ao23 y135.length co23)) (fun _ hk=>hk.1.1),by repeat (first|(with_reducible first|exact HB.out|apply below_alloc|apply pw_below_drewN|apply below_drew1|refine below_set ?_ GE124.out|refine below_set ?_ GE125.out)|exact HB.out)⟩
    ·
     rw [if_neg c19] at H
     exact absurd H (by simp)
def spec_l07Picture.f (a0:Int):Option (Bool):=if a0≥7680 then (some (decide (a0≤7743))) else (some false)
set_option maxHeartbeats 8000000 in
set_option maxRecDepth 100000 in
theorem spec_l07Picture.calls (a0:Int) (r:Bool) (w:World) (h:spec_l07Picture.f a0=some r) :
  Calls Tryd.prog 49 #[.int .i64 a0] w fun e w'=>e = .returned (.bool r)∧Drawn0 w w':=by
 have H:(if a0≥7680 then (some (decide (a0≤7743))) else (some false))=some r:=h
 clear h
 by_cases c2:a0≥7680
 ·
  rw [if_pos c2] at H
  have c2b0:decide (7680≤a0)=true:=decide_eq_true c2
  clear c2
  obtain rfl:=Option.some.inj H
  go_enter Tryd.func49,Tryd.ntmps49
  go_wp2
  go_ret
  exact ⟨by first|rfl|(simp;done)|(simp [*];done),by repeat (first|exact Drawn0.refl _|apply Drawn0.step)⟩
 ·
  rw [if_neg c2] at H
  have c2b0:decide (7680≤a0)=false:=decide_eq_false c2
  clear c2
  obtain rfl:=Option.some.inj H
  go_enter Tryd.func49,Tryd.ntmps49
  go_wp2
  go_ret
  exact ⟨by first|rfl|(simp;done)|(simp [*];done),by repeat (first|exact Drawn0.refl _|apply Drawn0.step)⟩
def spec_l01Cased.f  : Option ((List (S78))):=some (([(⟨0,31,4,0⟩:S78),(⟨32,63,5,0⟩:S78),(⟨64,67,4,0⟩:S78),(⟨68,71,6,0⟩:S78),(⟨72,75,5,0⟩:S78),(⟨80,89,8,0⟩:S78),(⟨96,97,5,0⟩:S78)]:List (S78)))
set_option maxHeartbeats 8000000 in
set_option maxRecDepth 100000 in
theorem spec_l01Cased.calls  (r:List (S78)) (w:World) (h:spec_l01Cased.f  = some r) :
  Calls Tryd.prog 87 #[] w fun e w'=>∃ v0_:Value,e = .returned (v0_)∧Kd.R k78 78 w' w.heap.size (fun _=>True) v0_ r∧Below w.heap.size w w':=by
 have hu78:=Tryd.underlying78
 have HB:=Aside0.mk (Below.refl w.heap.size w)
 have H:(some (([(⟨0,31,4,0⟩:S78),(⟨32,63,5,0⟩:S78),(⟨64,67,4,0⟩:S78),(⟨68,71,6,0⟩:S78),(⟨72,75,5,0⟩:S78),(⟨80,89,8,0⟩:S78),(⟨96,97,5,0⟩:S78)]:List (S78))))=some r:=h
 clear h
 obtain ⟨y138,hy138⟩:∃ y_:List (S78),y_=(([(⟨0,31,4,0⟩:S78),(⟨32,63,5,0⟩:S78),(⟨64,67,4,0⟩:S78),(⟨68,71,6,0⟩:S78),(⟨72,75,5,0⟩:S78),(⟨80,89,8,0⟩:S78),(⟨96,97,5,0⟩:S78)]:List (S78))):=⟨_,rfl⟩
 replace H:(some y138)=some r:=by first|(rw [hy138];with_reducible exact H)|(have H2_:=(Option.bind_some _ _).symm.trans H;rw [hy138];with_reducible exact H2_)|(have H2_:=(Option.bind_some _ _).symm.trans H;with_reducible exact H2_)|with_reducible exact H|(rw [hy138];exact H)|exact H
 have Ny138:=Aside0.mk hy138
 clear hy138
 obtain rfl:=Option.some.inj H
 go_enter Tryd.func87,Tryd.ntmps87
 go_wp2_with (first|((with_reducible refine gate_dst (N:=8) rfl ?_);refine Kd.R_lit k78 _ 78 ?hg (N:=8) ?hd (xs:=([(⟨0,31,4,0⟩:S78),(⟨32,63,5,0⟩:S78),(⟨64,67,4,0⟩:S78),(⟨68,71,6,0⟩:S78),(⟨72,75,5,0⟩:S78),(⟨80,89,8,0⟩:S78),(⟨96,97,5,0⟩:S78)]:List (S78))) (inner:=[.int .i64 0,.int .i64 31,.int .i64 4,.int .i64 0,.int .i64 32,.int .i64 63,.int .i64 5,.int .i64 0,.int .i64 64,.int .i64 67,.int .i64 4,.int .i64 0,.int .i64 68,.int .i64 71,.int .i64 6,.int .i64 0,.int .i64 72,.int .i64 75,.int .i64 5,.int .i64 0,.int .i64 80,.int .i64 89,.int .i64 8,.int .i64 0,.int .i64 96,.int .i64 97,.int .i64 5,.int .i64 0]) (ok:=fun _=>True) (okp:=fun _=>True) ?hr ?hp (fun _ hk=>hk) trivial (Below.refl _ _) (Nat.le_refl _) (by simp) ?_;(case hd=>rfl);(case hg=>rfl);(case hr=>first|(go_simp;done)|(go_simp;rfl));(case hp=>exact (Reps.c4 (show Kd.M k78 _ _ _ (⟨0,31,4,0⟩:S78) [.int .i64 0,.int .i64 31,.int .i64 4,.int .i64 0] from (k78_mkM _ _ _ (⟨0,31,4,0⟩:S78) )) (Reps.c4 (show Kd.M k78 _ _ _ (⟨32,63,5,0⟩:S78) [.int .i64 32,.int .i64 63,.int .i64 5,.int .i64 0] from (k78_mkM _ _ _ (⟨32,63,5,0⟩:S78) )) (Reps.c4 (show Kd.M k78 _ _ _ (⟨64,67,4,0⟩:S78) [.int .i64 64,.int .i64 67,.int .i64 4,.int .i64 0] from (k78_mkM _ _ _ (⟨64,67,4,0⟩:S78) )) (Reps.c4 (show Kd.M k78 _ _ _ (⟨68,71,6,0⟩:S78) [.int .i64 68,.int .i64 71,.int .i64 6,.int .i64 0] from (k78_mkM _ _ _ (⟨68,71,6,0⟩:S78) )) (Reps.c4 (show Kd.M k78 _ _ _ (⟨72,75,5,0⟩:S78) [.int .i64 72,.int .i64 75,.int .i64 5,.int .i64 0] from (k78_mkM _ _ _ (⟨72,75,5,0⟩:S78) )) (Reps.c4 (show Kd.M k78 _ _ _ (⟨80,89,8,0⟩:S78) [.int .i64 80,.int .i64 89,.int .i64 8,.int .i64 0] from (k78_mkM _ _ _ (⟨80,89,8,0⟩:S78) )) (Reps.c4 (show Kd.M k78 _ _ _ (⟨96,97,5,0⟩:S78) [.int .i64 96,.int .i64 97,.int .i64 5,.int .i64 0] from (k78_mkM _ _ _ (⟨96,97,5,0⟩:S78) )) (Reps.none _ _)))))))));intro v139 w1 ho2 hb hg_ hnew_;clear hg_ hnew_;(first|rw [← Ny138.out] at ho2|(simp only [Int.reduceToNat] at ho2;rw [← Ny138.out] at ho2));have n0_:=Aside0.mk (Kd.R_lower ho2 (below_size (by repeat (first|(with_reducible first|exact HB.out|apply below_alloc|apply pw_below_drewN|apply below_drew1)|exact HB.out))));have n1_:=Aside0.mk (below_step (by repeat (first|(with_reducible first|exact HB.out|apply below_alloc|apply pw_below_drewN|apply below_drew1)|exact HB.out)) hb);clear HB;have HO140:=n0_;have HB:=n1_;clear n0_ n1_;clear hb ho2))
 go_ret
 exact ⟨_,by first|rfl|(simp [errW_none,errW_some] <;> rfl)|(simp [*,errW_none,errW_some] <;> rfl),by (with_reducible repeat (first|apply Kd.R_alloc|apply Kd.R_drewN|apply Kd.R_drew));exact HO140.out,by repeat (first|(with_reducible first|exact HB.out|apply below_alloc|apply pw_below_drewN|apply below_drew1)|exact HB.out)⟩
def spec_l01Rows.f  : Option ((List (S78))):=some (([(⟨0,31,1,0⟩:S78),(⟨32,32,2,0⟩:S78),(⟨48,57,8,0⟩:S78),(⟨65,90,4,1⟩:S78),(⟨97,122,5,1⟩:S78),(⟨33,126,9,0⟩:S78),(⟨127,159,1,0⟩:S78),(⟨160,160,2,0⟩:S78),(⟨173,173,11,0⟩:S78),(⟨161,191,10,0⟩:S78),(⟨1280,1311,7,5⟩:S78),(⟨1360,1369,8,5⟩:S78),(⟨1536,1567,7,6⟩:S78),(⟨1568,1579,3,6⟩:S78),(⟨1584,1585,3,6⟩:S78),(⟨1616,1625,8,6⟩:S78),(⟨1792,1810,7,7⟩:S78),(⟨1824,1844,7,7⟩:S78),(⟨1857,1883,7,7⟩:S78),(⟨2048,2095,7,8⟩:S78),(⟨4096,4159,3,0⟩:S78),(⟨7680,7748,10,0⟩:S78),(⟨7760,7785,10,0⟩:S78),(⟨7936,7947,11,0⟩:S78),(⟨7953,7954,11,0⟩:S78),(⟨8064,8064,2,0⟩:S78),(⟨9728,9753,4,1⟩:S78),(⟨9984,10009,10,0⟩:S78),(⟨10016,10025,8,0⟩:S78),(⟨10032,10035,10,0⟩:S78),(⟨12288,23459,7,7⟩:S78),(⟨24576,26623,7,9⟩:S78)]:List (S78)))
set_option maxHeartbeats 8000000 in
set_option maxRecDepth 100000 in
theorem spec_l01Rows.calls  (r:List (S78)) (w:World) (h:spec_l01Rows.f  = some r) :
  Calls Tryd.prog 88 #[] w fun e w'=>∃ v0_:Value,e = .returned (v0_)∧Kd.R k78 78 w' w.heap.size (fun _=>True) v0_ r∧Below w.heap.size w w':=by
 have hu78:=Tryd.underlying78
 have HB:=Aside0.mk (Below.refl w.heap.size w)
 have H:(some (([(⟨0,31,1,0⟩:S78),(⟨32,32,2,0⟩:S78),(⟨48,57,8,0⟩:S78),(⟨65,90,4,1⟩:S78),(⟨97,122,5,1⟩:S78),(⟨33,126,9,0⟩:S78),(⟨127,159,1,0⟩:S78),(⟨160,160,2,0⟩:S78),(⟨173,173,11,0⟩:S78),(⟨161,191,10,0⟩:S78),(⟨1280,1311,7,5⟩:S78),(⟨1360,1369,8,5⟩:S78),(⟨1536,1567,7,6⟩:S78),(⟨1568,1579,3,6⟩:S78),(⟨1584,1585,3,6⟩:S78),(⟨1616,1625,8,6⟩:S78),(⟨1792,1810,7,7⟩:S78),(⟨1824,1844,7,7⟩:S78),(⟨1857,1883,7,7⟩:S78),(⟨2048,2095,7,8⟩:S78),(⟨4096,4159,3,0⟩:S78),(⟨7680,7748,10,0⟩:S78),(⟨7760,7785,10,0⟩:S78),(⟨7936,7947,11,0⟩:S78),(⟨7953,7954,11,0⟩:S78),(⟨8064,8064,2,0⟩:S78),(⟨9728,9753,4,1⟩:S78),(⟨9984,10009,10,0⟩:S78),(⟨10016,10025,8,0⟩:S78),(⟨10032,10035,10,0⟩:S78),(⟨12288,23459,7,7⟩:S78),(⟨24576,26623,7,9⟩:S78)]:List (S78))))=some r:=h
 clear h
 obtain ⟨y141,hy141⟩:∃ y_:List (S78),y_=(([(⟨0,31,1,0⟩:S78),(⟨32,32,2,0⟩:S78),(⟨48,57,8,0⟩:S78),(⟨65,90,4,1⟩:S78),(⟨97,122,5,1⟩:S78),(⟨33,126,9,0⟩:S78),(⟨127,159,1,0⟩:S78),(⟨160,160,2,0⟩:S78),(⟨173,173,11,0⟩:S78),(⟨161,191,10,0⟩:S78),(⟨1280,1311,7,5⟩:S78),(⟨1360,1369,8,5⟩:S78),(⟨1536,1567,7,6⟩:S78),(⟨1568,1579,3,6⟩:S78),(⟨1584,1585,3,6⟩:S78),(⟨1616,1625,8,6⟩:S78),(⟨1792,1810,7,7⟩:S78),(⟨1824,1844,7,7⟩:S78),(⟨1857,1883,7,7⟩:S78),(⟨2048,2095,7,8⟩:S78),(⟨4096,4159,3,0⟩:S78),(⟨7680,7748,10,0⟩:S78),(⟨7760,7785,10,0⟩:S78),(⟨7936,7947,11,0⟩:S78),(⟨7953,7954,11,0⟩:S78),(⟨8064,8064,2,0⟩:S78),(⟨9728,9753,4,1⟩:S78),(⟨9984,10009,10,0⟩:S78),(⟨10016,10025,8,0⟩:S78),(⟨10032,10035,10,0⟩:S78),(⟨12288,23459,7,7⟩:S78),(⟨24576,26623,7,9⟩:S78)]:List (S78))):=⟨_,rfl⟩
 replace H:(some y141)=some r:=by first|(rw [hy141];with_reducible exact H)|(have H2_:=(Option.bind_some _ _).symm.trans H;rw [hy141];with_reducible exact H2_)|(have H2_:=(Option.bind_some _ _).symm.trans H;with_reducible exact H2_)|with_reducible exact H|(rw [hy141];exact H)|exact H
 have Ny141:=Aside0.mk hy141
 clear hy141
 obtain rfl:=Option.some.inj H
 go_enter Tryd.func88,Tryd.ntmps88
 go_wp2_with (first|((with_reducible refine gate_dst (N:=33) rfl ?_);refine Kd.R_lit k78 _ 78 ?hg (N:=33) ?hd (xs:=([(⟨0,31,1,0⟩:S78),(⟨32,32,2,0⟩:S78),(⟨48,57,8,0⟩:S78),(⟨65,90,4,1⟩:S78),(⟨97,122,5,1⟩:S78),(⟨33,126,9,0⟩:S78),(⟨127,159,1,0⟩:S78),(⟨160,160,2,0⟩:S78),(⟨173,173,11,0⟩:S78),(⟨161,191,10,0⟩:S78),(⟨1280,1311,7,5⟩:S78),(⟨1360,1369,8,5⟩:S78),(⟨1536,1567,7,6⟩:S78),(⟨1568,1579,3,6⟩:S78),(⟨1584,1585,3,6⟩:S78),(⟨1616,1625,8,6⟩:S78),(⟨1792,1810,7,7⟩:S78),(⟨1824,1844,7,7⟩:S78),(⟨1857,1883,7,7⟩:S78),(⟨2048,2095,7,8⟩:S78),(⟨4096,4159,3,0⟩:S78),(⟨7680,7748,10,0⟩:S78),(⟨7760,7785,10,0⟩:S78),(⟨7936,7947,11,0⟩:S78),(⟨7953,7954,11,0⟩:S78),(⟨8064,8064,2,0⟩:S78),(⟨9728,9753,4,1⟩:S78),(⟨9984,10009,10,0⟩:S78),(⟨10016,10025,8,0⟩:S78),(⟨10032,10035,10,0⟩:S78),(⟨12288,23459,7,7⟩:S78),(⟨24576,26623,7,9⟩:S78)]:List (S78))) (inner:=[.int .i64 0,.int .i64 31,.int .i64 1,.int .i64 0,.int .i64 32,.int .i64 32,.int .i64 2,.int .i64 0,.int .i64 48,.int .i64 57,.int .i64 8,.int .i64 0,.int .i64 65,.int .i64 90,.int .i64 4,.int .i64 1,.int .i64 97,.int .i64 122,.int .i64 5,.int .i64 1,.int .i64 33,.int .i64 126,.int .i64 9,.int .i64 0,.int .i64 127,.int .i64 159,.int .i64 1,.int .i64 0,.int .i64 160,.int .i64 160,.int .i64 2,.int .i64 0,.int .i64 173,.int .i64 173,.int .i64 11,.int .i64 0,.int .i64 161,.int .i64 191,.int .i64 10,.int .i64 0,.int .i64 1280,.int .i64 1311,.int .i64 7,.int .i64 5,.int .i64 1360,.int .i64 1369,.int .i64 8,.int .i64 5,.int .i64 1536,.int .i64 1567,.int .i64 7,.int .i64 6,.int .i64 1568,.int .i64 1579,.int .i64 3,.int .i64 6,.int .i64 1584,.int .i64 1585,.int .i64 3,.int .i64 6,.int .i64 1616,.int .i64 1625,.int .i64 8,.int .i64 6,.int .i64 1792,.int .i64 1810,.int .i64 7,.int .i64 7,.int .i64 1824,.int .i64 1844,.int .i64 7,.int .i64 7,.int .i64 1857,.int .i64 1883,.int .i64 7,.int .i64 7,.int .i64 2048,.int .i64 2095,.int .i64 7,.int .i64 8,.int .i64 4096,.int .i64 4159,.int .i64 3,.int .i64 0,.int .i64 7680,.int .i64 7748,.int .i64 10,.int .i64 0,.int .i64 7760,.int .i64 7785,.int .i64 10,.int .i64 0,.int .i64 7936,.int .i64 7947,.int .i64 11,.int .i64 0,.int .i64 7953,.int .i64 7954,.int .i64 11,.int .i64 0,.int .i64 8064,.int .i64 8064,.int .i64 2,.int .i64 0,.int .i64 9728,.int .i64 9753,.int .i64 4,.int .i64 1,.int .i64 9984,.int .i64 10009,.int .i64 10,.int .i64 0,.int .i64 10016,.int .i64 10025,.int .i64 8,.int .i64 0,.int .i64 10032,.int .i64 10035,.int .i64 10,.int .i64 0,.int .i64 12288,.int .i64 23459,.int .i64 7,.int .i64 7,.int .i64 24576,.int .i64 26623,.int .i64 7,.int .i64 9]) (ok:=fun _=>True) (okp:=fun _=>True) ?hr ?hp (fun _ hk=>hk) trivial (Below.refl _ _) (Nat.le_refl _) (by simp) ?_;(case hd=>rfl);(case hg=>rfl);(case hr=>first|(go_simp;done)|(go_simp;rfl));(case hp=>exact (Reps.c4 (show Kd.M k78 _ _ _ (⟨0,31,1,0⟩:S78) [.int .i64 0,.int .i64 31,.int .i64 1,.int .i64 0] from (k78_mkM _ _ _ (⟨0,31,1,0⟩:S78) )) (Reps.c4 (show Kd.M k78 _ _ _ (⟨32,32,2,0⟩:S78) [.int .i64 32,.int .i64 32,.int .i64 2,.int .i64 0] from (k78_mkM _ _ _ (⟨32,32,2,0⟩:S78) )) (Reps.c4 (show Kd.M k78 _ _ _ (⟨48,57,8,0⟩:S78) [.int .i64 48,.int .i64 57,.int .i64 8,.int .i64 0] from (k78_mkM _ _ _ (⟨48,57,8,0⟩:S78) )) (Reps.c4 (show Kd.M k78 _ _ _ (⟨65,90,4,1⟩:S78) [.int .i64 65,.int .i64 90,.int .i64 4,.int .i64 1] from (k78_mkM _ _ _ (⟨65,90,4,1⟩:S78) )) (Reps.c4 (show Kd.M k78 _ _ _ (⟨97,122,5,1⟩:S78) [.int .i64 97,.int .i64 122,.int .i64 5,.int .i64 1] from (k78_mkM _ _ _ (⟨97,122,5,1⟩:S78) )) (Reps.c4 (show Kd.M k78 _ _ _ (⟨33,126,9,0⟩:S78) [.int .i64 33,.int .i64 126,.int .i64 9,.int .i64 0] from (k78_mkM _ _ _ (⟨33,126,9,0⟩:S78) )) (Reps.c4 (show Kd.M k78 _ _ _ (⟨127,159,1,0⟩:S78) [.int .i64 127,.int .i64 159,.int .i64 1,.int .i64 0] from (k78_mkM _ _ _ (⟨127,159,1,0⟩:S78) )) (Reps.c4 (show Kd.M k78 _ _ _ (⟨160,160,2,0⟩:S78) [.int .i64 160,.int .i64 160,.int .i64 2,.int .i64 0] from (k78_mkM _ _ _ (⟨160,160,2,0⟩:S78) )) (Reps.c4 (show Kd.M k78 _ _ _ (⟨173,173,11,0⟩:S78) [.int .i64 173,.int .i64 173,.int .i64 11,.int .i64 0] from (k78_mkM _ _ _ (⟨173,173,11,0⟩:S78) )) (Reps.c4 (show Kd.M k78 _ _ _ (⟨161,191,10,0⟩:S78) [.int .i64 161,.int .i64 191,.int .i64 10,.int .i64 0] from (k78_mkM _ _ _ (⟨161,191,10,0⟩:S78) )) (Reps.c4 (show Kd.M k78 _ _ _ (⟨1280,1311,7,5⟩:S78) [.int .i64 1280,.int .i64 1311,.int .i64 7,.int .i64 5] from (k78_mkM _ _ _ (⟨1280,1311,7,5⟩:S78) )) (Reps.c4 (show Kd.M k78 _ _ _ (⟨1360,1369,8,5⟩:S78) [.int .i64 1360,.int .i64 1369,.int .i64 8,.int .i64 5] from (k78_mkM _ _ _ (⟨1360,1369,8,5⟩:S78) )) (Reps.c4 (show Kd.M k78 _ _ _ (⟨1536,1567,7,6⟩:S78) [.int .i64 1536,.int .i64 1567,.int .i64 7,.int .i64 6] from (k78_mkM _ _ _ (⟨1536,1567,7,6⟩:S78) )) (Reps.c4 (show Kd.M k78 _ _ _ (⟨1568,1579,3,6⟩:S78) [.int .i64 1568,.int .i64 1579,.int .i64 3,.int .i64 6] from (k78_mkM _ _ _ (⟨1568,1579,3,6⟩:S78) )) (Reps.c4 (show Kd.M k78 _ _ _ (⟨1584,1585,3,6⟩:S78) [.int .i64 1584,.int .i64 1585,.int .i64 3,.int .i64 6] from (k78_mkM _ _ _ (⟨1584,1585,3,6⟩:S78) )) (Reps.c4 (show Kd.M k78 _ _ _ (⟨1616,1625,8,6⟩:S78) [.int .i64 1616,.int .i64 1625,.int .i64 8,.int .i64 6] from (k78_mkM _ _ _ (⟨1616,1625,8,6⟩:S78) )) (Reps.c4 (show Kd.M k78 _ _ _ (⟨1792,1810,7,7⟩:S78) [.int .i64 1792,.int .i64 1810,.int .i64 7,.int .i64 7] from (k78_mkM _ _ _ (⟨1792,1810,7,7⟩:S78) )) (Reps.c4 (show Kd.M k78 _ _ _ (⟨1824,1844,7,7⟩:S78) [.int .i64 1824,.int .i64 1844,.int .i64 7,.int .i64 7] from (k78_mkM _ _ _ (⟨1824,1844,7,7⟩:S78) )) (Reps.c4 (show Kd.M k78 _ _ _ (⟨1857,1883,7,7⟩:S78) [.int .i64 1857,.int .i64 1883,.int .i64 7,.int .i64 7] from (k78_mkM _ _ _ (⟨1857,1883,7,7⟩:S78) )) (Reps.c4 (show Kd.M k78 _ _ _ (⟨2048,2095,7,8⟩:S78) [.int .i64 2048,.int .i64 2095,.int .i64 7,.int .i64 8] from (k78_mkM _ _ _ (⟨2048,2095,7,8⟩:S78) )) (Reps.c4 (show Kd.M k78 _ _ _ (⟨4096,4159,3,0⟩:S78) [.int .i64 4096,.int .i64 4159,.int .i64 3,.int .i64 0] from (k78_mkM _ _ _ (⟨4096,4159,3,0⟩:S78) )) (Reps.c4 (show Kd.M k78 _ _ _ (⟨7680,7748,10,0⟩:S78) [.int .i64 7680,.int .i64 7748,.int .i64 10,.int .i64 0] from (k78_mkM _ _ _ (⟨7680,7748,10,0⟩:S78) )) (Reps.c4 (show Kd.M k78 _ _ _ (⟨7760,7785,10,0⟩:S78) [.int .i64 7760,.int .i64 7785,.int .i64 10,.int .i64 0] from (k78_mkM _ _ _ (⟨7760,7785,10,0⟩:S78) )) (Reps.c4 (show Kd.M k78 _ _ _ (⟨7936,7947,11,0⟩:S78) [.int .i64 7936,.int .i64 7947,.int .i64 11,.int .i64 0] from (k78_mkM _ _ _ (⟨7936,7947,11,0⟩:S78) )) (Reps.c4 (show Kd.M k78 _ _ _ (⟨7953,7954,11,0⟩:S78) [.int .i64 7953,.int .i64 7954,.int .i64 11,.int .i64 0] from (k78_mkM _ _ _ (⟨7953,7954,11,0⟩:S78) )) (Reps.c4 (show Kd.M k78 _ _ _ (⟨8064,8064,2,0⟩:S78) [.int .i64 8064,.int .i64 8064,.int .i64 2,.int .i64 0] from (k78_mkM _ _ _ (⟨8064,8064,2,0⟩:S78) )) (Reps.c4 (show Kd.M k78 _ _ _ (⟨9728,9753,4,1⟩:S78) [.int .i64 9728,.int .i64 9753,.int .i64 4,.int .i64 1] from (k78_mkM _ _ _ (⟨9728,9753,4,1⟩:S78) )) (Reps.c4 (show Kd.M k78 _ _ _ (⟨9984,10009,10,0⟩:S78) [.int .i64 9984,.int .i64 10009,.int .i64 10,.int .i64 0] from (k78_mkM _ _ _ (⟨9984,10009,10,0⟩:S78) )) (Reps.c4 (show Kd.M k78 _ _ _ (⟨10016,10025,8,0⟩:S78) [.int .i64 10016,.int .i64 10025,.int .i64 8,.int .i64 0] from (k78_mkM _ _ _ (⟨10016,10025,8,0⟩:S78) )) (Reps.c4 (show Kd.M k78 _ _ _ (⟨10032,10035,10,0⟩:S78) [.int .i64 10032,.int .i64 10035,.int .i64 10,.int .i64 0] from (k78_mkM _ _ _ (⟨10032,10035,10,0⟩:S78) )) (Reps.c4 (show Kd.M k78 _ _ _ (⟨12288,23459,7,7⟩:S78) [.int .i64 12288,.int .i64 23459,.int .i64 7,.int .i64 7] from (k78_mkM _ _ _ (⟨12288,23459,7,7⟩:S78) )) (Reps.c4 (show Kd.M k78 _ _ _ (⟨24576,26623,7,9⟩:S78) [.int .i64 24576,.int .i64 26623,.int .i64 7,.int .i64 9] from (k78_mkM _ _ _ (⟨24576,26623,7,9⟩:S78) )) (Reps.none _ _))))))))))))))))))))))))))))))))));intro v142 w1 ho2 hb hg_ hnew_;clear hg_ hnew_;(first|rw [← Ny141.out] at ho2|(simp only [Int.reduceToNat] at ho2;rw [← Ny141.out] at ho2));have n0_:=Aside0.mk (Kd.R_lower ho2 (below_size (by repeat (first|(with_reducible first|exact HB.out|apply below_alloc|apply pw_below_drewN|apply below_drew1)|exact HB.out))));have n1_:=Aside0.mk (below_step (by repeat (first|(with_reducible first|exact HB.out|apply below_alloc|apply pw_below_drewN|apply below_drew1)|exact HB.out)) hb);clear HB;have HO143:=n0_;have HB:=n1_;clear n0_ n1_;clear hb ho2))
 go_ret
 exact ⟨_,by first|rfl|(simp [errW_none,errW_some] <;> rfl)|(simp [*,errW_none,errW_some] <;> rfl),by (with_reducible repeat (first|apply Kd.R_alloc|apply Kd.R_drewN|apply Kd.R_drew));exact HO143.out,by repeat (first|(with_reducible first|exact HB.out|apply below_alloc|apply pw_below_drewN|apply below_drew1)|exact HB.out)⟩
mutual
def spec_l01Known.j0:Nat→Int→Bool→Option (Int × Int)
 | 0,_,_=>none
 | k+1,x0,x14=>if x14=true then ((spec_l01Cased.f).bind fun t144=>(spec_l01Known.l0 k x0 t144 0)) else (if x0≥8192 then (spec_l01Known.j2 k x0 (decide (x0<9728))) else (spec_l01Known.j2 k x0 false))
def spec_l01Known.l0:Nat→Int→List (S78)→Int→Option (Int × Int)
 | 0,_,_,_=>none
 | k+1,x0,x4,x5=>if x5<(x4.length:Int) then (if 0≤x5 then (if (Int.tmod x0 256)≥((rd_T78 x4 x5).f0) then (if (Int.tmod x0 256)≤((rd_T78 x4 x5).f1) then (some ((rd_T78 x4 x5).f2,wrap64 (Int.tdiv x0 256))) else (spec_l01Known.l0 k x0 x4 (wrap64 (x5+1)))) else (spec_l01Known.l0 k x0 x4 (wrap64 (x5+1)))) else (none)) else (some (0,0))
def spec_l01Known.j2:Nat→Int→Bool→Option (Int × Int)
 | 0,_,_=>none
 | k+1,x0,x52=>if x52=true then (if (Int.tmod x0 512)≥416 then (some (0,0)) else (if (Int.tmod x0 512)<208 then (some (4,1)) else (some (5,1)))) else ((spec_l01Rows.f).bind fun t150=>(spec_l01Known.l1 k x0 t150 0))
def spec_l01Known.l1:Nat→Int→List (S78)→Int→Option (Int × Int)
 | 0,_,_,_=>none
 | k+1,x0,x7,x8=>if x8<(x7.length:Int) then (if 0≤x8 then (if x0≥((rd_T78 x7 x8).f0) then (if x0≤((rd_T78 x7 x8).f1) then (some ((rd_T78 x7 x8).f2,(rd_T78 x7 x8).f3)) else (spec_l01Known.l1 k x0 x7 (wrap64 (x8+1)))) else (spec_l01Known.l1 k x0 x7 (wrap64 (x8+1)))) else (none)) else (some (0,0))
end
def spec_l01Known.f (k:Nat) (a0:Int):Option (Int × Int):=if a0≥512 then (spec_l01Known.j0 k a0 (decide (a0<1280))) else (spec_l01Known.j0 k a0 false)
set_option maxHeartbeats 8000000 in
set_option maxRecDepth 100000 in
theorem spec_l01Known.calls (k:Nat) (a0:Int) (r1:Int) (r2:Int) (w:World) (h:spec_l01Known.f k a0=some (r1,r2)) :
  Calls Tryd.prog 54 #[.int .i64 a0] w fun e w'=>e = .returned (.tuple #[.int .i64 r1,.int .i64 r2])∧Below w.heap.size w w':=by
 have HB:=Aside0.mk (Below.refl w.heap.size w)
 have H:(if a0≥512 then (spec_l01Known.j0 k a0 (decide (a0<1280))) else (spec_l01Known.j0 k a0 false))=some (r1,r2):=h
 clear h
 have HC2:=Aside0.mk H
 clear H
 go_enter Tryd.func54,Tryd.ntmps54
 go_upto_region 1 with (fail)
 repeat (go_quiet (fail);go_upto_region 1 with (fail))
 go_cut [14] (fun v14 wc=>∃ (kq:Nat) (x14_1:Bool),v14 = .bool x14_1∧Aside0 (spec_l01Known.j0 kq a0 x14_1=some (r1,r2))∧Aside0 (kq≤k)∧Aside0 (Below w.heap.size w wc))
 case first =>
  have H:=HC2.out
  clear HC2
  by_cases c3:a0≥512
  ·
   rw [if_pos c3] at H
   have c3b0:decide (512≤a0)=true:=decide_eq_true c3
   clear c3
   (first|rw [c3b0]|(simp only [i64_w,i32_w];rw [c3b0])|skip)
   have H':=Aside0.mk H
   clear H
   go_wp2
   repeat (go_quiet (fail);try go_wp2)
   go_meet
   case rel=>exact ⟨_,(decide (a0<1280)),(by first|rfl|(simp;done)|(simp [*];done)),H',⟨by first|omega|exact Nat.le_refl _⟩,⟨by repeat (first|(with_reducible first|exact HB.out|apply below_alloc|apply pw_below_drewN|apply below_drew1)|exact HB.out)⟩⟩
  ·
   rw [if_neg c3] at H
   have c3b0:decide (512≤a0)=false:=decide_eq_false c3
   clear c3
   (first|rw [c3b0]|(simp only [i64_w,i32_w];rw [c3b0])|skip)
   have H':=Aside0.mk H
   clear H
   go_wp2
   repeat (go_quiet (fail);try go_wp2)
   go_meet
   case rel=>exact ⟨_,(false),(by first|rfl|(simp;done)|(simp [*];done)),H',⟨by first|omega|exact Nat.le_refl _⟩,⟨by repeat (first|(with_reducible first|exact HB.out|apply below_alloc|apply pw_below_drewN|apply below_drew1)|exact HB.out)⟩⟩
 case rest =>
  clear HC2
  try clear p2
  try clear c3
  try clear c3b0
  obtain ⟨kq,x14_1,rfl,HA,HJ1,HB⟩:=hcut
  cases kq with
  | zero=>exact absurd HA.out (by simp [spec_l01Known.j0])
  | succ kj1 =>
   have H:=HA.out
   clear HA
   simp only [spec_l01Known.j0] at H
   by_cases c4:x14_1=true
   ·
    subst c4
    have H1:((spec_l01Cased.f).bind fun t144=>(spec_l01Known.l0 kj1 a0 t144 0))=some (r1,r2):=by rw [if_pos rfl] at H;exact H
    clear H
    have H:=H1
    clear H1
    replace H:=Option.bind_eq_some_iff.mp H
    obtain ⟨t144,A50,H⟩:=H
    replace H:(spec_l01Known.l0 kj1 a0 t144 0)=some (r1,r2):=H
    have A5:=Aside0.mk A50
    clear A50
    have H':=Aside0.mk H
    clear H
    go_wp2_with (first|(go_at_call 87;(with_reducible refine (spec_l01Cased.calls  t144 _ A5.out).mono ?_);rintro e w6 ⟨v145,rfl,ho0,hb⟩;have n0_:=Aside0.mk (Kd.R_lower ho0 (below_size (by repeat (first|(with_reducible first|exact HB.out|apply below_alloc|apply pw_below_drewN|apply below_drew1)|exact HB.out))));have n1_:=Aside0.mk (below_step (by repeat (first|(with_reducible first|exact HB.out|apply below_alloc|apply pw_below_drewN|apply below_drew1)|exact HB.out)) hb);clear HB;have HO146:=n0_;have HB:=n1_;clear n0_ n1_;(try clear hb);(try clear hb2);(try clear hk);(try clear hi);(try clear ho0)))
    repeat (go_quiet (first|(go_at_call 87;(with_reducible refine (spec_l01Cased.calls  t144 _ A5.out).mono ?_);rintro e w6 ⟨v145,rfl,ho0,hb⟩;have n0_:=Aside0.mk (Kd.R_lower ho0 (below_size (by repeat (first|(with_reducible first|exact HB.out|apply below_alloc|apply pw_below_drewN|apply below_drew1)|exact HB.out))));have n1_:=Aside0.mk (below_step (by repeat (first|(with_reducible first|exact HB.out|apply below_alloc|apply pw_below_drewN|apply below_drew1)|exact HB.out)) hb);clear HB;have HO146:=n0_;have HB:=n1_;clear n0_ n1_;(try clear hb);(try clear hb2);(try clear hk);(try clear hi);(try clear ho0)));try go_wp2_with (first|(go_at_call 87;(with_reducible refine (spec_l01Cased.calls  t144 _ A5.out).mono ?_);rintro e w6 ⟨v145,rfl,ho0,hb⟩;have n0_:=Aside0.mk (Kd.R_lower ho0 (below_size (by repeat (first|(with_reducible first|exact HB.out|apply below_alloc|apply pw_below_drewN|apply below_drew1)|exact HB.out))));have n1_:=Aside0.mk (below_step (by repeat (first|(with_reducible first|exact HB.out|apply below_alloc|apply pw_below_drewN|apply below_drew1)|exact HB.out)) hb);clear HB;have HO146:=n0_;have HB:=n1_;clear n0_ n1_;(try clear hb);(try clear hb2);(try clear hk);(try clear hi);(try clear ho0))))
    go_loopg [5] kj1 (fun kq v5 w'=>∃ (x5_2:Int),v5 = .int .i64 x5_2∧Aside0 (spec_l01Known.l0 kq a0 t144 x5_2=some (r1,r2))∧Aside0 (kq≤kj1)∧Aside0 (Kd.R k78 78 w' w.heap.size (fun _=>True) v145 t144)∧Aside0 (Below w.heap.size w w'))
    case atStart=>exact ⟨(0),(by first|rfl|(simp;done)|(simp [*];done)),H',⟨Nat.le_refl _⟩,⟨by (with_reducible repeat (first|apply Kd.R_alloc|apply Kd.R_drewN|apply Kd.R_drew));exact HO146.out⟩,⟨by repeat (first|(with_reducible first|exact HB.out|apply below_alloc|apply pw_below_drewN|apply below_drew1)|exact HB.out)⟩⟩
    case round =>
     clear H'
     try clear p2
     try clear c3
     try clear c3b0
     try clear c4
     try clear c5
     try clear p2
     obtain ⟨x5_2,rfl,HA,HK2,HO_4,HB⟩:=hrel
     cases gk with
     | zero=>exact absurd HA.out (by simp [spec_l01Known.l0])
     | succ k2 =>
      have H:=HA.out
      clear HA
      simp only [spec_l01Known.l0] at H
      by_cases c7:x5_2<(t144.length:Int)
      ·
       rw [if_pos c7] at H
       have c7b0:decide (x5_2<(t144.length:Int))=true:=decide_eq_true c7
       clear c7
       by_cases c8:0≤x5_2
       ·
        rw [if_pos c8] at H
        have c8b0:decide (0≤x5_2)=true:=decide_eq_true c8
        clear c8
        by_cases c9:(Int.tmod a0 256)≥((rd_T78 t144 x5_2).f0)
        ·
         rw [if_pos c9] at H
         have c9b0:decide (((rd_T78 t144 x5_2).f0)≤(Int.tmod a0 256))=true:=decide_eq_true c9
         clear c9
         by_cases c10:(Int.tmod a0 256)≤((rd_T78 t144 x5_2).f1)
         ·
          rw [if_pos c10] at H
          have c10b0:decide ((Int.tmod a0 256)≤((rd_T78 t144 x5_2).f1))=true:=decide_eq_true c10
          clear c10
          simp only [Option.some.injEq,Prod.mk.injEq] at H
          obtain ⟨rfl,rfl⟩:=H
          obtain ⟨Ao11,co11,eo11⟩:=Kd.R_slice HO_4.out
          subst eo11
          have p147:0≤(x5_2:Int):=of_decide_eq_true (by first|(with_reducible assumption)|assumption)
          have q147:x5_2<(t144.length:Int):=of_decide_eq_true (by first|(with_reducible assumption)|assumption)
          obtain ⟨ad147,e147,hx147_0,hx147_1,hx147_2,hx147_3⟩:=at_T78 (Kd.R_reads' HO_4.out).2.2 x5_2 p147 q147
          cases e147
          replace p147:=eq_true p147
          replace q147:=eq_true q147
          have p148:0≤(x5_2:Int):=of_decide_eq_true (by first|(with_reducible assumption)|assumption)
          have q148:x5_2<(t144.length:Int):=of_decide_eq_true (by first|(with_reducible assumption)|assumption)
          obtain ⟨ad148,e148,hx148_0,hx148_1,hx148_2,hx148_3⟩:=at_T78 (Kd.R_reads' HO_4.out).2.2 x5_2 p148 q148
          obtain rfl:ad147=ad148:=(by injection e148)
          replace p148:=eq_true p148
          replace q148:=eq_true q148
          have p149:0≤(x5_2:Int):=of_decide_eq_true (by first|(with_reducible assumption)|assumption)
          have q149:x5_2<(t144.length:Int):=of_decide_eq_true (by first|(with_reducible assumption)|assumption)
          obtain ⟨ad149,e149,hx149_0,hx149_1,hx149_2,hx149_3⟩:=at_T78 (Kd.R_reads' HO_4.out).2.2 x5_2 p149 q149
          obtain rfl:ad147=ad149:=(by injection e149)
          replace p149:=eq_true p149
          replace q149:=eq_true q149
          go_wp2
          repeat (go_quiet (fail);try go_wp2)
          go_ret2
          exact ⟨by first|rfl|(simp [errW_none,errW_some] <;> rfl)|(simp [*,errW_none,errW_some] <;> rfl),by repeat (first|(with_reducible first|exact HB.out|apply below_alloc|apply pw_below_drewN|apply below_drew1)|exact HB.out)⟩
         ·
          rw [if_neg c10] at H
          have c10b0:decide ((Int.tmod a0 256)≤((rd_T78 t144 x5_2).f1))=false:=decide_eq_false c10
          clear c10
          have H':=Aside0.mk H
          clear H
          obtain ⟨Ao12,co12,eo12⟩:=Kd.R_slice HO_4.out
          subst eo12
          have p147:0≤(x5_2:Int):=of_decide_eq_true (by first|(with_reducible assumption)|assumption)
          have q147:x5_2<(t144.length:Int):=of_decide_eq_true (by first|(with_reducible assumption)|assumption)
          obtain ⟨ad147,e147,hx147_0,hx147_1,hx147_2,hx147_3⟩:=at_T78 (Kd.R_reads' HO_4.out).2.2 x5_2 p147 q147
          cases e147
          replace p147:=eq_true p147
          replace q147:=eq_true q147
          have p148:0≤(x5_2:Int):=of_decide_eq_true (by first|(with_reducible assumption)|assumption)
          have q148:x5_2<(t144.length:Int):=of_decide_eq_true (by first|(with_reducible assumption)|assumption)
          obtain ⟨ad148,e148,hx148_0,hx148_1,hx148_2,hx148_3⟩:=at_T78 (Kd.R_reads' HO_4.out).2.2 x5_2 p148 q148
          obtain rfl:ad147=ad148:=(by injection e148)
          replace p148:=eq_true p148
          replace q148:=eq_true q148
          go_wp2
          repeat (go_quiet (fail);try go_wp2)
          go_roundg k2
          case measure=>have:=HJ1.out;have:=HK2.out;omega
          case rel=>exact ⟨(wrap64 (x5_2+1)),(by first|rfl|(simp;done)|(simp [*];done)),H',⟨by have:=HJ1.out;have:=HK2.out;omega⟩,⟨by (with_reducible repeat (first|apply Kd.R_alloc|apply Kd.R_drewN|apply Kd.R_drew));exact HO_4.out⟩,⟨by repeat (first|(with_reducible first|exact HB.out|apply below_alloc|apply pw_below_drewN|apply below_drew1)|exact HB.out)⟩⟩
        ·
         rw [if_neg c9] at H
         have c9b0:decide (((rd_T78 t144 x5_2).f0)≤(Int.tmod a0 256))=false:=decide_eq_false c9
         clear c9
         have H':=Aside0.mk H
         clear H
         obtain ⟨Ao13,co13,eo13⟩:=Kd.R_slice HO_4.out
         subst eo13
         have p147:0≤(x5_2:Int):=of_decide_eq_true (by first|(with_reducible assumption)|assumption)
         have q147:x5_2<(t144.length:Int):=of_decide_eq_true (by first|(with_reducible assumption)|assumption)
         obtain ⟨ad147,e147,hx147_0,hx147_1,hx147_2,hx147_3⟩:=at_T78 (Kd.R_reads' HO_4.out).2.2 x5_2 p147 q147
         cases e147
         replace p147:=eq_true p147
         replace q147:=eq_true q147
         go_wp2
         repeat (go_quiet (fail);try go_wp2)
         go_roundg k2
         case measure=>have:=HJ1.out;have:=HK2.out;omega
         case rel=>exact ⟨(wrap64 (x5_2+1)),(by first|rfl|(simp;done)|(simp [*];done)),H',⟨by have:=HJ1.out;have:=HK2.out;omega⟩,⟨by (with_reducible repeat (first|apply Kd.R_alloc|apply Kd.R_drewN|apply Kd.R_drew));exact HO_4.out⟩,⟨by repeat (first|(with_reducible first|exact HB.out|apply below_alloc|apply pw_below_drewN|apply below_drew1)|exact HB.out)⟩⟩
       ·
        rw [if_neg c8] at H
        exact absurd H (by simp)
      ·
       rw [if_neg c7] at H
       have c7b0:decide (x5_2<(t144.length:Int))=false:=decide_eq_false c7
       clear c7
       simp only [Option.some.injEq,Prod.mk.injEq] at H
       obtain ⟨rfl,rfl⟩:=H
       obtain ⟨Ao14,co14,eo14⟩:=Kd.R_slice HO_4.out
       subst eo14
       go_wp2
       repeat (go_quiet (fail);try go_wp2)
       go_ret2
       exact ⟨by first|rfl|(simp [errW_none,errW_some] <;> rfl)|(simp [*,errW_none,errW_some] <;> rfl),by repeat (first|(with_reducible first|exact HB.out|apply below_alloc|apply pw_below_drewN|apply below_drew1)|exact HB.out)⟩
   ·
    replace c4:=Bool.eq_false_iff.mpr c4
    subst c4
    have H1:(if a0≥8192 then (spec_l01Known.j2 kj1 a0 (decide (a0<9728))) else (spec_l01Known.j2 kj1 a0 false))=some (r1,r2):=by rw [if_neg (show ¬ (false=true) by decide)] at H;exact H
    clear H
    have H:=H1
    clear H1
    have HC15:=Aside0.mk H
    clear H
    go_upto_region 9 with (fail)
    repeat (go_quiet (fail);go_upto_region 9 with (fail))
    go_cut [52] (fun v52 wc=>∃ (kq:Nat) (x52_14:Bool),v52 = .bool x52_14∧Aside0 (spec_l01Known.j2 kq a0 x52_14=some (r1,r2))∧Aside0 (kq≤kj1)∧Aside0 (Below w.heap.size w wc))
    case first =>
     have H:=HC15.out
     clear HC15
     by_cases c16:a0≥8192
     ·
      rw [if_pos c16] at H
      have c16b0:decide (8192≤a0)=true:=decide_eq_true c16
      clear c16
      (first|rw [c16b0]|(simp only [i64_w,i32_w];rw [c16b0])|skip)
      have H':=Aside0.mk H
      clear H
      go_wp2
      repeat (go_quiet (fail);try go_wp2)
      go_meet
      case rel=>exact ⟨_,(decide (a0<9728)),(by first|rfl|(simp;done)|(simp [*];done)),H',⟨by have:=HJ1.out;first|omega|exact Nat.le_refl _⟩,⟨by repeat (first|(with_reducible first|exact HB.out|apply below_alloc|apply pw_below_drewN|apply below_drew1)|exact HB.out)⟩⟩
     ·
      rw [if_neg c16] at H
      have c16b0:decide (8192≤a0)=false:=decide_eq_false c16
      clear c16
      (first|rw [c16b0]|(simp only [i64_w,i32_w];rw [c16b0])|skip)
      have H':=Aside0.mk H
      clear H
      go_wp2
      repeat (go_quiet (fail);try go_wp2)
      go_meet
      case rel=>exact ⟨_,(false),(by first|rfl|(simp;done)|(simp [*];done)),H',⟨by have:=HJ1.out;first|omega|exact Nat.le_refl _⟩,⟨by repeat (first|(with_reducible first|exact HB.out|apply below_alloc|apply pw_below_drewN|apply below_drew1)|exact HB.out)⟩⟩
    case rest =>
     clear HC15
     try clear c1
     try clear p1
     try clear q1
     try clear hx1
     try clear p2
     try clear c3
     try clear c3b0
     try clear c4
     try clear c5
     try clear p6
     try clear c7
     try clear c7b0
     try clear c8
     try clear c8b0
     try clear c9
     try clear c9b0
     try clear c10
     try clear c10b0
     try clear p14
     try clear q14
     try clear hx14
     try clear c16
     try clear c16b0
     try clear hx147_0
     try clear hx147_1
     try clear hx147_2
     try clear hx147_3
     try clear hx148_0
     try clear hx148_1
     try clear hx148_2
     try clear hx148_3
     try clear hx149_0
     try clear hx149_1
     try clear hx149_2
     try clear hx149_3
     try clear p147
     try clear p148
     try clear p149
     try clear p2
     try clear q147
     try clear q148
     try clear q149
     obtain ⟨kq,x52_14,rfl,HA,HJ14,HB⟩:=hcut
     cases kq with
     | zero=>exact absurd HA.out (by simp [spec_l01Known.j2])
     | succ kj14 =>
      have H:=HA.out
      clear HA
      simp only [spec_l01Known.j2] at H
      by_cases c17:x52_14=true
      ·
       subst c17
       have H1:(if (Int.tmod a0 512)≥416 then (some (0,0)) else (if (Int.tmod a0 512)<208 then (some (4,1)) else (some (5,1))))=some (r1,r2):=by rw [if_pos rfl] at H;exact H
       clear H
       have H:=H1
       clear H1
       by_cases c18:(Int.tmod a0 512)≥416
       ·
        rw [if_pos c18] at H
        have c18b0:decide (416≤(Int.tmod a0 512))=true:=decide_eq_true c18
        clear c18
        simp only [Option.some.injEq,Prod.mk.injEq] at H
        obtain ⟨rfl,rfl⟩:=H
        go_wp2
        repeat (go_quiet (fail);try go_wp2)
        go_ret2
        exact ⟨by first|rfl|(simp [errW_none,errW_some] <;> rfl)|(simp [*,errW_none,errW_some] <;> rfl),by repeat (first|(with_reducible first|exact HB.out|apply below_alloc|apply pw_below_drewN|apply below_drew1)|exact HB.out)⟩
       ·
        rw [if_neg c18] at H
        have c18b0:decide (416≤(Int.tmod a0 512))=false:=decide_eq_false c18
        clear c18
        by_cases c19:(Int.tmod a0 512)<208
        ·
         rw [if_pos c19] at H
         have c19b0:decide ((Int.tmod a0 512)<208)=true:=decide_eq_true c19
         clear c19
         simp only [Option.some.injEq,Prod.mk.injEq] at H
         obtain ⟨rfl,rfl⟩:=H
         go_wp2
         repeat (go_quiet (fail);try go_wp2)
         go_ret2
         exact ⟨by first|rfl|(simp [errW_none,errW_some] <;> rfl)|(simp [*,errW_none,errW_some] <;> rfl),by repeat (first|(with_reducible first|exact HB.out|apply below_alloc|apply pw_below_drewN|apply below_drew1)|exact HB.out)⟩
        ·
         rw [if_neg c19] at H
         have c19b0:decide ((Int.tmod a0 512)<208)=false:=decide_eq_false c19
         clear c19
         simp only [Option.some.injEq,Prod.mk.injEq] at H
         obtain ⟨rfl,rfl⟩:=H
         go_wp2
         repeat (go_quiet (fail);try go_wp2)
         go_ret2
         exact ⟨by first|rfl|(simp [errW_none,errW_some] <;> rfl)|(simp [*,errW_none,errW_some] <;> rfl),by repeat (first|(with_reducible first|exact HB.out|apply below_alloc|apply pw_below_drewN|apply below_drew1)|exact HB.out)⟩
      ·
       replace c17:=Bool.eq_false_iff.mpr c17
       subst c17
       have H1:((spec_l01Rows.f).bind fun t150=>(spec_l01Known.l1 kj14 a0 t150 0))=some (r1,r2):=by rw [if_neg (show ¬ (false=true) by decide)] at H;exact H
       clear H
       have H:=H1
       clear H1
       replace H:=Option.bind_eq_some_iff.mp H
       obtain ⟨t150,A200,H⟩:=H
       replace H:(spec_l01Known.l1 kj14 a0 t150 0)=some (r1,r2):=H
       have A20:=Aside0.mk A200
       clear A200
       have H':=Aside0.mk H
       clear H
       go_wp2_with (first|(go_at_call 88;(with_reducible refine (spec_l01Rows.calls  t150 _ A20.out).mono ?_);rintro e w21 ⟨v151,rfl,ho0,hb⟩;have n0_:=Aside0.mk (Kd.R_lower ho0 (below_size (by repeat (first|(with_reducible first|exact HB.out|apply below_alloc|apply pw_below_drewN|apply below_drew1)|exact HB.out))));have n1_:=Aside0.mk (below_step (by repeat (first|(with_reducible first|exact HB.out|apply below_alloc|apply pw_below_drewN|apply below_drew1)|exact HB.out)) hb);clear HB;have HO152:=n0_;have HB:=n1_;clear n0_ n1_;(try clear hb);(try clear hb2);(try clear hk);(try clear hi);(try clear ho0)))
       repeat (go_quiet (first|(go_at_call 88;(with_reducible refine (spec_l01Rows.calls  t150 _ A20.out).mono ?_);rintro e w21 ⟨v151,rfl,ho0,hb⟩;have n0_:=Aside0.mk (Kd.R_lower ho0 (below_size (by repeat (first|(with_reducible first|exact HB.out|apply below_alloc|apply pw_below_drewN|apply below_drew1)|exact HB.out))));have n1_:=Aside0.mk (below_step (by repeat (first|(with_reducible first|exact HB.out|apply below_alloc|apply pw_below_drewN|apply below_drew1)|exact HB.out)) hb);clear HB;have HO152:=n0_;have HB:=n1_;clear n0_ n1_;(try clear hb);(try clear hb2);(try clear hk);(try clear hi);(try clear ho0)));try go_wp2_with (first|(go_at_call 88;(with_reducible refine (spec_l01Rows.calls  t150 _ A20.out).mono ?_);rintro e w21 ⟨v151,rfl,ho0,hb⟩;have n0_:=Aside0.mk (Kd.R_lower ho0 (below_size (by repeat (first|(with_reducible first|exact HB.out|apply below_alloc|apply pw_below_drewN|apply below_drew1)|exact HB.out))));have n1_:=Aside0.mk (below_step (by repeat (first|(with_reducible first|exact HB.out|apply below_alloc|apply pw_below_drewN|apply below_drew1)|exact HB.out)) hb);clear HB;have HO152:=n0_;have HB:=n1_;clear n0_ n1_;(try clear hb);(try clear hb2);(try clear hk);(try clear hi);(try clear ho0))))
       go_loopg [8] kj14 (fun kq v8 w'=>∃ (x8_3:Int),v8 = .int .i64 x8_3∧Aside0 (spec_l01Known.l1 kq a0 t150 x8_3=some (r1,r2))∧Aside0 (kq≤kj14)∧Aside0 (Kd.R k78 78 w' w.heap.size (fun _=>True) v151 t150)∧Aside0 (Below w.heap.size w w'))
       case atStart=>exact ⟨(0),(by first|rfl|(simp;done)|(simp [*];done)),H',⟨Nat.le_refl _⟩,⟨by (with_reducible repeat (first|apply Kd.R_alloc|apply Kd.R_drewN|apply Kd.R_drew));exact HO152.out⟩,⟨by repeat (first|(with_reducible first|exact HB.out|apply below_alloc|apply pw_below_drewN|apply below_drew1)|exact HB.out)⟩⟩
       case round =>
        clear H'
        try clear c1
        try clear p1
        try clear q1
        try clear hx1
        try clear p2
        try clear c3
        try clear c3b0
        try clear c4
        try clear c5
        try clear p6
        try clear c7
        try clear c7b0
        try clear c8
        try clear c8b0
        try clear c9
        try clear c9b0
        try clear c10
        try clear c10b0
        try clear p14
        try clear q14
        try clear hx14
        try clear c16
        try clear c16b0
        try clear c17
        try clear c18
        try clear c18b0
        try clear c19
        try clear c19b0
        try clear hx147_0
        try clear hx147_1
        try clear hx147_2
        try clear hx147_3
        try clear hx148_0
        try clear hx148_1
        try clear hx148_2
        try clear hx148_3
        try clear hx149_0
        try clear hx149_1
        try clear hx149_2
        try clear hx149_3
        try clear p1
        try clear p14
        try clear p147
        try clear p148
        try clear p149
        try clear p2
        try clear p6
        try clear q1
        try clear q14
        try clear q147
        try clear q148
        try clear q149
        obtain ⟨x8_3,rfl,HA,HK3,HO_7,HB⟩:=hrel
        cases gk with
        | zero=>exact absurd HA.out (by simp [spec_l01Known.l1])
        | succ k3 =>
         have H:=HA.out
         clear HA
         simp only [spec_l01Known.l1] at H
         by_cases c22:x8_3<(t150.length:Int)
         ·
          rw [if_pos c22] at H
          have c22b0:decide (x8_3<(t150.length:Int))=true:=decide_eq_true c22
          clear c22
          by_cases c23:0≤x8_3
          ·
           rw [if_pos c23] at H
           have c23b0:decide (0≤x8_3)=true:=decide_eq_true c23
           clear c23
           by_cases c24:a0≥((rd_T78 t150 x8_3).f0)
           ·
            rw [if_pos c24] at H
            have c24b0:decide (((rd_T78 t150 x8_3).f0)≤a0)=true:=decide_eq_true c24
            clear c24
            by_cases c25:a0≤((rd_T78 t150 x8_3).f1)
            ·
             rw [if_pos c25] at H
             have c25b0:decide (a0≤((rd_T78 t150 x8_3).f1))=true:=decide_eq_true c25
             clear c25
             simp only [Option.some.injEq,Prod.mk.injEq] at H
             obtain ⟨rfl,rfl⟩:=H
             obtain ⟨Ao26,co26,eo26⟩:=Kd.R_slice HO_7.out
             subst eo26
             have p153:0≤(x8_3:Int):=of_decide_eq_true (by first|(with_reducible assumption)|assumption)
             have q153:x8_3<(t150.length:Int):=of_decide_eq_true (by first|(with_reducible assumption)|assumption)
             obtain ⟨ad153,e153,hx153_0,hx153_1,hx153_2,hx153_3⟩:=at_T78 (Kd.R_reads' HO_7.out).2.2 x8_3 p153 q153
             cases e153
             replace p153:=eq_true p153
             replace q153:=eq_true q153
             have p154:0≤(x8_3:Int):=of_decide_eq_true (by first|(with_reducible assumption)|assumption)
             have q154:x8_3<(t150.length:Int):=of_decide_eq_true (by first|(with_reducible assumption)|assumption)
             obtain ⟨ad154,e154,hx154_0,hx154_1,hx154_2,hx154_3⟩:=at_T78 (Kd.R_reads' HO_7.out).2.2 x8_3 p154 q154
             obtain rfl:ad153=ad154:=(by injection e154)
             replace p154:=eq_true p154
             replace q154:=eq_true q154
             have p155:0≤(x8_3:Int):=of_decide_eq_true (by first|(with_reducible assumption)|assumption)
             have q155:x8_3<(t150.length:Int):=of_decide_eq_true (by first|(with_reducible assumption)|assumption)
             obtain ⟨ad155,e155,hx155_0,hx155_1,hx155_2,hx155_3⟩:=at_T78 (Kd.R_reads' HO_7.out).2.2 x8_3 p155 q155
             obtain rfl:ad153=ad155:=(by injection e155)
             replace p155:=eq_true p155
             replace q155:=eq_true q155
             have p156:0≤(x8_3:Int):=of_decide_eq_true (by first|(with_reducible assumption)|assumption)
             have q156:x8_3<(t150.length:Int):=of_decide_eq_true (by first|(with_reducible assumption)|assumption)
             obtain ⟨ad156,e156,hx156_0,hx156_1,hx156_2,hx156_3⟩:=at_T78 (Kd.R_reads' HO_7.out).2.2 x8_3 p156 q156
             obtain rfl:ad153=ad156:=(by injection e156)
             replace p156:=eq_true p156
             replace q156:=eq_true q156
             go_wp2
             repeat (go_quiet (fail);try go_wp2)
             go_ret2
             exact ⟨by first|rfl|(simp [errW_none,errW_some] <;> rfl)|(simp [*,errW_none,errW_some] <;> rfl),by repeat (first|(with_reducible first|exact HB.out|apply below_alloc|apply pw_below_drewN|apply below_drew1)|exact HB.out)⟩
            ·
             rw [if_neg c25] at H
             have c25b0:decide (a0≤((rd_T78 t150 x8_3).f1))=false:=decide_eq_false c25
             clear c25
             have H':=Aside0.mk H
             clear H
             obtain ⟨Ao27,co27,eo27⟩:=Kd.R_slice HO_7.out
             subst eo27
             have p153:0≤(x8_3:Int):=of_decide_eq_true (by first|(with_reducible assumption)|assumption)
             have q153:x8_3<(t150.length:Int):=of_decide_eq_true (by first|(with_reducible assumption)|assumption)
             obtain ⟨ad153,e153,hx153_0,hx153_1,hx153_2,hx153_3⟩:=at_T78 (Kd.R_reads' HO_7.out).2.2 x8_3 p153 q153
             cases e153
             replace p153:=eq_true p153
             replace q153:=eq_true q153
             have p154:0≤(x8_3:Int):=of_decide_eq_true (by first|(with_reducible assumption)|assumption)
             have q154:x8_3<(t150.length:Int):=of_decide_eq_true (by first|(with_reducible assumption)|assumption)
             obtain ⟨ad154,e154,hx154_0,hx154_1,hx154_2,hx154_3⟩:=at_T78 (Kd.R_reads' HO_7.out).2.2 x8_3 p154 q154
             obtain rfl:ad153=ad154:=(by injection e154)
             replace p154:=eq_true p154
             replace q154:=eq_true q154
             go_wp2
             repeat (go_quiet (fail);try go_wp2)
             go_roundg k3
             case measure=>have:=HJ1.out;have:=HJ14.out;have:=HK3.out;omega
             case rel=>exact ⟨(wrap64 (x8_3+1)),(by first|rfl|(simp;done)|(simp [*];done)),H',⟨by have:=HJ1.out;have:=HJ14.out;have:=HK3.out;omega⟩,⟨by (with_reducible repeat (first|apply Kd.R_alloc|apply Kd.R_drewN|apply Kd.R_drew));exact HO_7.out⟩,⟨by repeat (first|(with_reducible first|exact HB.out|apply below_alloc|apply pw_below_drewN|apply below_drew1)|exact HB.out)⟩⟩
           ·
            rw [if_neg c24] at H
            have c24b0:decide (((rd_T78 t150 x8_3).f0)≤a0)=false:=decide_eq_false c24
            clear c24
            have H':=Aside0.mk H
            clear H
            obtain ⟨Ao28,co28,eo28⟩:=Kd.R_slice HO_7.out
            subst eo28
            have p153:0≤(x8_3:Int):=of_decide_eq_true (by first|(with_reducible assumption)|assumption)
            have q153:x8_3<(t150.length:Int):=of_decide_eq_true (by first|(with_reducible assumption)|assumption)
            obtain ⟨ad153,e153,hx153_0,hx153_1,hx153_2,hx153_3⟩:=at_T78 (Kd.R_reads' HO_7.out).2.2 x8_3 p153 q153
            cases e153
            replace p153:=eq_true p153
            replace q153:=eq_true q153
            go_wp2
            repeat (go_quiet (fail);try go_wp2)
            go_roundg k3
            case measure=>have:=HJ1.out;have:=HJ14.out;have:=HK3.out;omega
            case rel=>exact ⟨(wrap64 (x8_3+1)),(by first|rfl|(simp;done)|(simp [*];done)),H',⟨by have:=HJ1.out;have:=HJ14.out;have:=HK3.out;omega⟩,⟨by (with_reducible repeat (first|apply Kd.R_alloc|apply Kd.R_drewN|apply Kd.R_drew));exact HO_7.out⟩,⟨by repeat (first|(with_reducible first|exact HB.out|apply below_alloc|apply pw_below_drewN|apply below_drew1)|exact HB.out)⟩⟩
          ·
           rw [if_neg c23] at H
           exact absurd H (by simp)
         ·
          rw [if_neg c22] at H
          have c22b0:decide (x8_3<(t150.length:Int))=false:=decide_eq_false c22
          clear c22
          simp only [Option.some.injEq,Prod.mk.injEq] at H
          obtain ⟨rfl,rfl⟩:=H
          obtain ⟨Ao29,co29,eo29⟩:=Kd.R_slice HO_7.out
          subst eo29
          go_wp2
          repeat (go_quiet (fail);try go_wp2)
          go_ret2
          exact ⟨by first|rfl|(simp [errW_none,errW_some] <;> rfl)|(simp [*,errW_none,errW_some] <;> rfl),by repeat (first|(with_reducible first|exact HB.out|apply below_alloc|apply pw_below_drewN|apply below_drew1)|exact HB.out)⟩
def spec_l01Cat.f (k:Nat) (a0:Int):Option (Int):=(spec_l01Known.f k a0).bind fun bt157=>(some bt157.1)
set_option maxHeartbeats 8000000 in
set_option maxRecDepth 100000 in
theorem spec_l01Cat.calls (k:Nat) (a0:Int) (r:Int) (w:World) (h:spec_l01Cat.f k a0=some r) :
  Calls Tryd.prog 38 #[.int .i64 a0] w fun e w'=>e = .returned (.int .i64 r)∧Below w.heap.size w w':=by
 have HB:=Aside0.mk (Below.refl w.heap.size w)
 have H:((spec_l01Known.f k a0).bind fun bt157=>(some bt157.1))=some r:=h
 clear h
 replace H:=Option.bind_eq_some_iff.mp H
 obtain ⟨⟨t157,t158⟩,A20,H⟩:=H
 replace H:(some t157)=some r:=H
 have A2:=Aside0.mk A20
 clear A20
 obtain rfl:=Option.some.inj H
 go_enter Tryd.func38,Tryd.ntmps38
 go_wp2_with (first|((with_reducible refine gate_callee (f:=54) rfl ?_);refine goesL_ (some 7) rfl rfl Tryd.func54 (by kernel_rfl) rfl #[.int .i64 a0] rfl (by (try simp only [List.map_toArray,List.map_cons,List.map_nil]);first|done|rfl|(simp only [List.length_drop,List.length_take];rfl)) ?_;(with_reducible refine (spec_l01Known.calls k a0 t157 t158 _ A2.out).mono ?_);rintro e w3 ⟨rfl,hb⟩;refine ⟨_,rfl,?_⟩;have n0_:=Aside0.mk (below_step (by repeat (first|(with_reducible first|exact HB.out|apply below_alloc|apply pw_below_drewN|apply below_drew1)|exact HB.out)) hb);clear HB;have HB:=n0_;clear n0_;(try clear hb);(try clear hb2);(try clear hk);(try clear hi)))
 go_ret
 exact ⟨by first|rfl|(simp [errW_none,errW_some] <;> rfl)|(simp [*,errW_none,errW_some] <;> rfl),by repeat (first|(with_reducible first|exact HB.out|apply below_alloc|apply pw_below_drewN|apply below_drew1)|exact HB.out)⟩
def spec_l07Control.f (k:Nat) (a0:Int):Option (Bool):=(spec_l01Cat.f k a0).bind fun t159=>(if t159=1 then (some true) else (some (a0 == 7954)))
set_option maxHeartbeats 8000000 in
set_option maxRecDepth 100000 in
theorem spec_l07Control.calls (k:Nat) (a0:Int) (r:Bool) (w:World) (h:spec_l07Control.f k a0=some r) :
  Calls Tryd.prog 77 #[.int .i64 a0] w fun e w'=>e = .returned (.bool r)∧Below w.heap.size w w':=by
 have HB:=Aside0.mk (Below.refl w.heap.size w)
 have H:((spec_l01Cat.f k a0).bind fun t159=>(if t159=1 then (some true) else (some (a0 == 7954))))=some r:=h
 clear h
 replace H:=Option.bind_eq_some_iff.mp H
 obtain ⟨t159,A20,H⟩:=H
 replace H:(if t159=1 then (some true) else (some (a0 == 7954)))=some r:=H
 have A2:=Aside0.mk A20
 clear A20
 by_cases c3:t159=1
 ·
  rw [if_pos c3] at H
  have c3b0:(t159 == 1)=true:=beq_iff_eq.mpr c3
  have c3b1:(t159 != 1)=false:=bne_eq_false_iff_eq.mpr c3
  clear c3
  obtain rfl:=Option.some.inj H
  go_enter Tryd.func77,Tryd.ntmps77
  go_wp2_with (first|((with_reducible refine gate_callee (f:=38) rfl ?_);refine goesL_ (some 4) rfl rfl Tryd.func38 (by kernel_rfl) rfl #[.int .i64 a0] rfl (by (try simp only [List.map_toArray,List.map_cons,List.map_nil]);first|done|rfl|(simp only [List.length_drop,List.length_take];rfl)) ?_;(with_reducible refine (spec_l01Cat.calls k a0 t159 _ A2.out).mono ?_);rintro e w4 ⟨rfl,hb⟩;refine ⟨_,rfl,?_⟩;have n0_:=Aside0.mk (below_step (by repeat (first|(with_reducible first|exact HB.out|apply below_alloc|apply pw_below_drewN|apply below_drew1)|exact HB.out)) hb);clear HB;have HB:=n0_;clear n0_;(try clear hb);(try clear hb2);(try clear hk);(try clear hi)))
  go_ret
  exact ⟨by first|rfl|(simp [errW_none,errW_some] <;> rfl)|(simp [*,errW_none,errW_some] <;> rfl),by repeat (first|(with_reducible first|exact HB.out|apply below_alloc|apply pw_below_drewN|apply below_drew1)|exact HB.out)⟩
 ·
  rw [if_neg c3] at H
  have c3b0:(t159 == 1)=false:=beq_eq_false_iff_ne.mpr c3
  have c3b1:(t159 != 1)=true:=bne_iff_ne.mpr c3
  obtain rfl:=Option.some.inj H
  go_enter Tryd.func77,Tryd.ntmps77
  go_wp2_with (first|((with_reducible refine gate_callee (f:=38) rfl ?_);refine goesL_ (some 4) rfl rfl Tryd.func38 (by kernel_rfl) rfl #[.int .i64 a0] rfl (by (try simp only [List.map_toArray,List.map_cons,List.map_nil]);first|done|rfl|(simp only [List.length_drop,List.length_take];rfl)) ?_;(with_reducible refine (spec_l01Cat.calls k a0 t159 _ A2.out).mono ?_);rintro e w5 ⟨rfl,hb⟩;refine ⟨_,rfl,?_⟩;have n0_:=Aside0.mk (below_step (by repeat (first|(with_reducible first|exact HB.out|apply below_alloc|apply pw_below_drewN|apply below_drew1)|exact HB.out)) hb);clear HB;have HB:=n0_;clear n0_;(try clear hb);(try clear hb2);(try clear hk);(try clear hi)))
  go_ret
  exact ⟨by first|rfl|(simp [errW_none,errW_some] <;> rfl)|(simp [*,errW_none,errW_some] <;> rfl),by repeat (first|(with_reducible first|exact HB.out|apply below_alloc|apply pw_below_drewN|apply below_drew1)|exact HB.out)⟩
mutual
def spec_l07Part.j0:Nat→Int→Bool→Option (Int)
 | 0,_,_=>none
 | k+1,x0,x3=>if x3=true then (some 1) else (if x0≥1824 then (spec_l07Part.j1 k x0 (decide (x0≤1844))) else (spec_l07Part.j1 k x0 false))
def spec_l07Part.j1:Nat→Int→Bool→Option (Int)
 | 0,_,_=>none
 | k+1,x0,x10=>if x10=true then (some 2) else (if x0≥1857 then (spec_l07Part.j2 k x0 (decide (x0≤1883))) else (spec_l07Part.j2 k x0 false))
def spec_l07Part.j2:Nat→Int→Bool→Option (Int)
 | 0,_,_=>none
 | k+1,x0,x17=>if x17=true then (some 3) else (if x0≥12288 then (if x0≤23459 then (spec_l07Part.j3 k x0 ((Int.tmod (wrap64 (x0-12288)) 28) == 0)) else (spec_l07Part.j3 k x0 false)) else (spec_l07Part.j3 k x0 false))
def spec_l07Part.j3:Nat→Int→Bool→Option (Int)
 | 0,_,_=>none
 | k+1,x0,x24=>if x24=true then (some 4) else (if x0≥12288 then (if x0≤23459 then (some 5) else (some 0)) else (some 0))
end
def spec_l07Part.f (k:Nat) (a0:Int):Option (Int):=if a0≥1792 then (spec_l07Part.j0 k a0 (decide (a0≤1810))) else (spec_l07Part.j0 k a0 false)
set_option maxHeartbeats 8000000 in
set_option maxRecDepth 100000 in
theorem spec_l07Part.calls (k:Nat) (a0:Int) (r:Int) (w:World) (h:spec_l07Part.f k a0=some r) :
  Calls Tryd.prog 97 #[.int .i64 a0] w fun e w'=>e = .returned (.int .i64 r)∧Drawn0 w w':=by
 have H:(if a0≥1792 then (spec_l07Part.j0 k a0 (decide (a0≤1810))) else (spec_l07Part.j0 k a0 false))=some r:=h
 clear h
 have HC2:=Aside0.mk H
 clear H
 go_enter Tryd.func97,Tryd.ntmps97
 go_upto_region 1 with (fail)
 go_cut [3] (fun v3 wc=>∃ (kq:Nat) (x3_1:Bool),v3 = .bool x3_1∧Aside0 (spec_l07Part.j0 kq a0 x3_1=some r)∧Aside0 (kq≤k)∧Drawn0 w wc)
 case first =>
  have H:=HC2.out
  clear HC2
  by_cases c3:a0≥1792
  ·
   rw [if_pos c3] at H
   have c3b0:decide (1792≤a0)=true:=decide_eq_true c3
   clear c3
   (first|rw [c3b0]|(simp only [i64_w,i32_w];rw [c3b0])|skip)
   have H':=Aside0.mk H
   clear H
   go_wp2
   go_meet
   case rel=>exact ⟨_,(decide (a0≤1810)),(by first|rfl|(simp;done)|(simp [*];done)),H',⟨by first|omega|exact Nat.le_refl _⟩,by repeat (first|exact Drawn0.refl _|apply Drawn0.step)⟩
  ·
   rw [if_neg c3] at H
   have c3b0:decide (1792≤a0)=false:=decide_eq_false c3
   clear c3
   (first|rw [c3b0]|(simp only [i64_w,i32_w];rw [c3b0])|skip)
   have H':=Aside0.mk H
   clear H
   go_wp2
   go_meet
   case rel=>exact ⟨_,(false),(by first|rfl|(simp;done)|(simp [*];done)),H',⟨by first|omega|exact Nat.le_refl _⟩,by repeat (first|exact Drawn0.refl _|apply Drawn0.step)⟩
 case rest =>
  clear HC2
  try clear p2
  try clear c3
  try clear c3b0
  obtain ⟨kq,x3_1,rfl,HA,HJ1,⟨mc1,rfl⟩⟩:=hcut
  cases kq with
  | zero=>exact absurd HA.out (by simp [spec_l07Part.j0])
  | succ kj1 =>
   have H:=HA.out
   clear HA
   simp only [spec_l07Part.j0] at H
   by_cases c4:x3_1=true
   ·
    subst c4
    have H1:(some 1)=some r:=by rw [if_pos rfl] at H;exact H
    clear H
    have H:=H1
    clear H1
    obtain rfl:=Option.some.inj H
    go_wp2
    go_ret
    exact ⟨by first|rfl|(simp;done)|(simp [*];done),by repeat (first|exact Drawn0.refl _|apply Drawn0.step)⟩
   ·
    replace c4:=Bool.eq_false_iff.mpr c4
    subst c4
    have H1:(if a0≥1824 then (spec_l07Part.j1 kj1 a0 (decide (a0≤1844))) else (spec_l07Part.j1 kj1 a0 false))=some r:=by rw [if_neg (show ¬ (false=true) by decide)] at H;exact H
    clear H
    have H:=H1
    clear H1
    have HC5:=Aside0.mk H
    clear H
    go_upto_region 3 with (fail)
    go_cut [10] (fun v10 wc=>∃ (kq:Nat) (x10_4:Bool),v10 = .bool x10_4∧Aside0 (spec_l07Part.j1 kq a0 x10_4=some r)∧Aside0 (kq≤kj1)∧Drawn0 w wc)
    case first =>
     have H:=HC5.out
     clear HC5
     by_cases c6:a0≥1824
     ·
      rw [if_pos c6] at H
      have c6b0:decide (1824≤a0)=true:=decide_eq_true c6
      clear c6
      (first|rw [c6b0]|(simp only [i64_w,i32_w];rw [c6b0])|skip)
      have H':=Aside0.mk H
      clear H
      go_wp2
      go_meet
      case rel=>exact ⟨_,(decide (a0≤1844)),(by first|rfl|(simp;done)|(simp [*];done)),H',⟨by have:=HJ1.out;first|omega|exact Nat.le_refl _⟩,by repeat (first|exact Drawn0.refl _|apply Drawn0.step)⟩
     ·
      rw [if_neg c6] at H
      have c6b0:decide (1824≤a0)=false:=decide_eq_false c6
      clear c6
      (first|rw [c6b0]|(simp only [i64_w,i32_w];rw [c6b0])|skip)
      have H':=Aside0.mk H
      clear H
      go_wp2
      go_meet
      case rel=>exact ⟨_,(false),(by first|rfl|(simp;done)|(simp [*];done)),H',⟨by have:=HJ1.out;first|omega|exact Nat.le_refl _⟩,by repeat (first|exact Drawn0.refl _|apply Drawn0.step)⟩
    case rest =>
     clear HC5
     try clear c1
     try clear p2
     try clear c3
     try clear c3b0
     try clear c4
     try clear c6
     try clear c6b0
     try clear p2
     obtain ⟨kq,x10_4,rfl,HA,HJ4,⟨mc4,rfl⟩⟩:=hcut
     cases kq with
     | zero=>exact absurd HA.out (by simp [spec_l07Part.j1])
     | succ kj4 =>
      have H:=HA.out
      clear HA
      simp only [spec_l07Part.j1] at H
      by_cases c7:x10_4=true
      ·
       subst c7
       have H1:(some 2)=some r:=by rw [if_pos rfl] at H;exact H
       clear H
       have H:=H1
       clear H1
       obtain rfl:=Option.some.inj H
       go_wp2
       go_ret
       exact ⟨by first|rfl|(simp;done)|(simp [*];done),by repeat (first|exact Drawn0.refl _|apply Drawn0.step)⟩
      ·
       replace c7:=Bool.eq_false_iff.mpr c7
       subst c7
       have H1:(if a0≥1857 then (spec_l07Part.j2 kj4 a0 (decide (a0≤1883))) else (spec_l07Part.j2 kj4 a0 false))=some r:=by rw [if_neg (show ¬ (false=true) by decide)] at H;exact H
       clear H
       have H:=H1
       clear H1
       have HC8:=Aside0.mk H
       clear H
       go_upto_region 5 with (fail)
       go_cut [17] (fun v17 wc=>∃ (kq:Nat) (x17_7:Bool),v17 = .bool x17_7∧Aside0 (spec_l07Part.j2 kq a0 x17_7=some r)∧Aside0 (kq≤kj4)∧Drawn0 w wc)
       case first =>
        have H:=HC8.out
        clear HC8
        by_cases c9:a0≥1857
        ·
         rw [if_pos c9] at H
         have c9b0:decide (1857≤a0)=true:=decide_eq_true c9
         clear c9
         (first|rw [c9b0]|(simp only [i64_w,i32_w];rw [c9b0])|skip)
         have H':=Aside0.mk H
         clear H
         go_wp2
         go_meet
         case rel=>exact ⟨_,(decide (a0≤1883)),(by first|rfl|(simp;done)|(simp [*];done)),H',⟨by have:=HJ1.out;have:=HJ4.out;first|omega|exact Nat.le_refl _⟩,by repeat (first|exact Drawn0.refl _|apply Drawn0.step)⟩
        ·
         rw [if_neg c9] at H
         have c9b0:decide (1857≤a0)=false:=decide_eq_false c9
         clear c9
         (first|rw [c9b0]|(simp only [i64_w,i32_w];rw [c9b0])|skip)
         have H':=Aside0.mk H
         clear H
         go_wp2
         go_meet
         case rel=>exact ⟨_,(false),(by first|rfl|(simp;done)|(simp [*];done)),H',⟨by have:=HJ1.out;have:=HJ4.out;first|omega|exact Nat.le_refl _⟩,by repeat (first|exact Drawn0.refl _|apply Drawn0.step)⟩
       case rest =>
        clear HC8
        try clear c1
        try clear p2
        try clear c3
        try clear c3b0
        try clear c4
        try clear c6
        try clear c6b0
        try clear c7
        try clear c9
        try clear c9b0
        try clear p2
        obtain ⟨kq,x17_7,rfl,HA,HJ7,⟨mc7,rfl⟩⟩:=hcut
        cases kq with
        | zero=>exact absurd HA.out (by simp [spec_l07Part.j2])
        | succ kj7 =>
         have H:=HA.out
         clear HA
         simp only [spec_l07Part.j2] at H
         by_cases c10:x17_7=true
         ·
          subst c10
          have H1:(some 3)=some r:=by rw [if_pos rfl] at H;exact H
          clear H
          have H:=H1
          clear H1
          obtain rfl:=Option.some.inj H
          go_wp2
          go_ret
          exact ⟨by first|rfl|(simp;done)|(simp [*];done),by repeat (first|exact Drawn0.refl _|apply Drawn0.step)⟩
         ·
          replace c10:=Bool.eq_false_iff.mpr c10
          subst c10
          have H1:(if a0≥12288 then (if a0≤23459 then (spec_l07Part.j3 kj7 a0 ((Int.tmod (wrap64 (a0-12288)) 28) == 0)) else (spec_l07Part.j3 kj7 a0 false)) else (spec_l07Part.j3 kj7 a0 false))=some r:=by rw [if_neg (show ¬ (false=true) by decide)] at H;exact H
          clear H
          have H:=H1
          clear H1
          have HC11:=Aside0.mk H
          clear H
          go_upto_region 7 with (fail)
          go_cut [24] (fun v24 wc=>∃ (kq:Nat) (x24_10:Bool),v24 = .bool x24_10∧Aside0 (spec_l07Part.j3 kq a0 x24_10=some r)∧Aside0 (kq≤kj7)∧Drawn0 w wc)
          case first =>
           have H:=HC11.out
           clear HC11
           by_cases c12:a0≥12288
           ·
            rw [if_pos c12] at H
            have c12b0:decide (12288≤a0)=true:=decide_eq_true c12
            clear c12
            (first|rw [c12b0]|(simp only [i64_w,i32_w];rw [c12b0])|skip)
            by_cases c13:a0≤23459
            ·
             rw [if_pos c13] at H
             have c13b0:decide (a0≤23459)=true:=decide_eq_true c13
             clear c13
             have H':=Aside0.mk H
             clear H
             go_wp2
             go_meet
             case rel=>exact ⟨_,(((Int.tmod (wrap64 (a0-12288)) 28) == 0)),(by first|rfl|(simp;done)|(simp [*];done)),H',⟨by have:=HJ1.out;have:=HJ4.out;have:=HJ7.out;first|omega|exact Nat.le_refl _⟩,by repeat (first|exact Drawn0.refl _|apply Drawn0.step)⟩
            ·
             rw [if_neg c13] at H
             have c13b0:decide (a0≤23459)=false:=decide_eq_false c13
             clear c13
             have H':=Aside0.mk H
             clear H
             go_wp2
             go_meet
             case rel=>exact ⟨_,(false),(by first|rfl|(simp;done)|(simp [*];done)),H',⟨by have:=HJ1.out;have:=HJ4.out;have:=HJ7.out;first|omega|exact Nat.le_refl _⟩,by repeat (first|exact Drawn0.refl _|apply Drawn0.step)⟩
           ·
            rw [if_neg c12] at H
            have c12b0:decide (12288≤a0)=false:=decide_eq_false c12
            clear c12
            (first|rw [c12b0]|(simp only [i64_w,i32_w];rw [c12b0])|skip)
            have H':=Aside0.mk H
            clear H
            go_wp2
            go_meet
            case rel=>exact ⟨_,(false),(by first|rfl|(simp;done)|(simp [*];done)),H',⟨by have:=HJ1.out;have:=HJ4.out;have:=HJ7.out;first|omega|exact Nat.le_refl _⟩,by repeat (first|exact Drawn0.refl _|apply Drawn0.step)⟩
          case rest =>
           clear HC11
           try clear c1
           try clear p2
           try clear c3
           try clear c3b0
           try clear c4
           try clear c6
           try clear c6b0
           try clear p6
           try clear c7
           try clear c9
           try clear c9b0
           try clear c10
           try clear c12
           try clear c12b0
           try clear c13
           try clear c13b0
           try clear p2
           obtain ⟨kq,x24_10,rfl,HA,HJ10,⟨mc10,rfl⟩⟩:=hcut
           cases kq with
           | zero=>exact absurd HA.out (by simp [spec_l07Part.j3])
           | succ kj10 =>
            have H:=HA.out
            clear HA
            simp only [spec_l07Part.j3] at H
            by_cases c14:x24_10=true
            ·
             subst c14
             have H1:(some 4)=some r:=by rw [if_pos rfl] at H;exact H
             clear H
             have H:=H1
             clear H1
             obtain rfl:=Option.some.inj H
             go_wp2
             go_ret
             exact ⟨by first|rfl|(simp;done)|(simp [*];done),by repeat (first|exact Drawn0.refl _|apply Drawn0.step)⟩
            ·
             replace c14:=Bool.eq_false_iff.mpr c14
             subst c14
             have H1:(if a0≥12288 then (if a0≤23459 then (some 5) else (some 0)) else (some 0))=some r:=by rw [if_neg (show ¬ (false=true) by decide)] at H;exact H
             clear H
             have H:=H1
             clear H1
             by_cases c15:a0≥12288
             ·
              rw [if_pos c15] at H
              have c15b0:decide (12288≤a0)=true:=decide_eq_true c15
              clear c15
              by_cases c16:a0≤23459
              ·
               rw [if_pos c16] at H
               have c16b0:decide (a0≤23459)=true:=decide_eq_true c16
               clear c16
               obtain rfl:=Option.some.inj H
               go_wp2
               go_ret
               exact ⟨by first|rfl|(simp;done)|(simp [*];done),by repeat (first|exact Drawn0.refl _|apply Drawn0.step)⟩
              ·
               rw [if_neg c16] at H
               have c16b0:decide (a0≤23459)=false:=decide_eq_false c16
               clear c16
               obtain rfl:=Option.some.inj H
               go_wp2
               go_ret
               exact ⟨by first|rfl|(simp;done)|(simp [*];done),by repeat (first|exact Drawn0.refl _|apply Drawn0.step)⟩
             ·
              rw [if_neg c15] at H
              have c15b0:decide (12288≤a0)=false:=decide_eq_false c15
              clear c15
              obtain rfl:=Option.some.inj H
              go_wp2
              go_ret
              exact ⟨by first|rfl|(simp;done)|(simp [*];done),by repeat (first|exact Drawn0.refl _|apply Drawn0.step)⟩
def spec_l07Syllable.j0:Nat→Int→Int→Bool→Option (Bool)
 | 0,_,_,_=>none
 | k+1,x6,x11,x28=>if x28=true then (if x6=2 then (some true) else (some (x6 == 3))) else (if x11=3 then (some (x6 == 3)) else (if x11=5 then (some (x6 == 3)) else (some false)))
def spec_l07Syllable.f (k:Nat) (a0:Int) (a1:Int):Option (Bool):=(spec_l07Part.f k a0).bind fun t160=>((spec_l07Part.f k a1).bind fun t161=>(if t160=1 then (if t161=1 then (some true) else (if t161=2 then (some true) else (if t161=4 then (some true) else (some (t161 == 5))))) else (if t160=2 then (spec_l07Syllable.j0 k t161 t160 (t160 == 2)) else (spec_l07Syllable.j0 k t161 t160 (t160 == 4)))))
set_option maxHeartbeats 8000000 in
set_option maxRecDepth 100000 in
theorem spec_l07Syllable.calls (k:Nat) (a0:Int) (a1:Int) (r:Bool) (w:World) (h:spec_l07Syllable.f k a0 a1=some r) :
  Calls Tryd.prog 78 #[.int .i64 a0,.int .i64 a1] w fun e w'=>e = .returned (.bool r)∧Drawn0 w w':=by
 have H:((spec_l07Part.f k a0).bind fun t160=>((spec_l07Part.f k a1).bind fun t161=>(if t160=1 then (if t161=1 then (some true) else (if t161=2 then (some true) else (if t161=4 then (some true) else (some (t161 == 5))))) else (if t160=2 then (spec_l07Syllable.j0 k t161 t160 (t160 == 2)) else (spec_l07Syllable.j0 k t161 t160 (t160 == 4))))))=some r:=h
 clear h
 replace H:=Option.bind_eq_some_iff.mp H
 obtain ⟨t160,A30,H⟩:=H
 replace H:((spec_l07Part.f k a1).bind fun t161=>(if t160=1 then (if t161=1 then (some true) else (if t161=2 then (some true) else (if t161=4 then (some true) else (some (t161 == 5))))) else (if t160=2 then (spec_l07Syllable.j0 k t161 t160 (t160 == 2)) else (spec_l07Syllable.j0 k t161 t160 (t160 == 4)))))=some r:=H
 have A3:=Aside0.mk A30
 clear A30
 replace H:=Option.bind_eq_some_iff.mp H
 obtain ⟨t161,A40,H⟩:=H
 replace H:(if t160=1 then (if t161=1 then (some true) else (if t161=2 then (some true) else (if t161=4 then (some true) else (some (t161 == 5))))) else (if t160=2 then (spec_l07Syllable.j0 k t161 t160 (t160 == 2)) else (spec_l07Syllable.j0 k t161 t160 (t160 == 4))))=some r:=H
 have A4:=Aside0.mk A40
 clear A40
 by_cases c5:t160=1
 ·
  rw [if_pos c5] at H
  have c5b0:(t160 == 1)=true:=beq_iff_eq.mpr c5
  have c5b1:(t160 != 1)=false:=bne_eq_false_iff_eq.mpr c5
  clear c5
  by_cases c6:t161=1
  ·
   rw [if_pos c6] at H
   have c6b0:(t161 == 1)=true:=beq_iff_eq.mpr c6
   have c6b1:(t161 != 1)=false:=bne_eq_false_iff_eq.mpr c6
   clear c6
   obtain rfl:=Option.some.inj H
   go_enter Tryd.func78,Tryd.ntmps78
   go_wp2_with (first|((with_reducible refine gate_callee (f:=97) rfl ?_);refine goesL_ (some 8) rfl rfl Tryd.func97 (by kernel_rfl) rfl #[.int .i64 a0] rfl (by (try simp only [List.map_toArray,List.map_cons,List.map_nil]);first|done|rfl|(simp only [List.length_drop,List.length_take];rfl)) ?_;(with_reducible refine (spec_l07Part.calls k a0 t160 _ A3.out).mono ?_);rintro e w' ⟨rfl,⟨nd,rfl⟩⟩;refine ⟨_,rfl,?_⟩)|((with_reducible refine gate_callee (f:=97) rfl ?_);refine goesL_ (some 10) rfl rfl Tryd.func97 (by kernel_rfl) rfl #[.int .i64 a1] rfl (by (try simp only [List.map_toArray,List.map_cons,List.map_nil]);first|done|rfl|(simp only [List.length_drop,List.length_take];rfl)) ?_;(with_reducible refine (spec_l07Part.calls k a1 t161 _ A4.out).mono ?_);rintro e w' ⟨rfl,⟨nd,rfl⟩⟩;refine ⟨_,rfl,?_⟩))
   go_ret
   exact ⟨by first|rfl|(simp;done)|(simp [*];done),by repeat (first|exact Drawn0.refl _|apply Drawn0.step)⟩
  ·
   rw [if_neg c6] at H
   have c6b0:(t161 == 1)=false:=beq_eq_false_iff_ne.mpr c6
   have c6b1:(t161 != 1)=true:=bne_iff_ne.mpr c6
   by_cases c7:t161=2
   ·
    rw [if_pos c7] at H
    have c7b0:(t161 == 2)=true:=beq_iff_eq.mpr c7
    have c7b1:(t161 != 2)=false:=bne_eq_false_iff_eq.mpr c7
    clear c7
    obtain rfl:=Option.some.inj H
    go_enter Tryd.func78,Tryd.ntmps78
    go_wp2_with (first|((with_reducible refine gate_callee (f:=97) rfl ?_);refine goesL_ (some 8) rfl rfl Tryd.func97 (by kernel_rfl) rfl #[.int .i64 a0] rfl (by (try simp only [List.map_toArray,List.map_cons,List.map_nil]);first|done|rfl|(simp only [List.length_drop,List.length_take];rfl)) ?_;(with_reducible refine (spec_l07Part.calls k a0 t160 _ A3.out).mono ?_);rintro e w' ⟨rfl,⟨nd,rfl⟩⟩;refine ⟨_,rfl,?_⟩)|((with_reducible refine gate_callee (f:=97) rfl ?_);refine goesL_ (some 10) rfl rfl Tryd.func97 (by kernel_rfl) rfl #[.int .i64 a1] rfl (by (try simp only [List.map_toArray,List.map_cons,List.map_nil]);first|done|rfl|(simp only [List.length_drop,List.length_take];rfl)) ?_;(with_reducible refine (spec_l07Part.calls k a1 t161 _ A4.out).mono ?_);rintro e w' ⟨rfl,⟨nd,rfl⟩⟩;refine ⟨_,rfl,?_⟩))
    go_ret
    exact ⟨by first|rfl|(simp;done)|(simp [*];done),by repeat (first|exact Drawn0.refl _|apply Drawn0.step)⟩
   ·
    rw [if_neg c7] at H
    have c7b0:(t161 == 2)=false:=beq_eq_false_iff_ne.mpr c7
    have c7b1:(t161 != 2)=true:=bne_iff_ne.mpr c7
    by_cases c8:t161=4
    ·
     rw [if_pos c8] at H
     have c8b0:(t161 == 4)=true:=beq_iff_eq.mpr c8
     have c8b1:(t161 != 4)=false:=bne_eq_false_iff_eq.mpr c8
     clear c8
     obtain rfl:=Option.some.inj H
     go_enter Tryd.func78,Tryd.ntmps78
     go_wp2_with (first|((with_reducible refine gate_callee (f:=97) rfl ?_);refine goesL_ (some 8) rfl rfl Tryd.func97 (by kernel_rfl) rfl #[.int .i64 a0] rfl (by (try simp only [List.map_toArray,List.map_cons,List.map_nil]);first|done|rfl|(simp only [List.length_drop,List.length_take];rfl)) ?_;(with_reducible refine (spec_l07Part.calls k a0 t160 _ A3.out).mono ?_);rintro e w' ⟨rfl,⟨nd,rfl⟩⟩;refine ⟨_,rfl,?_⟩)|((with_reducible refine gate_callee (f:=97) rfl ?_);refine goesL_ (some 10) rfl rfl Tryd.func97 (by kernel_rfl) rfl #[.int .i64 a1] rfl (by (try simp only [List.map_toArray,List.map_cons,List.map_nil]);first|done|rfl|(simp only [List.length_drop,List.length_take];rfl)) ?_;(with_reducible refine (spec_l07Part.calls k a1 t161 _ A4.out).mono ?_);rintro e w' ⟨rfl,⟨nd,rfl⟩⟩;refine ⟨_,rfl,?_⟩))
     go_ret
     exact ⟨by first|rfl|(simp;done)|(simp [*];done),by repeat (first|exact Drawn0.refl _|apply Drawn0.step)⟩
    ·
     rw [if_neg c8] at H
     have c8b0:(t161 == 4)=false:=beq_eq_false_iff_ne.mpr c8
     have c8b1:(t161 != 4)=true:=bne_iff_ne.mpr c8
     obtain rfl:=Option.some.inj H
     go_enter Tryd.func78,Tryd.ntmps78
     go_wp2_with (first|((with_reducible refine gate_callee (f:=97) rfl ?_);refine goesL_ (some 8) rfl rfl Tryd.func97 (by kernel_rfl) rfl #[.int .i64 a0] rfl (by (try simp only [List.map_toArray,List.map_cons,List.map_nil]);first|done|rfl|(simp only [List.length_drop,List.length_take];rfl)) ?_;(with_reducible refine (spec_l07Part.calls k a0 t160 _ A3.out).mono ?_);rintro e w' ⟨rfl,⟨nd,rfl⟩⟩;refine ⟨_,rfl,?_⟩)|((with_reducible refine gate_callee (f:=97) rfl ?_);refine goesL_ (some 10) rfl rfl Tryd.func97 (by kernel_rfl) rfl #[.int .i64 a1] rfl (by (try simp only [List.map_toArray,List.map_cons,List.map_nil]);first|done|rfl|(simp only [List.length_drop,List.length_take];rfl)) ?_;(with_reducible refine (spec_l07Part.calls k a1 t161 _ A4.out).mono ?_);rintro e w' ⟨rfl,⟨nd,rfl⟩⟩;refine ⟨_,rfl,?_⟩))
     go_ret
     exact ⟨by first|rfl|(simp;done)|(simp [*];done),by repeat (first|exact Drawn0.refl _|apply Drawn0.step)⟩
 ·
  rw [if_neg c5] at H
  have c5b0:(t160 == 1)=false:=beq_eq_false_iff_ne.mpr c5
  have c5b1:(t160 != 1)=true:=bne_iff_ne.mpr c5
  have HC9:=Aside0.mk H
  clear H
  go_enter Tryd.func78,Tryd.ntmps78
  go_upto_if 28 with (first|((with_reducible refine gate_callee (f:=97) rfl ?_);refine goesL_ (some 8) rfl rfl Tryd.func97 (by kernel_rfl) rfl #[.int .i64 a0] rfl (by (try simp only [List.map_toArray,List.map_cons,List.map_nil]);first|done|rfl|(simp only [List.length_drop,List.length_take];rfl)) ?_;(with_reducible refine (spec_l07Part.calls k a0 t160 _ A3.out).mono ?_);rintro e w' ⟨rfl,⟨nd,rfl⟩⟩;refine ⟨_,rfl,?_⟩)|((with_reducible refine gate_callee (f:=97) rfl ?_);refine goesL_ (some 10) rfl rfl Tryd.func97 (by kernel_rfl) rfl #[.int .i64 a1] rfl (by (try simp only [List.map_toArray,List.map_cons,List.map_nil]);first|done|rfl|(simp only [List.length_drop,List.length_take];rfl)) ?_;(with_reducible refine (spec_l07Part.calls k a1 t161 _ A4.out).mono ?_);rintro e w' ⟨rfl,⟨nd,rfl⟩⟩;refine ⟨_,rfl,?_⟩))
  (try simp only [Act.put,List.setIfInBounds_toArray,List.set_cons_zero,List.set_cons_succ])
  go_cut [28] (fun v28 wc=>∃ (kq:Nat) (x28_8:Bool),v28 = .bool x28_8∧Aside0 (spec_l07Syllable.j0 kq t161 t160 x28_8=some r)∧Aside0 (kq≤k)∧Drawn0 w wc)
  case first =>
   have H:=HC9.out
   clear HC9
   by_cases c10:t160=2
   ·
    rw [if_pos c10] at H
    have c10b0:(t160 == 2)=true:=beq_iff_eq.mpr c10
    have c10b1:(t160 != 2)=false:=bne_eq_false_iff_eq.mpr c10
    clear c10
    (first|rw [c10b0]|(simp only [i64_w,i32_w];rw [c10b0])|skip)
    have H':=Aside0.mk H
    clear H
    go_wp2
    go_meet
    case rel=>exact ⟨_,((t160 == 2)),(by first|rfl|(simp;done)|(simp [*];done)),H',⟨by first|omega|exact Nat.le_refl _⟩,by repeat (first|exact Drawn0.refl _|apply Drawn0.step)⟩
   ·
    rw [if_neg c10] at H
    have c10b0:(t160 == 2)=false:=beq_eq_false_iff_ne.mpr c10
    have c10b1:(t160 != 2)=true:=bne_iff_ne.mpr c10
    (first|rw [c10b0]|(simp only [i64_w,i32_w];rw [c10b0])|skip)
    have H':=Aside0.mk H
    clear H
    go_wp2
    go_meet
    case rel=>exact ⟨_,((t160 == 4)),(by first|rfl|(simp;done)|(simp [*];done)),H',⟨by first|omega|exact Nat.le_refl _⟩,by repeat (first|exact Drawn0.refl _|apply Drawn0.step)⟩
  case rest =>
   clear HC9
   try clear c1
   try clear p2
   try clear c5
   try clear c5b0
   try clear c5b1
   try clear c6
   try clear c6b0
   try clear c6b1
   try clear c7
   try clear c7b0
   try clear c7b1
   try clear c8
   try clear c8b0
   try clear c8b1
   try clear c9
   try clear c10
   try clear c10b0
   try clear c10b1
   obtain ⟨kq,x28_8,rfl,HA,HJ8,⟨mc8,rfl⟩⟩:=hcut
   cases kq with
   | zero=>exact absurd HA.out (by simp [spec_l07Syllable.j0])
   | succ kj8 =>
    have H:=HA.out
    clear HA
    simp only [spec_l07Syllable.j0] at H
    by_cases c11:x28_8=true
    ·
     subst c11
     have H1:(if t161=2 then (some true) else (some (t161 == 3)))=some r:=by rw [if_pos rfl] at H;exact H
     clear H
     have H:=H1
     clear H1
     by_cases c12:t161=2
     ·
      rw [if_pos c12] at H
      have c12b0:(t161 == 2)=true:=beq_iff_eq.mpr c12
      have c12b1:(t161 != 2)=false:=bne_eq_false_iff_eq.mpr c12
      clear c12
      obtain rfl:=Option.some.inj H
      go_wp2
      go_ret
      exact ⟨by first|rfl|(simp;done)|(simp [*];done),by repeat (first|exact Drawn0.refl _|apply Drawn0.step)⟩
     ·
      rw [if_neg c12] at H
      have c12b0:(t161 == 2)=false:=beq_eq_false_iff_ne.mpr c12
      have c12b1:(t161 != 2)=true:=bne_iff_ne.mpr c12
      obtain rfl:=Option.some.inj H
      go_wp2
      go_ret
      exact ⟨by first|rfl|(simp;done)|(simp [*];done),by repeat (first|exact Drawn0.refl _|apply Drawn0.step)⟩
    ·
     replace c11:=Bool.eq_false_iff.mpr c11
     subst c11
     have H1:(if t160=3 then (some (t161 == 3)) else (if t160=5 then (some (t161 == 3)) else (some false)))=some r:=by rw [if_neg (show ¬ (false=true) by decide)] at H;exact H
     clear H
     have H:=H1
     clear H1
     by_cases c13:t160=3
     ·
      rw [if_pos c13] at H
      have c13b0:(t160 == 3)=true:=beq_iff_eq.mpr c13
      have c13b1:(t160 != 3)=false:=bne_eq_false_iff_eq.mpr c13
      clear c13
      obtain rfl:=Option.some.inj H
      go_wp2
      go_ret
      exact ⟨by first|rfl|(simp;done)|(simp [*];done),by repeat (first|exact Drawn0.refl _|apply Drawn0.step)⟩
     ·
      rw [if_neg c13] at H
      have c13b0:(t160 == 3)=false:=beq_eq_false_iff_ne.mpr c13
      have c13b1:(t160 != 3)=true:=bne_iff_ne.mpr c13
      by_cases c14:t160=5
      ·
       rw [if_pos c14] at H
       have c14b0:(t160 == 5)=true:=beq_iff_eq.mpr c14
       have c14b1:(t160 != 5)=false:=bne_eq_false_iff_eq.mpr c14
       clear c14
       obtain rfl:=Option.some.inj H
       go_wp2
       go_ret
       exact ⟨by first|rfl|(simp;done)|(simp [*];done),by repeat (first|exact Drawn0.refl _|apply Drawn0.step)⟩
      ·
       rw [if_neg c14] at H
       have c14b0:(t160 == 5)=false:=beq_eq_false_iff_ne.mpr c14
       have c14b1:(t160 != 5)=true:=bne_iff_ne.mpr c14
       obtain rfl:=Option.some.inj H
       go_wp2
       go_ret
       exact ⟨by first|rfl|(simp;done)|(simp [*];done),by repeat (first|exact Drawn0.refl _|apply Drawn0.step)⟩
def spec_l07Mark.f (k:Nat) (a0:Int):Option (Bool):=(spec_l01Cat.f k a0).bind fun t162=>(if t162=3 then (some true) else (if a0=7936 then (some true) else (if a0≥7744 then (some (decide (a0≤7748))) else (some false))))
set_option maxHeartbeats 8000000 in
set_option maxRecDepth 100000 in
theorem spec_l07Mark.calls (k:Nat) (a0:Int) (r:Bool) (w:World) (h:spec_l07Mark.f k a0=some r) :
  Calls Tryd.prog 79 #[.int .i64 a0] w fun e w'=>e = .returned (.bool r)∧Below w.heap.size w w':=by
 have HB:=Aside0.mk (Below.refl w.heap.size w)
 have H:((spec_l01Cat.f k a0).bind fun t162=>(if t162=3 then (some true) else (if a0=7936 then (some true) else (if a0≥7744 then (some (decide (a0≤7748))) else (some false)))))=some r:=h
 clear h
 replace H:=Option.bind_eq_some_iff.mp H
 obtain ⟨t162,A20,H⟩:=H
 replace H:(if t162=3 then (some true) else (if a0=7936 then (some true) else (if a0≥7744 then (some (decide (a0≤7748))) else (some false))))=some r:=H
 have A2:=Aside0.mk A20
 clear A20
 by_cases c3:t162=3
 ·
  rw [if_pos c3] at H
  have c3b0:(t162 == 3)=true:=beq_iff_eq.mpr c3
  have c3b1:(t162 != 3)=false:=bne_eq_false_iff_eq.mpr c3
  clear c3
  obtain rfl:=Option.some.inj H
  go_enter Tryd.func79,Tryd.ntmps79
  go_wp2_with (first|((with_reducible refine gate_callee (f:=38) rfl ?_);refine goesL_ (some 4) rfl rfl Tryd.func38 (by kernel_rfl) rfl #[.int .i64 a0] rfl (by (try simp only [List.map_toArray,List.map_cons,List.map_nil]);first|done|rfl|(simp only [List.length_drop,List.length_take];rfl)) ?_;(with_reducible refine (spec_l01Cat.calls k a0 t162 _ A2.out).mono ?_);rintro e w4 ⟨rfl,hb⟩;refine ⟨_,rfl,?_⟩;have n0_:=Aside0.mk (below_step (by repeat (first|(with_reducible first|exact HB.out|apply below_alloc|apply pw_below_drewN|apply below_drew1)|exact HB.out)) hb);clear HB;have HB:=n0_;clear n0_;(try clear hb);(try clear hb2);(try clear hk);(try clear hi)))
  go_ret
  exact ⟨by first|rfl|(simp [errW_none,errW_some] <;> rfl)|(simp [*,errW_none,errW_some] <;> rfl),by repeat (first|(with_reducible first|exact HB.out|apply below_alloc|apply pw_below_drewN|apply below_drew1)|exact HB.out)⟩
 ·
  rw [if_neg c3] at H
  have c3b0:(t162 == 3)=false:=beq_eq_false_iff_ne.mpr c3
  have c3b1:(t162 != 3)=true:=bne_iff_ne.mpr c3
  by_cases c5:a0=7936
  ·
   rw [if_pos c5] at H
   have c5b0:(a0 == 7936)=true:=beq_iff_eq.mpr c5
   have c5b1:(a0 != 7936)=false:=bne_eq_false_iff_eq.mpr c5
   clear c5
   obtain rfl:=Option.some.inj H
   go_enter Tryd.func79,Tryd.ntmps79
   go_wp2_with (first|((with_reducible refine gate_callee (f:=38) rfl ?_);refine goesL_ (some 4) rfl rfl Tryd.func38 (by kernel_rfl) rfl #[.int .i64 a0] rfl (by (try simp only [List.map_toArray,List.map_cons,List.map_nil]);first|done|rfl|(simp only [List.length_drop,List.length_take];rfl)) ?_;(with_reducible refine (spec_l01Cat.calls k a0 t162 _ A2.out).mono ?_);rintro e w6 ⟨rfl,hb⟩;refine ⟨_,rfl,?_⟩;have n0_:=Aside0.mk (below_step (by repeat (first|(with_reducible first|exact HB.out|apply below_alloc|apply pw_below_drewN|apply below_drew1)|exact HB.out)) hb);clear HB;have HB:=n0_;clear n0_;(try clear hb);(try clear hb2);(try clear hk);(try clear hi)))
   go_ret
   exact ⟨by first|rfl|(simp [errW_none,errW_some] <;> rfl)|(simp [*,errW_none,errW_some] <;> rfl),by repeat (first|(with_reducible first|exact HB.out|apply below_alloc|apply pw_below_drewN|apply below_drew1)|exact HB.out)⟩
  ·
   rw [if_neg c5] at H
   have c5b0:(a0 == 7936)=false:=beq_eq_false_iff_ne.mpr c5
   have c5b1:(a0 != 7936)=true:=bne_iff_ne.mpr c5
   by_cases c7:a0≥7744
   ·
    rw [if_pos c7] at H
    have c7b0:decide (7744≤a0)=true:=decide_eq_true c7
    clear c7
    obtain rfl:=Option.some.inj H
    go_enter Tryd.func79,Tryd.ntmps79
    go_wp2_with (first|((with_reducible refine gate_callee (f:=38) rfl ?_);refine goesL_ (some 4) rfl rfl Tryd.func38 (by kernel_rfl) rfl #[.int .i64 a0] rfl (by (try simp only [List.map_toArray,List.map_cons,List.map_nil]);first|done|rfl|(simp only [List.length_drop,List.length_take];rfl)) ?_;(with_reducible refine (spec_l01Cat.calls k a0 t162 _ A2.out).mono ?_);rintro e w8 ⟨rfl,hb⟩;refine ⟨_,rfl,?_⟩;have n0_:=Aside0.mk (below_step (by repeat (first|(with_reducible first|exact HB.out|apply below_alloc|apply pw_below_drewN|apply below_drew1)|exact HB.out)) hb);clear HB;have HB:=n0_;clear n0_;(try clear hb);(try clear hb2);(try clear hk);(try clear hi)))
    go_ret
    exact ⟨by first|rfl|(simp [errW_none,errW_some] <;> rfl)|(simp [*,errW_none,errW_some] <;> rfl),by repeat (first|(with_reducible first|exact HB.out|apply below_alloc|apply pw_below_drewN|apply below_drew1)|exact HB.out)⟩
   ·
    rw [if_neg c7] at H
    have c7b0:decide (7744≤a0)=false:=decide_eq_false c7
    clear c7
    obtain rfl:=Option.some.inj H
    go_enter Tryd.func79,Tryd.ntmps79
    go_wp2_with (first|((with_reducible refine gate_callee (f:=38) rfl ?_);refine goesL_ (some 4) rfl rfl Tryd.func38 (by kernel_rfl) rfl #[.int .i64 a0] rfl (by (try simp only [List.map_toArray,List.map_cons,List.map_nil]);first|done|rfl|(simp only [List.length_drop,List.length_take];rfl)) ?_;(with_reducible refine (spec_l01Cat.calls k a0 t162 _ A2.out).mono ?_);rintro e w9 ⟨rfl,hb⟩;refine ⟨_,rfl,?_⟩;have n0_:=Aside0.mk (below_step (by repeat (first|(with_reducible first|exact HB.out|apply below_alloc|apply pw_below_drewN|apply below_drew1)|exact HB.out)) hb);clear HB;have HB:=n0_;clear n0_;(try clear hb);(try clear hb2);(try clear hk);(try clear hi)))
    go_ret
    exact ⟨by first|rfl|(simp [errW_none,errW_some] <;> rfl)|(simp [*,errW_none,errW_some] <;> rfl),by repeat (first|(with_reducible first|exact HB.out|apply below_alloc|apply pw_below_drewN|apply below_drew1)|exact HB.out)⟩
def spec_l07Bound.l0:Nat→List Int→Int→Option (Bool)
 | 0,_,_=>none
 | k+1,x0,x1=>if x1>0 then (if 0≤x1 then (if x1<(x0.length:Int) then (if (rd x0 x1)=1585 then (spec_l07Bound.l0 k x0 (wrap64 (x1-1))) else (some ((rd x0 x1) == 1584))) else (none)) else (none)) else (if 0≤x1 then (if x1<(x0.length:Int) then (some ((rd x0 x1) == 1584)) else (none)) else (none))
def spec_l07Bound.f (k:Nat) (l0:List Int) (a1:Int):Option (Bool):=spec_l07Bound.l0 k l0 a1
set_option maxHeartbeats 8000000 in
set_option maxRecDepth 100000 in
theorem spec_l07Bound.calls (k:Nat) (A0:Option Addr) (c0:Nat) (l0:List Int) (a1:Int) (r:Bool) (w:World) (hr0:Kd.C (Kd.int .i64) w A0 l0.length l0) (hc0:l0.length≤c0) (h:spec_l07Bound.f k l0 a1=some r) :
  Calls Tryd.prog 80 #[.slice A0 l0.length c0,.int .i64 a1] w fun e w'=>e = .returned (.bool r)∧Drawn0 w w':=by
 have HR0:=Aside0.mk hr0
 have HC0:=Aside0.mk hc0
 clear hr0 hc0
 have H:(spec_l07Bound.l0 k l0 a1)=some r:=h
 clear h
 have H':=Aside0.mk H
 clear H
 go_enter Tryd.func80,Tryd.ntmps80
 go_wp2
 go_loopg [1] k (fun kq v1 w'=>∃ (x1_1:Int),v1 = .int .i64 x1_1∧Aside0 (spec_l07Bound.l0 kq l0 x1_1=some r)∧Aside0 (kq≤k)∧Drawn0 w w')
 case atStart=>exact ⟨(a1),(by first|rfl|(simp;done)|(simp [*];done)),H',⟨Nat.le_refl _⟩,by repeat (first|exact Drawn0.refl _|apply Drawn0.step)⟩
 case round =>
  clear H'
  try clear p2
  obtain ⟨x1_1,rfl,HA,HK1,⟨m1,rfl⟩⟩:=hrel
  cases gk with
  | zero=>exact absurd HA.out (by simp [spec_l07Bound.l0])
  | succ k1 =>
   have H:=HA.out
   clear HA
   simp only [spec_l07Bound.l0] at H
   by_cases c3:x1_1>0
   ·
    rw [if_pos c3] at H
    have c3b0:decide (0<x1_1)=true:=decide_eq_true c3
    clear c3
    by_cases c4:0≤x1_1
    ·
     rw [if_pos c4] at H
     have c4b0:decide (0≤x1_1)=true:=decide_eq_true c4
     clear c4
     by_cases c5:x1_1<(l0.length:Int)
     ·
      rw [if_pos c5] at H
      have c5b0:decide (x1_1<(l0.length:Int))=true:=decide_eq_true c5
      clear c5
      by_cases c6:(rd l0 x1_1)=1585
      ·
       rw [if_pos c6] at H
       have c6b0:((rd l0 x1_1) == 1585)=true:=beq_iff_eq.mpr c6
       have c6b1:((rd l0 x1_1) != 1585)=false:=bne_eq_false_iff_eq.mpr c6
       clear c6
       have H':=Aside0.mk H
       clear H
       have p163:0≤(x1_1:Int):=of_decide_eq_true (by first|(with_reducible assumption)|assumption)
       have q163:x1_1<(l0.length:Int):=of_decide_eq_true (by first|(with_reducible assumption)|assumption)
       obtain ⟨ad163,e163,hx163_0⟩:=Kd.at_int HR0.out x1_1 p163 q163
       cases e163
       replace p163:=eq_true p163
       replace q163:=eq_true q163
       go_wp2
       go_roundg k1
       case measure=>have:=HK1.out;omega
       case rel=>exact ⟨(wrap64 (x1_1-1)),(by first|rfl|(simp;done)|(simp [*];done)),H',⟨by have:=HK1.out;omega⟩,by repeat (first|exact Drawn0.refl _|apply Drawn0.step)⟩
      ·
       rw [if_neg c6] at H
       have c6b0:((rd l0 x1_1) == 1585)=false:=beq_eq_false_iff_ne.mpr c6
       have c6b1:((rd l0 x1_1) != 1585)=true:=bne_iff_ne.mpr c6
       obtain rfl:=Option.some.inj H
       have p163:0≤(x1_1:Int):=of_decide_eq_true (by first|(with_reducible assumption)|assumption)
       have q163:x1_1<(l0.length:Int):=of_decide_eq_true (by first|(with_reducible assumption)|assumption)
       obtain ⟨ad163,e163,hx163_0⟩:=Kd.at_int HR0.out x1_1 p163 q163
       cases e163
       replace p163:=eq_true p163
       replace q163:=eq_true q163
       have p164:0≤(x1_1:Int):=of_decide_eq_true (by first|(with_reducible assumption)|assumption)
       have q164:x1_1<(l0.length:Int):=of_decide_eq_true (by first|(with_reducible assumption)|assumption)
       obtain ⟨ad164,e164,hx164_0⟩:=Kd.at_int HR0.out x1_1 p164 q164
       obtain rfl:ad163=ad164:=(by injection e164)
       replace p164:=eq_true p164
       replace q164:=eq_true q164
       go_wp2
       go_ret
       exact ⟨by first|rfl|(simp;done)|(simp [*];done),by repeat (first|exact Drawn0.refl _|apply Drawn0.step)⟩
     ·
      rw [if_neg c5] at H
      exact absurd H (by simp)
    ·
     rw [if_neg c4] at H
     exact absurd H (by simp)
   ·
    rw [if_neg c3] at H
    have c3b0:decide (0<x1_1)=false:=decide_eq_false c3
    clear c3
    by_cases c7:0≤x1_1
    ·
     rw [if_pos c7] at H
     have c7b0:decide (0≤x1_1)=true:=decide_eq_true c7
     clear c7
     by_cases c8:x1_1<(l0.length:Int)
     ·
      rw [if_pos c8] at H
      have c8b0:decide (x1_1<(l0.length:Int))=true:=decide_eq_true c8
      clear c8
      obtain rfl:=Option.some.inj H
      have p165:0≤(x1_1:Int):=of_decide_eq_true (by first|(with_reducible assumption)|assumption)
      have q165:x1_1<(l0.length:Int):=of_decide_eq_true (by first|(with_reducible assumption)|assumption)
      obtain ⟨ad165,e165,hx165_0⟩:=Kd.at_int HR0.out x1_1 p165 q165
      cases e165
      replace p165:=eq_true p165
      replace q165:=eq_true q165
      go_wp2
      go_ret
      exact ⟨by first|rfl|(simp;done)|(simp [*];done),by repeat (first|exact Drawn0.refl _|apply Drawn0.step)⟩
     ·
      rw [if_neg c8] at H
      exact absurd H (by simp)
    ·
     rw [if_neg c7] at H
     exact absurd H (by simp)
def spec_l07Flag.f (a0:Int):Option (Bool):=if a0≥7760 then (some (decide (a0≤7785))) else (some false)
set_option maxHeartbeats 8000000 in
set_option maxRecDepth 100000 in
theorem spec_l07Flag.calls (a0:Int) (r:Bool) (w:World) (h:spec_l07Flag.f a0=some r) :
  Calls Tryd.prog 81 #[.int .i64 a0] w fun e w'=>e = .returned (.bool r)∧Drawn0 w w':=by
 have H:(if a0≥7760 then (some (decide (a0≤7785))) else (some false))=some r:=h
 clear h
 by_cases c2:a0≥7760
 ·
  rw [if_pos c2] at H
  have c2b0:decide (7760≤a0)=true:=decide_eq_true c2
  clear c2
  obtain rfl:=Option.some.inj H
  go_enter Tryd.func81,Tryd.ntmps81
  go_wp2
  go_ret
  exact ⟨by first|rfl|(simp;done)|(simp [*];done),by repeat (first|exact Drawn0.refl _|apply Drawn0.step)⟩
 ·
  rw [if_neg c2] at H
  have c2b0:decide (7760≤a0)=false:=decide_eq_false c2
  clear c2
  obtain rfl:=Option.some.inj H
  go_enter Tryd.func81,Tryd.ntmps81
  go_wp2
  go_ret
  exact ⟨by first|rfl|(simp;done)|(simp [*];done),by repeat (first|exact Drawn0.refl _|apply Drawn0.step)⟩
end Go.Proofs.YtjppikolddklfaaDoor.PW
end
