/- Part 2: words, walks of functions, and plain laws of what these compute. (printed by this session's own programs; Lean checks it.) -/
import Derived.Test.YtjppikolddklfaaDoorQW0
import Derived.Test.YtjppikolddklfaaDoorQW1
section
namespace Go.Proofs.YtjppikolddklfaaDoor.PW
open Go.RowKit Go.Proofs.YtjppikolddklfaaDoorW.PrintWords Go.Proofs.YtjppikolddklfaaDoorW.PrintLast Go.Proofs.YtjppikolddklfaaDoorW.PrintMore
attribute [local go_sem] max2_int min2_int max_two min_two max_three min_three max_four min_four   
set_option linter.unusedVariables false
set_option linter.unusedSimpArgs false
def spec_l07Flags.l0:Nat→List Int→Int→Int→Option (Int)
 | 0,_,_,_=>none
 | k+1,x0,x1,x5=>if (wrap64 (x1-x5))≥0 then (if 0≤(wrap64 (x1-x5)) then (if (wrap64 (x1-x5))<(x0.length:Int) then ((spec_l07Flag.f (rd x0 (wrap64 (x1-x5)))).bind fun t167=>(if t167=true then (spec_l07Flags.l0 k x0 x1 (wrap64 (x5+1))) else (some x5))) else (none)) else (none)) else (some x5)
def spec_l07Flags.f (k:Nat) (l0:List Int) (a1:Int):Option (Int):=spec_l07Flags.l0 k l0 a1 0
set_option maxHeartbeats 8000000 in
set_option maxRecDepth 100000 in
theorem spec_l07Flags.calls (k:Nat) (A0:Option Addr) (c0:Nat) (l0:List Int) (a1:Int) (r:Int) (w:World) (hr0:Kd.C (Kd.int .i64) w A0 l0.length l0) (hc0:l0.length≤c0) (h:spec_l07Flags.f k l0 a1=some r) :
  Calls Tryd.prog 82 #[.slice A0 l0.length c0,.int .i64 a1] w fun e w'=>e = .returned (.int .i64 r)∧Drawn0 w w':=by
 have HR0:=Aside0.mk hr0
 have HC0:=Aside0.mk hc0
 clear hr0 hc0
 have H:(spec_l07Flags.l0 k l0 a1 0)=some r:=h
 clear h
 have H':=Aside0.mk H
 clear H
 go_enter Tryd.func82,Tryd.ntmps82
 go_wp2
 go_loopg [5] k (fun kq v5 w'=>∃ (x5_1:Int),v5 = .int .i64 x5_1∧Aside0 (spec_l07Flags.l0 kq l0 a1 x5_1=some r)∧Aside0 (kq≤k)∧Drawn0 w w')
 case atStart=>exact ⟨(0),(by first|rfl|(simp;done)|(simp [*];done)),H',⟨Nat.le_refl _⟩,by repeat (first|exact Drawn0.refl _|apply Drawn0.step)⟩
 case round =>
  clear H'
  try clear p2
  obtain ⟨x5_1,rfl,HA,HK1,⟨m1,rfl⟩⟩:=hrel
  cases gk with
  | zero=>exact absurd HA.out (by simp [spec_l07Flags.l0])
  | succ k1 =>
   have H:=HA.out
   clear HA
   simp only [spec_l07Flags.l0] at H
   by_cases c3:(wrap64 (a1-x5_1))≥0
   ·
    rw [if_pos c3] at H
    have c3b0:decide (0≤(wrap64 (a1-x5_1)))=true:=decide_eq_true c3
    clear c3
    obtain ⟨ji4,hji4⟩:∃ j_:Int,(wrap64 (a1-x5_1))=j_:=⟨_,rfl⟩
    replace H:(if 0≤(ji4) then (if (ji4)<(l0.length:Int) then ((spec_l07Flag.f (rd l0 (ji4))).bind fun t167=>(if t167=true then (spec_l07Flags.l0 k1 l0 a1 (wrap64 (x5_1+1))) else (some x5_1))) else (none)) else (none))=some r:=by first|(rw [hji4] at H;exact H)|(simp only [hji4] at H ⊢;exact H)
    (try rw [hji4] at c3b0)
    have hji4w:(IntKind.i64.wrap (a1-x5_1))=ji4:=(i64_w _).trans hji4
    by_cases c5:0≤(ji4)
    ·
     rw [if_pos c5] at H
     have c5b0:decide (0≤(ji4))=true:=decide_eq_true c5
     clear c5
     by_cases c6:(ji4)<(l0.length:Int)
     ·
      rw [if_pos c6] at H
      have c6b0:decide ((ji4)<(l0.length:Int))=true:=decide_eq_true c6
      clear c6
      replace H:=Option.bind_eq_some_iff.mp H
      obtain ⟨t167,A70,H⟩:=H
      replace H:(if t167=true then (spec_l07Flags.l0 k1 l0 a1 (wrap64 (x5_1+1))) else (some x5_1))=some r:=H
      have A7:=Aside0.mk A70
      clear A70
      by_cases c8:t167=true
      ·
       subst c8
       have H1:(spec_l07Flags.l0 k1 l0 a1 (wrap64 (x5_1+1)))=some r:=by rw [if_pos rfl] at H;exact H
       clear H
       have H:=H1
       clear H1
       have H':=Aside0.mk H
       clear H
       have p166:0≤((ji4):Int):=of_decide_eq_true (by first|(with_reducible assumption)|assumption)
       have q166:(ji4)<(l0.length:Int):=of_decide_eq_true (by first|(with_reducible assumption)|assumption)
       obtain ⟨ad166,e166,hx166_0⟩:=Kd.at_int HR0.out (ji4) p166 q166
       cases e166
       replace p166:=eq_true p166
       replace q166:=eq_true q166
       go_wp2_with (first|(go_at_call 81;(with_reducible refine (spec_l07Flag.calls (rd l0 (ji4)) true _ A7.out).mono ?_);rintro e w' ⟨rfl,⟨nd,rfl⟩⟩))
       go_roundg k1
       case measure=>have:=HK1.out;omega
       case rel=>exact ⟨(wrap64 (x5_1+1)),(by first|rfl|(simp;done)|(simp [*];done)),H',⟨by have:=HK1.out;omega⟩,by repeat (first|exact Drawn0.refl _|apply Drawn0.step)⟩
      ·
       replace c8:=Bool.eq_false_iff.mpr c8
       subst c8
       have H1:(some x5_1)=some r:=by rw [if_neg (show ¬ (false=true) by decide)] at H;exact H
       clear H
       have H:=H1
       clear H1
       obtain rfl:=Option.some.inj H
       have p166:0≤((ji4):Int):=of_decide_eq_true (by first|(with_reducible assumption)|assumption)
       have q166:(ji4)<(l0.length:Int):=of_decide_eq_true (by first|(with_reducible assumption)|assumption)
       obtain ⟨ad166,e166,hx166_0⟩:=Kd.at_int HR0.out (ji4) p166 q166
       cases e166
       replace p166:=eq_true p166
       replace q166:=eq_true q166
       go_wp2_with (first|(go_at_call 81;(with_reducible refine (spec_l07Flag.calls (rd l0 (ji4)) false _ A7.out).mono ?_);rintro e w' ⟨rfl,⟨nd,rfl⟩⟩))
       go_ret
       exact ⟨by first|rfl|(simp;done)|(simp only [← hji4] <;> (first|rfl|simp))|(simp [*];done),by repeat (first|exact Drawn0.refl _|apply Drawn0.step)⟩
     ·
      rw [if_neg c6] at H
      exact absurd H (by simp)
    ·
     rw [if_neg c5] at H
     exact absurd H (by simp)
   ·
    rw [if_neg c3] at H
    have c3b0:decide (0≤(wrap64 (a1-x5_1)))=false:=decide_eq_false c3
    clear c3
    obtain rfl:=Option.some.inj H
    go_wp2
    go_ret
    exact ⟨by first|rfl|(simp;done)|(simp [*];done),by repeat (first|exact Drawn0.refl _|apply Drawn0.step)⟩
mutual
def spec_l07Char.j0:Nat→List Int→Int→Int→Int→Bool→Option (Bool)
 | 0,_,_,_,_,_=>none
 | k+1,x0,x1,x5,x6,x17=>if x17=true then (some false) else ((spec_l07Control.f k x5).bind fun t170=>(if t170=true then (spec_l07Char.j1 k x0 x1 x5 x6 true) else ((spec_l07Control.f k x6).bind fun t171=>(spec_l07Char.j1 k x0 x1 x5 x6 t171))))
def spec_l07Char.j1:Nat→List Int→Int→Int→Int→Bool→Option (Bool)
 | 0,_,_,_,_,_=>none
 | k+1,x0,x1,x5,x6,x24=>if x24=true then (some true) else ((spec_l07Syllable.f k x5 x6).bind fun t172=>(if t172=true then (spec_l07Char.j2 k x0 x1 x5 x6 true) else ((spec_l07Mark.f k x6).bind fun t173=>(spec_l07Char.j2 k x0 x1 x5 x6 t173))))
def spec_l07Char.j2:Nat→List Int→Int→Int→Int→Bool→Option (Bool)
 | 0,_,_,_,_,_=>none
 | k+1,x0,x1,x5,x6,x31=>if x31=true then (some false) else (if x6≥1536 then (if x6≤1567 then ((spec_l07Bound.f k x0 (wrap64 (x1-1))).bind fun t174=>(spec_l07Char.j3 k x0 x1 x5 x6 t174)) else (spec_l07Char.j3 k x0 x1 x5 x6 false)) else (spec_l07Char.j3 k x0 x1 x5 x6 false))
def spec_l07Char.j3:Nat→List Int→Int→Int→Int→Bool→Option (Bool)
 | 0,_,_,_,_,_=>none
 | k+1,x0,x1,x5,x6,x39=>if x39=true then (some false) else (if x5=7936 then ((spec_l07Picture.f x6).bind fun t175=>(spec_l07Char.j4 k x0 x1 x5 x6 t175)) else (spec_l07Char.j4 k x0 x1 x5 x6 false))
def spec_l07Char.j4:Nat→List Int→Int→Int→Int→Bool→Option (Bool)
 | 0,_,_,_,_,_=>none
 | k+1,x0,x1,x5,x6,x52=>if x52=true then (spec_l07Char.l0 k x0 (wrap64 (x1-2))) else ((spec_l07Flag.f x5).bind fun t182=>(if t182=true then ((spec_l07Flag.f x6).bind fun t183=>(if t183=true then ((spec_l07Flags.f k x0 (wrap64 (x1-1))).bind fun t184=>(some ((Int.tmod t184 2) == 0))) else (some true))) else (some true)))
def spec_l07Char.l0:Nat→List Int→Int→Option (Bool)
 | 0,_,_=>none
 | k+1,x0,x7=>if x7≥0 then (if 0≤x7 then (if x7<(x0.length:Int) then ((spec_l07Mark.f k (rd x0 x7)).bind fun t177=>(if t177=true then (spec_l07Char.l0 k x0 (wrap64 (x7-1))) else (if x7<0 then (some true) else ((spec_l07Picture.f (rd x0 x7)).bind fun t179=>(some (!t179)))))) else (none)) else (none)) else (if x7<0 then (some true) else (if 0≤x7 then (if x7<(x0.length:Int) then ((spec_l07Picture.f (rd x0 x7)).bind fun t181=>(some (!t181))) else (none)) else (none)))
end
def spec_l07Char.f (k:Nat) (l0:List Int) (a1:Int):Option (Bool):=if 0≤(wrap64 (a1-1)) then (if (wrap64 (a1-1))<(l0.length:Int) then (if 0≤a1 then (if a1<(l0.length:Int) then (if (rd l0 (wrap64 (a1-1)))=13 then (spec_l07Char.j0 k l0 a1 (rd l0 (wrap64 (a1-1))) (rd l0 a1) ((rd l0 a1) == 10)) else (spec_l07Char.j0 k l0 a1 (rd l0 (wrap64 (a1-1))) (rd l0 a1) false)) else (none)) else (none)) else (none)) else (none)
set_option maxHeartbeats 8000000 in
set_option maxRecDepth 100000 in
theorem spec_l07Char.calls (k:Nat) (A0:Option Addr) (c0:Nat) (l0:List Int) (a1:Int) (r:Bool) (w:World) (hr0:Kd.C (Kd.int .i64) w A0 l0.length l0) (hc0:l0.length≤c0) (h:spec_l07Char.f k l0 a1=some r) :
  Calls Tryd.prog 48 #[.slice A0 l0.length c0,.int .i64 a1] w fun e w'=>e = .returned (.bool r)∧Below w.heap.size w w':=by
 have HR0:=Aside0.mk hr0
 have HC0:=Aside0.mk hc0
 clear hr0 hc0
 have HB:=Aside0.mk (Below.refl w.heap.size w)
 have H:(if 0≤(wrap64 (a1-1)) then (if (wrap64 (a1-1))<(l0.length:Int) then (if 0≤a1 then (if a1<(l0.length:Int) then (if (rd l0 (wrap64 (a1-1)))=13 then (spec_l07Char.j0 k l0 a1 (rd l0 (wrap64 (a1-1))) (rd l0 a1) ((rd l0 a1) == 10)) else (spec_l07Char.j0 k l0 a1 (rd l0 (wrap64 (a1-1))) (rd l0 a1) false)) else (none)) else (none)) else (none)) else (none))=some r:=h
 clear h
 obtain ⟨ji3,hji3⟩:∃ j_:Int,(wrap64 (a1-1))=j_:=⟨_,rfl⟩
 replace H:(if 0≤(ji3) then (if (ji3)<(l0.length:Int) then (if 0≤a1 then (if a1<(l0.length:Int) then (if (rd l0 (ji3))=13 then (spec_l07Char.j0 k l0 a1 (rd l0 (ji3)) (rd l0 a1) ((rd l0 a1) == 10)) else (spec_l07Char.j0 k l0 a1 (rd l0 (ji3)) (rd l0 a1) false)) else (none)) else (none)) else (none)) else (none))=some r:=by first|(rw [hji3] at H;exact H)|(simp only [hji3] at H ⊢;exact H)
 have hji3w:(IntKind.i64.wrap (a1-1))=ji3:=(i64_w _).trans hji3
 by_cases c4:0≤(ji3)
 ·
  rw [if_pos c4] at H
  have c4b0:decide (0≤(ji3))=true:=decide_eq_true c4
  clear c4
  by_cases c5:(ji3)<(l0.length:Int)
  ·
   rw [if_pos c5] at H
   have c5b0:decide ((ji3)<(l0.length:Int))=true:=decide_eq_true c5
   clear c5
   by_cases c6:0≤a1
   ·
    rw [if_pos c6] at H
    have c6b0:decide (0≤a1)=true:=decide_eq_true c6
    clear c6
    by_cases c7:a1<(l0.length:Int)
    ·
     rw [if_pos c7] at H
     have c7b0:decide (a1<(l0.length:Int))=true:=decide_eq_true c7
     clear c7
     have HC8:=Aside0.mk H
     clear H
     have p168:0≤((ji3):Int):=of_decide_eq_true (by first|(with_reducible assumption)|assumption)
     have q168:(ji3)<(l0.length:Int):=of_decide_eq_true (by first|(with_reducible assumption)|assumption)
     obtain ⟨ad168,e168,hx168_0⟩:=Kd.at_int HR0.out (ji3) p168 q168
     cases e168
     replace p168:=eq_true p168
     replace q168:=eq_true q168
     have p169:0≤(a1:Int):=of_decide_eq_true (by first|(with_reducible assumption)|assumption)
     have q169:a1<(l0.length:Int):=of_decide_eq_true (by first|(with_reducible assumption)|assumption)
     obtain ⟨ad169,e169,hx169_0⟩:=Kd.at_int HR0.out a1 p169 q169
     obtain rfl:ad168=ad169:=(by injection e169)
     replace p169:=eq_true p169
     replace q169:=eq_true q169
     go_enter Tryd.func48,Tryd.ntmps48
     go_upto_region 3 with (fail)
     go_cut [17] (fun v17 wc=>∃ (kq:Nat) (x17_7:Bool),v17 = .bool x17_7∧Aside0 (spec_l07Char.j0 kq l0 a1 (rd l0 (ji3)) (rd l0 a1) x17_7=some r)∧Aside0 (kq≤k)∧Aside0 (Below w.heap.size w wc))
     case first =>
      have H:=HC8.out
      clear HC8
      by_cases c9:(rd l0 (ji3))=13
      ·
       rw [if_pos c9] at H
       have c9b0:((rd l0 (ji3)) == 13)=true:=beq_iff_eq.mpr c9
       have c9b1:((rd l0 (ji3)) != 13)=false:=bne_eq_false_iff_eq.mpr c9
       clear c9
       (first|rw [c9b0]|(simp only [i64_w,i32_w];rw [c9b0])|skip)
       have H':=Aside0.mk H
       clear H
       go_wp2
       go_meet
       case rel=>exact ⟨_,(((rd l0 a1) == 10)),(by first|rfl|(simp;done)|(simp [*];done)),H',⟨by first|omega|exact Nat.le_refl _⟩,⟨by repeat (first|(with_reducible first|exact HB.out|apply below_alloc|apply pw_below_drewN|apply below_drew1)|exact HB.out)⟩⟩
      ·
       rw [if_neg c9] at H
       have c9b0:((rd l0 (ji3)) == 13)=false:=beq_eq_false_iff_ne.mpr c9
       have c9b1:((rd l0 (ji3)) != 13)=true:=bne_iff_ne.mpr c9
       (first|rw [c9b0]|(simp only [i64_w,i32_w];rw [c9b0])|skip)
       have H':=Aside0.mk H
       clear H
       go_wp2
       go_meet
       case rel=>exact ⟨_,(false),(by first|rfl|(simp;done)|(simp [*];done)),H',⟨by first|omega|exact Nat.le_refl _⟩,⟨by repeat (first|(with_reducible first|exact HB.out|apply below_alloc|apply pw_below_drewN|apply below_drew1)|exact HB.out)⟩⟩
     case rest =>
      clear HC8
      try clear p1
      try clear q1
      try clear hx1
      try clear p2
      try clear c4
      try clear c4b0
      try clear c5
      try clear c5b0
      try clear c6
      try clear c6b0
      try clear p6
      try clear c7
      try clear c7b0
      try clear c9
      try clear c9b0
      try clear c9b1
      try clear hx168_0
      try clear hx169_0
      try clear p168
      try clear p169
      try clear q168
      try clear q169
      obtain ⟨kq,x17_7,rfl,HA,HJ7,HB⟩:=hcut
      cases kq with
      | zero=>exact absurd HA.out (by simp [spec_l07Char.j0])
      | succ kj7 =>
       have H:=HA.out
       clear HA
       simp only [spec_l07Char.j0] at H
       by_cases c10:x17_7=true
       ·
        subst c10
        have H1:(some false)=some r:=by rw [if_pos rfl] at H;exact H
        clear H
        have H:=H1
        clear H1
        obtain rfl:=Option.some.inj H
        go_wp2
        go_ret
        exact ⟨by first|rfl|(simp [errW_none,errW_some] <;> rfl)|(simp only [← hji3];first|rfl|(simp [errW_none,errW_some] <;> rfl))|(simp [*,errW_none,errW_some] <;> rfl),by repeat (first|(with_reducible first|exact HB.out|apply below_alloc|apply pw_below_drewN|apply below_drew1)|exact HB.out)⟩
       ·
        replace c10:=Bool.eq_false_iff.mpr c10
        subst c10
        have H1:((spec_l07Control.f kj7 (rd l0 (ji3))).bind fun t170=>(if t170=true then (spec_l07Char.j1 kj7 l0 a1 (rd l0 (ji3)) (rd l0 a1) true) else ((spec_l07Control.f kj7 (rd l0 a1)).bind fun t171=>(spec_l07Char.j1 kj7 l0 a1 (rd l0 (ji3)) (rd l0 a1) t171))))=some r:=by rw [if_neg (show ¬ (false=true) by decide)] at H;exact H
        clear H
        have H:=H1
        clear H1
        have HC11:=Aside0.mk H
        clear H
        go_upto_region 5 with (fail)
        go_cut [24] (fun v24 wc=>∃ (kq:Nat) (x24_10:Bool),v24 = .bool x24_10∧Aside0 (spec_l07Char.j1 kq l0 a1 (rd l0 (ji3)) (rd l0 a1) x24_10=some r)∧Aside0 (kq≤kj7)∧Aside0 (Below w.heap.size w wc))
        case first =>
         have H:=HC11.out
         clear HC11
         replace H:=Option.bind_eq_some_iff.mp H
         obtain ⟨t170,A120,H⟩:=H
         replace H:(if t170=true then (spec_l07Char.j1 kj7 l0 a1 (rd l0 (ji3)) (rd l0 a1) true) else ((spec_l07Control.f kj7 (rd l0 a1)).bind fun t171=>(spec_l07Char.j1 kj7 l0 a1 (rd l0 (ji3)) (rd l0 a1) t171)))=some r:=H
         have A12:=Aside0.mk A120
         clear A120
         by_cases c13:t170=true
         ·
          subst c13
          have H1:(spec_l07Char.j1 kj7 l0 a1 (rd l0 (ji3)) (rd l0 a1) true)=some r:=by rw [if_pos rfl] at H;exact H
          clear H
          have H:=H1
          clear H1
          have H':=Aside0.mk H
          clear H
          go_wp2_with (first|((with_reducible refine gate_callee (f:=77) rfl ?_);refine goesL_ (some 26) rfl rfl Tryd.func77 (by kernel_rfl) rfl #[.int .i64 (rd l0 (ji3))] rfl (by (try simp only [List.map_toArray,List.map_cons,List.map_nil]);first|done|(simp only [hji3];rfl)|rfl|(simp only [List.length_drop,List.length_take];rfl)) ?_;(with_reducible refine (spec_l07Control.calls kj7 (rd l0 (ji3)) true _ A12.out).mono ?_);rintro e w14 ⟨rfl,hb⟩;refine ⟨_,rfl,?_⟩;have n0_:=Aside0.mk (below_step (by repeat (first|(with_reducible first|exact HB.out|apply below_alloc|apply pw_below_drewN|apply below_drew1)|exact HB.out)) hb);clear HB;have HB:=n0_;clear n0_;(try clear hb);(try clear hb2);(try clear hk);(try clear hi)))
          go_meet
          case rel=>exact ⟨_,(true),(by first|rfl|(simp;done)|(simp [*];done)),H',⟨by have:=HJ7.out;first|omega|exact Nat.le_refl _⟩,⟨by repeat (first|(with_reducible first|exact HB.out|apply below_alloc|apply pw_below_drewN|apply below_drew1)|exact HB.out)⟩⟩
         ·
          replace c13:=Bool.eq_false_iff.mpr c13
          subst c13
          have H1:((spec_l07Control.f kj7 (rd l0 a1)).bind fun t171=>(spec_l07Char.j1 kj7 l0 a1 (rd l0 (ji3)) (rd l0 a1) t171))=some r:=by rw [if_neg (show ¬ (false=true) by decide)] at H;exact H
          clear H
          have H:=H1
          clear H1
          replace H:=Option.bind_eq_some_iff.mp H
          obtain ⟨t171,A150,H⟩:=H
          replace H:(spec_l07Char.j1 kj7 l0 a1 (rd l0 (ji3)) (rd l0 a1) t171)=some r:=H
          have A15:=Aside0.mk A150
          clear A150
          have H':=Aside0.mk H
          clear H
          go_wp2_with (first|((with_reducible refine gate_callee (f:=77) rfl ?_);refine goesL_ (some 26) rfl rfl Tryd.func77 (by kernel_rfl) rfl #[.int .i64 (rd l0 (ji3))] rfl (by (try simp only [List.map_toArray,List.map_cons,List.map_nil]);first|done|(simp only [hji3];rfl)|rfl|(simp only [List.length_drop,List.length_take];rfl)) ?_;(with_reducible refine (spec_l07Control.calls kj7 (rd l0 (ji3)) false _ A12.out).mono ?_);rintro e w16 ⟨rfl,hb⟩;refine ⟨_,rfl,?_⟩;have n0_:=Aside0.mk (below_step (by repeat (first|(with_reducible first|exact HB.out|apply below_alloc|apply pw_below_drewN|apply below_drew1)|exact HB.out)) hb);clear HB;have HB:=n0_;clear n0_;(try clear hb);(try clear hb2);(try clear hk);(try clear hi))|(go_at_call 77;(with_reducible refine (spec_l07Control.calls kj7 (rd l0 a1) t171 _ A15.out).mono ?_);rintro e w17 ⟨rfl,hb⟩;have n0_:=Aside0.mk (below_step (by repeat (first|(with_reducible first|exact HB.out|apply below_alloc|apply pw_below_drewN|apply below_drew1)|exact HB.out)) hb);clear HB;have HB:=n0_;clear n0_;(try clear hb);(try clear hb2);(try clear hk);(try clear hi)))
          go_meet
          case rel=>exact ⟨_,(t171),(by first|rfl|(simp;done)|(simp [*];done)),H',⟨by have:=HJ7.out;first|omega|exact Nat.le_refl _⟩,⟨by repeat (first|(with_reducible first|exact HB.out|apply below_alloc|apply pw_below_drewN|apply below_drew1)|exact HB.out)⟩⟩
        case rest =>
         clear HC11
         try clear c1
         try clear p1
         try clear q1
         try clear hx1
         try clear p2
         try clear c4
         try clear c4b0
         try clear c5
         try clear c5b0
         try clear c6
         try clear c6b0
         try clear p6
         try clear c7
         try clear c7b0
         try clear c9
         try clear c9b0
         try clear c9b1
         try clear c10
         try clear c13
         try clear p16
         try clear q16
         try clear hx16
         try clear hx168_0
         try clear hx169_0
         try clear p1
         try clear p168
         try clear p169
         try clear p2
         try clear p6
         try clear q1
         try clear q168
         try clear q169
         obtain ⟨kq,x24_10,rfl,HA,HJ10,HB⟩:=hcut
         cases kq with
         | zero=>exact absurd HA.out (by simp [spec_l07Char.j1])
         | succ kj10 =>
          have H:=HA.out
          clear HA
          simp only [spec_l07Char.j1] at H
          by_cases c18:x24_10=true
          ·
           subst c18
           have H1:(some true)=some r:=by rw [if_pos rfl] at H;exact H
           clear H
           have H:=H1
           clear H1
           obtain rfl:=Option.some.inj H
           go_wp2
           go_ret
           exact ⟨by first|rfl|(simp [errW_none,errW_some] <;> rfl)|(simp only [← hji3];first|rfl|(simp [errW_none,errW_some] <;> rfl))|(simp [*,errW_none,errW_some] <;> rfl),by repeat (first|(with_reducible first|exact HB.out|apply below_alloc|apply pw_below_drewN|apply below_drew1)|exact HB.out)⟩
          ·
           replace c18:=Bool.eq_false_iff.mpr c18
           subst c18
           have H1:((spec_l07Syllable.f kj10 (rd l0 (ji3)) (rd l0 a1)).bind fun t172=>(if t172=true then (spec_l07Char.j2 kj10 l0 a1 (rd l0 (ji3)) (rd l0 a1) true) else ((spec_l07Mark.f kj10 (rd l0 a1)).bind fun t173=>(spec_l07Char.j2 kj10 l0 a1 (rd l0 (ji3)) (rd l0 a1) t173))))=some r:=by rw [if_neg (show ¬ (false=true) by decide)] at H;exact H
           clear H
           have H:=H1
           clear H1
           have HC19:=Aside0.mk H
           clear H
           go_upto_region 7 with (fail)
           go_cut [31] (fun v31 wc=>∃ (kq:Nat) (x31_18:Bool),v31 = .bool x31_18∧Aside0 (spec_l07Char.j2 kq l0 a1 (rd l0 (ji3)) (rd l0 a1) x31_18=some r)∧Aside0 (kq≤kj10)∧Aside0 (Below w.heap.size w wc))
           case first =>
            have H:=HC19.out
            clear HC19
            replace H:=Option.bind_eq_some_iff.mp H
            obtain ⟨t172,A200,H⟩:=H
            replace H:(if t172=true then (spec_l07Char.j2 kj10 l0 a1 (rd l0 (ji3)) (rd l0 a1) true) else ((spec_l07Mark.f kj10 (rd l0 a1)).bind fun t173=>(spec_l07Char.j2 kj10 l0 a1 (rd l0 (ji3)) (rd l0 a1) t173)))=some r:=H
            have A20:=Aside0.mk A200
            clear A200
            by_cases c21:t172=true
            ·
             subst c21
             have H1:(spec_l07Char.j2 kj10 l0 a1 (rd l0 (ji3)) (rd l0 a1) true)=some r:=by rw [if_pos rfl] at H;exact H
             clear H
             have H:=H1
             clear H1
             have H':=Aside0.mk H
             clear H
             go_wp2_with (first|((with_reducible refine gate_callee (f:=78) rfl ?_);refine goesL_ (some 34) rfl rfl Tryd.func78 (by kernel_rfl) rfl #[.int .i64 (rd l0 (ji3)),.int .i64 (rd l0 a1)] rfl (by (try simp only [List.map_toArray,List.map_cons,List.map_nil]);first|done|(simp only [hji3];rfl)|rfl|(simp only [List.length_drop,List.length_take];rfl)) ?_;(with_reducible refine (spec_l07Syllable.calls kj10 (rd l0 (ji3)) (rd l0 a1) true _ A20.out).mono ?_);rintro e w' ⟨rfl,⟨nd,rfl⟩⟩;refine ⟨_,rfl,?_⟩))
             go_meet
             case rel=>exact ⟨_,(true),(by first|rfl|(simp;done)|(simp [*];done)),H',⟨by have:=HJ7.out;have:=HJ10.out;first|omega|exact Nat.le_refl _⟩,⟨by repeat (first|(with_reducible first|exact HB.out|apply below_alloc|apply pw_below_drewN|apply below_drew1)|exact HB.out)⟩⟩
            ·
             replace c21:=Bool.eq_false_iff.mpr c21
             subst c21
             have H1:((spec_l07Mark.f kj10 (rd l0 a1)).bind fun t173=>(spec_l07Char.j2 kj10 l0 a1 (rd l0 (ji3)) (rd l0 a1) t173))=some r:=by rw [if_neg (show ¬ (false=true) by decide)] at H;exact H
             clear H
             have H:=H1
             clear H1
             replace H:=Option.bind_eq_some_iff.mp H
             obtain ⟨t173,A220,H⟩:=H
             replace H:(spec_l07Char.j2 kj10 l0 a1 (rd l0 (ji3)) (rd l0 a1) t173)=some r:=H
             have A22:=Aside0.mk A220
             clear A220
             have H':=Aside0.mk H
             clear H
             go_wp2_with (first|((with_reducible refine gate_callee (f:=78) rfl ?_);refine goesL_ (some 34) rfl rfl Tryd.func78 (by kernel_rfl) rfl #[.int .i64 (rd l0 (ji3)),.int .i64 (rd l0 a1)] rfl (by (try simp only [List.map_toArray,List.map_cons,List.map_nil]);first|done|(simp only [hji3];rfl)|rfl|(simp only [List.length_drop,List.length_take];rfl)) ?_;(with_reducible refine (spec_l07Syllable.calls kj10 (rd l0 (ji3)) (rd l0 a1) false _ A20.out).mono ?_);rintro e w' ⟨rfl,⟨nd,rfl⟩⟩;refine ⟨_,rfl,?_⟩)|(go_at_call 79;(with_reducible refine (spec_l07Mark.calls kj10 (rd l0 a1) t173 _ A22.out).mono ?_);rintro e w23 ⟨rfl,hb⟩;have n0_:=Aside0.mk (below_step (by repeat (first|(with_reducible first|exact HB.out|apply below_alloc|apply pw_below_drewN|apply below_drew1)|exact HB.out)) hb);clear HB;have HB:=n0_;clear n0_;(try clear hb);(try clear hb2);(try clear hk);(try clear hi)))
             go_meet
             case rel=>exact ⟨_,(t173),(by first|rfl|(simp;done)|(simp [*];done)),H',⟨by have:=HJ7.out;have:=HJ10.out;first|omega|exact Nat.le_refl _⟩,⟨by repeat (first|(with_reducible first|exact HB.out|apply below_alloc|apply pw_below_drewN|apply below_drew1)|exact HB.out)⟩⟩
           case rest =>
            clear HC19
            try clear c1
            try clear p1
            try clear q1
            try clear hx1
            try clear c2
            try clear p2
            try clear c4
            try clear c4b0
            try clear c5
            try clear c5b0
            try clear c6
            try clear c6b0
            try clear p6
            try clear c7
            try clear c7b0
            try clear c9
            try clear c9b0
            try clear c9b1
            try clear c10
            try clear c13
            try clear p16
            try clear q16
            try clear hx16
            try clear c18
            try clear c21
            try clear hx168_0
            try clear hx169_0
            try clear p1
            try clear p16
            try clear p168
            try clear p169
            try clear p2
            try clear p6
            try clear q1
            try clear q16
            try clear q168
            try clear q169
            obtain ⟨kq,x31_18,rfl,HA,HJ18,HB⟩:=hcut
            cases kq with
            | zero=>exact absurd HA.out (by simp [spec_l07Char.j2])
            | succ kj18 =>
             have H:=HA.out
             clear HA
             simp only [spec_l07Char.j2] at H
             by_cases c24:x31_18=true
             ·
              subst c24
              have H1:(some false)=some r:=by rw [if_pos rfl] at H;exact H
              clear H
              have H:=H1
              clear H1
              obtain rfl:=Option.some.inj H
              go_wp2
              go_ret
              exact ⟨by first|rfl|(simp [errW_none,errW_some] <;> rfl)|(simp only [← hji3];first|rfl|(simp [errW_none,errW_some] <;> rfl))|(simp [*,errW_none,errW_some] <;> rfl),by repeat (first|(with_reducible first|exact HB.out|apply below_alloc|apply pw_below_drewN|apply below_drew1)|exact HB.out)⟩
             ·
              replace c24:=Bool.eq_false_iff.mpr c24
              subst c24
              have H1:(if (rd l0 a1)≥1536 then (if (rd l0 a1)≤1567 then ((spec_l07Bound.f kj18 l0 (wrap64 (a1-1))).bind fun t174=>(spec_l07Char.j3 kj18 l0 a1 (rd l0 (ji3)) (rd l0 a1) t174)) else (spec_l07Char.j3 kj18 l0 a1 (rd l0 (ji3)) (rd l0 a1) false)) else (spec_l07Char.j3 kj18 l0 a1 (rd l0 (ji3)) (rd l0 a1) false))=some r:=by rw [if_neg (show ¬ (false=true) by decide)] at H;exact H
              clear H
              have H:=H1
              clear H1
              have HC25:=Aside0.mk H
              clear H
              go_upto_region 9 with (fail)
              go_cut [39] (fun v39 wc=>∃ (kq:Nat) (x39_24:Bool),v39 = .bool x39_24∧Aside0 (spec_l07Char.j3 kq l0 a1 (rd l0 (ji3)) (rd l0 a1) x39_24=some r)∧Aside0 (kq≤kj18)∧Aside0 (Below w.heap.size w wc))
              case first =>
               have H:=HC25.out
               clear HC25
               by_cases c26:(rd l0 a1)≥1536
               ·
                rw [if_pos c26] at H
                have c26b0:decide (1536≤(rd l0 a1))=true:=decide_eq_true c26
                clear c26
                (first|rw [c26b0]|(simp only [i64_w,i32_w];rw [c26b0])|skip)
                by_cases c27:(rd l0 a1)≤1567
                ·
                 rw [if_pos c27] at H
                 have c27b0:decide ((rd l0 a1)≤1567)=true:=decide_eq_true c27
                 clear c27
                 replace H:=Option.bind_eq_some_iff.mp H
                 obtain ⟨t174,A280,H⟩:=H
                 replace H:(spec_l07Char.j3 kj18 l0 a1 (rd l0 (ji3)) (rd l0 a1) t174)=some r:=H
                 have A28:=Aside0.mk A280
                 clear A280
                 have H':=Aside0.mk H
                 clear H
                 go_wp2_with (first|(go_at_call 80;(with_reducible refine (spec_l07Bound.calls kj18 _ _ l0 (ji3) t174 _ ?side1 ?side2 (hji3 ▸ A28.out)).mono ?_);(case side1=>repeat (first|exact (Kd.C_below HR0.out HB.out)|(with_reducible refine Kd.C_alloc ?_ _)|(with_reducible refine Kd.C_drewN ?_ _)|(with_reducible refine Kd.C_drew ?_)));(case side2=>exact HC0.out);rintro e w' ⟨rfl,⟨nd,rfl⟩⟩))
                 go_meet
                 case rel=>exact ⟨_,(t174),(by first|rfl|(simp;done)|(simp [*];done)),H',⟨by have:=HJ7.out;have:=HJ10.out;have:=HJ18.out;first|omega|exact Nat.le_refl _⟩,⟨by repeat (first|(with_reducible first|exact HB.out|apply below_alloc|apply pw_below_drewN|apply below_drew1)|exact HB.out)⟩⟩
                ·
                 rw [if_neg c27] at H
                 have c27b0:decide ((rd l0 a1)≤1567)=false:=decide_eq_false c27
                 clear c27
                 have H':=Aside0.mk H
                 clear H
                 go_wp2
                 go_meet
                 case rel=>exact ⟨_,(false),(by first|rfl|(simp;done)|(simp [*];done)),H',⟨by have:=HJ7.out;have:=HJ10.out;have:=HJ18.out;first|omega|exact Nat.le_refl _⟩,⟨by repeat (first|(with_reducible first|exact HB.out|apply below_alloc|apply pw_below_drewN|apply below_drew1)|exact HB.out)⟩⟩
               ·
                rw [if_neg c26] at H
                have c26b0:decide (1536≤(rd l0 a1))=false:=decide_eq_false c26
                clear c26
                (first|rw [c26b0]|(simp only [i64_w,i32_w];rw [c26b0])|skip)
                have H':=Aside0.mk H
                clear H
                go_wp2
                go_meet
                case rel=>exact ⟨_,(false),(by first|rfl|(simp;done)|(simp [*];done)),H',⟨by have:=HJ7.out;have:=HJ10.out;have:=HJ18.out;first|omega|exact Nat.le_refl _⟩,⟨by repeat (first|(with_reducible first|exact HB.out|apply below_alloc|apply pw_below_drewN|apply below_drew1)|exact HB.out)⟩⟩
              case rest =>
               clear HC25
               try clear c1
               try clear p1
               try clear q1
               try clear hx1
               try clear c2
               try clear p2
               try clear c4
               try clear c4b0
               try clear c5
               try clear c5b0
               try clear c6
               try clear c6b0
               try clear p6
               try clear c7
               try clear c7b0
               try clear c9
               try clear c9b0
               try clear c9b1
               try clear c10
               try clear c13
               try clear p16
               try clear q16
               try clear hx16
               try clear c18
               try clear c21
               try clear c24
               try clear c26
               try clear c26b0
               try clear c27
               try clear c27b0
               try clear hx168_0
               try clear hx169_0
               try clear p1
               try clear p16
               try clear p168
               try clear p169
               try clear p2
               try clear p6
               try clear q1
               try clear q16
               try clear q168
               try clear q169
               obtain ⟨kq,x39_24,rfl,HA,HJ24,HB⟩:=hcut
               cases kq with
               | zero=>exact absurd HA.out (by simp [spec_l07Char.j3])
               | succ kj24 =>
                have H:=HA.out
                clear HA
                simp only [spec_l07Char.j3] at H
                by_cases c29:x39_24=true
                ·
                 subst c29
                 have H1:(some false)=some r:=by rw [if_pos rfl] at H;exact H
                 clear H
                 have H:=H1
                 clear H1
                 obtain rfl:=Option.some.inj H
                 go_wp2
                 go_ret
                 exact ⟨by first|rfl|(simp [errW_none,errW_some] <;> rfl)|(simp only [← hji3];first|rfl|(simp [errW_none,errW_some] <;> rfl))|(simp [*,errW_none,errW_some] <;> rfl),by repeat (first|(with_reducible first|exact HB.out|apply below_alloc|apply pw_below_drewN|apply below_drew1)|exact HB.out)⟩
                ·
                 replace c29:=Bool.eq_false_iff.mpr c29
                 subst c29
                 have H1:(if (rd l0 (ji3))=7936 then ((spec_l07Picture.f (rd l0 a1)).bind fun t175=>(spec_l07Char.j4 kj24 l0 a1 (rd l0 (ji3)) (rd l0 a1) t175)) else (spec_l07Char.j4 kj24 l0 a1 (rd l0 (ji3)) (rd l0 a1) false))=some r:=by rw [if_neg (show ¬ (false=true) by decide)] at H;exact H
                 clear H
                 have H:=H1
                 clear H1
                 have HC30:=Aside0.mk H
                 clear H
                 go_upto_region 11 with (fail)
                 go_cut [52] (fun v52 wc=>∃ (kq:Nat) (x52_29:Bool),v52 = .bool x52_29∧Aside0 (spec_l07Char.j4 kq l0 a1 (rd l0 (ji3)) (rd l0 a1) x52_29=some r)∧Aside0 (kq≤kj24)∧Aside0 (Below w.heap.size w wc))
                 case first =>
                  have H:=HC30.out
                  clear HC30
                  by_cases c31:(rd l0 (ji3))=7936
                  ·
                   rw [if_pos c31] at H
                   have c31b0:((rd l0 (ji3)) == 7936)=true:=beq_iff_eq.mpr c31
                   have c31b1:((rd l0 (ji3)) != 7936)=false:=bne_eq_false_iff_eq.mpr c31
                   clear c31
                   (first|rw [c31b0]|(simp only [i64_w,i32_w];rw [c31b0])|skip)
                   replace H:=Option.bind_eq_some_iff.mp H
                   obtain ⟨t175,A320,H⟩:=H
                   replace H:(spec_l07Char.j4 kj24 l0 a1 (rd l0 (ji3)) (rd l0 a1) t175)=some r:=H
                   have A32:=Aside0.mk A320
                   clear A320
                   have H':=Aside0.mk H
                   clear H
                   go_wp2_with (first|(go_at_call 49;(with_reducible refine (spec_l07Picture.calls (rd l0 a1) t175 _ A32.out).mono ?_);rintro e w' ⟨rfl,⟨nd,rfl⟩⟩))
                   go_meet
                   case rel=>exact ⟨_,(t175),(by first|rfl|(simp;done)|(simp [*];done)),H',⟨by have:=HJ7.out;have:=HJ10.out;have:=HJ18.out;have:=HJ24.out;first|omega|exact Nat.le_refl _⟩,⟨by repeat (first|(with_reducible first|exact HB.out|apply below_alloc|apply pw_below_drewN|apply below_drew1)|exact HB.out)⟩⟩
                  ·
                   rw [if_neg c31] at H
                   have c31b0:((rd l0 (ji3)) == 7936)=false:=beq_eq_false_iff_ne.mpr c31
                   have c31b1:((rd l0 (ji3)) != 7936)=true:=bne_iff_ne.mpr c31
                   (first|rw [c31b0]|(simp only [i64_w,i32_w];rw [c31b0])|skip)
                   have H':=Aside0.mk H
                   clear H
                   go_wp2
                   go_meet
                   case rel=>exact ⟨_,(false),(by first|rfl|(simp;done)|(simp [*];done)),H',⟨by have:=HJ7.out;have:=HJ10.out;have:=HJ18.out;have:=HJ24.out;first|omega|exact Nat.le_refl _⟩,⟨by repeat (first|(with_reducible first|exact HB.out|apply below_alloc|apply pw_below_drewN|apply below_drew1)|exact HB.out)⟩⟩
                 case rest =>
                  clear HC30
                  try clear c1
                  try clear p1
                  try clear q1
                  try clear hx1
                  try clear c2
                  try clear p2
                  try clear c3
                  try clear c4
                  try clear c4b0
                  try clear c5
                  try clear c5b0
                  try clear c6
                  try clear c6b0
                  try clear p6
                  try clear c7
                  try clear c7b0
                  try clear c9
                  try clear c9b0
                  try clear c9b1
                  try clear c10
                  try clear c13
                  try clear p16
                  try clear q16
                  try clear hx16
                  try clear c18
                  try clear c21
                  try clear c24
                  try clear c26
                  try clear c26b0
                  try clear c27
                  try clear c27b0
                  try clear c29
                  try clear c31
                  try clear c31b0
                  try clear c31b1
                  try clear hx168_0
                  try clear hx169_0
                  try clear p1
                  try clear p16
                  try clear p168
                  try clear p169
                  try clear p2
                  try clear p6
                  try clear q1
                  try clear q16
                  try clear q168
                  try clear q169
                  obtain ⟨kq,x52_29,rfl,HA,HJ29,HB⟩:=hcut
                  cases kq with
                  | zero=>exact absurd HA.out (by simp [spec_l07Char.j4])
                  | succ kj29 =>
                   have H:=HA.out
                   clear HA
                   simp only [spec_l07Char.j4] at H
                   by_cases c33:x52_29=true
                   ·
                    subst c33
                    have H1:(spec_l07Char.l0 kj29 l0 (wrap64 (a1-2)))=some r:=by rw [if_pos rfl] at H;exact H
                    clear H
                    have H:=H1
                    clear H1
                    have H':=Aside0.mk H
                    clear H
                    go_wp2
                    go_loopg [7] kj29 (fun kq v7 w'=>∃ (x7_6:Int),v7 = .int .i64 x7_6∧Aside0 (spec_l07Char.l0 kq l0 x7_6=some r)∧Aside0 (kq≤kj29)∧Aside0 (Below w.heap.size w w'))
                    case atStart=>exact ⟨(wrap64 (a1-2)),(by first|rfl|(simp;done)|(simp [*];done)),H',⟨Nat.le_refl _⟩,⟨by repeat (first|(with_reducible first|exact HB.out|apply below_alloc|apply pw_below_drewN|apply below_drew1)|exact HB.out)⟩⟩
                    case round =>
                     clear H'
                     try clear c1
                     try clear p1
                     try clear q1
                     try clear hx1
                     try clear c2
                     try clear p2
                     try clear c3
                     try clear c4
                     try clear c4b0
                     try clear c5
                     try clear c5b0
                     try clear c6
                     try clear c6b0
                     try clear p6
                     try clear c7
                     try clear c7b0
                     try clear c9
                     try clear c9b0
                     try clear c9b1
                     try clear c10
                     try clear c13
                     try clear p16
                     try clear q16
                     try clear hx16
                     try clear c18
                     try clear c21
                     try clear c24
                     try clear c26
                     try clear c26b0
                     try clear c27
                     try clear c27b0
                     try clear c29
                     try clear c31
                     try clear c31b0
                     try clear c31b1
                     try clear c33
                     try clear hx168_0
                     try clear hx169_0
                     try clear p1
                     try clear p16
                     try clear p168
                     try clear p169
                     try clear p2
                     try clear p6
                     try clear q1
                     try clear q16
                     try clear q168
                     try clear q169
                     obtain ⟨x7_6,rfl,HA,HK6,HB⟩:=hrel
                     cases gk with
                     | zero=>exact absurd HA.out (by simp [spec_l07Char.l0])
                     | succ k6 =>
                      have H:=HA.out
                      clear HA
                      simp only [spec_l07Char.l0] at H
                      by_cases c34:x7_6≥0
                      ·
                       rw [if_pos c34] at H
                       have c34b0:decide (0≤x7_6)=true:=decide_eq_true c34
                       clear c34
                       by_cases c35:0≤x7_6
                       ·
                        rw [if_pos c35] at H
                        have c35b0:decide (0≤x7_6)=true:=decide_eq_true c35
                        clear c35
                        by_cases c36:x7_6<(l0.length:Int)
                        ·
                         rw [if_pos c36] at H
                         have c36b0:decide (x7_6<(l0.length:Int))=true:=decide_eq_true c36
                         clear c36
                         replace H:=Option.bind_eq_some_iff.mp H
                         obtain ⟨t177,A370,H⟩:=H
                         replace H:(if t177=true then (spec_l07Char.l0 k6 l0 (wrap64 (x7_6-1))) else (if x7_6<0 then (some true) else ((spec_l07Picture.f (rd l0 x7_6)).bind fun t179=>(some (!t179)))))=some r:=H
                         have A37:=Aside0.mk A370
                         clear A370
                         by_cases c38:t177=true
                         ·
                          subst c38
                          have H1:(spec_l07Char.l0 k6 l0 (wrap64 (x7_6-1)))=some r:=by rw [if_pos rfl] at H;exact H
                          clear H
                          have H:=H1
                          clear H1
                          have H':=Aside0.mk H
                          clear H
                          have p176:0≤(x7_6:Int):=of_decide_eq_true (by first|(with_reducible assumption)|assumption)
                          have q176:x7_6<(l0.length:Int):=of_decide_eq_true (by first|(with_reducible assumption)|assumption)
                          obtain ⟨ad176,e176,hx176_0⟩:=Kd.at_int HR0.out x7_6 p176 q176
                          obtain rfl:ad168=ad176:=(by injection e176)
                          replace hx176_0:=(HB.out.cell (World.block_lt_of_cell? _ _ hx176_0)).trans hx176_0
                          replace p176:=eq_true p176
                          replace q176:=eq_true q176
                          go_wp2_with (first|(go_at_call 79;(with_reducible refine (spec_l07Mark.calls k6 (rd l0 x7_6) true _ A37.out).mono ?_);rintro e w39 ⟨rfl,hb⟩;have n0_:=Aside0.mk (below_step (by repeat (first|(with_reducible first|exact HB.out|apply below_alloc|apply pw_below_drewN|apply below_drew1)|exact HB.out)) hb);clear HB;have HB:=n0_;clear n0_;(try clear hb);(try clear hb2);(try clear hk);(try clear hi)))
                          go_roundg k6
                          case measure=>have:=HJ7.out;have:=HJ10.out;have:=HJ18.out;have:=HJ24.out;have:=HJ29.out;have:=HK6.out;omega
                          case rel=>exact ⟨(wrap64 (x7_6-1)),(by first|rfl|(simp;done)|(simp [*];done)),H',⟨by have:=HJ7.out;have:=HJ10.out;have:=HJ18.out;have:=HJ24.out;have:=HJ29.out;have:=HK6.out;omega⟩,⟨by repeat (first|(with_reducible first|exact HB.out|apply below_alloc|apply pw_below_drewN|apply below_drew1)|exact HB.out)⟩⟩
                         ·
                          replace c38:=Bool.eq_false_iff.mpr c38
                          subst c38
                          have H1:(if x7_6<0 then (some true) else ((spec_l07Picture.f (rd l0 x7_6)).bind fun t179=>(some (!t179))))=some r:=by rw [if_neg (show ¬ (false=true) by decide)] at H;exact H
                          clear H
                          have H:=H1
                          clear H1
                          by_cases c40:x7_6<0
                          ·
                           rw [if_pos c40] at H
                           have c40b0:decide (x7_6<0)=true:=decide_eq_true c40
                           clear c40
                           obtain rfl:=Option.some.inj H
                           have p176:0≤(x7_6:Int):=of_decide_eq_true (by first|(with_reducible assumption)|assumption)
                           have q176:x7_6<(l0.length:Int):=of_decide_eq_true (by first|(with_reducible assumption)|assumption)
                           obtain ⟨ad176,e176,hx176_0⟩:=Kd.at_int HR0.out x7_6 p176 q176
                           obtain rfl:ad168=ad176:=(by injection e176)
                           replace hx176_0:=(HB.out.cell (World.block_lt_of_cell? _ _ hx176_0)).trans hx176_0
                           replace p176:=eq_true p176
                           replace q176:=eq_true q176
                           go_wp2_with (first|(go_at_call 79;(with_reducible refine (spec_l07Mark.calls k6 (rd l0 x7_6) false _ A37.out).mono ?_);rintro e w41 ⟨rfl,hb⟩;have n0_:=Aside0.mk (below_step (by repeat (first|(with_reducible first|exact HB.out|apply below_alloc|apply pw_below_drewN|apply below_drew1)|exact HB.out)) hb);clear HB;have HB:=n0_;clear n0_;(try clear hb);(try clear hb2);(try clear hk);(try clear hi)))
                           go_ret
                           exact ⟨by first|rfl|(simp [errW_none,errW_some] <;> rfl)|(simp only [← hji3];first|rfl|(simp [errW_none,errW_some] <;> rfl))|(simp [*,errW_none,errW_some] <;> rfl),by repeat (first|(with_reducible first|exact HB.out|apply below_alloc|apply pw_below_drewN|apply below_drew1)|exact HB.out)⟩
                          ·
                           rw [if_neg c40] at H
                           have c40b0:decide (x7_6<0)=false:=decide_eq_false c40
                           clear c40
                           replace H:=Option.bind_eq_some_iff.mp H
                           obtain ⟨t179,A420,H⟩:=H
                           replace H:(some (!t179))=some r:=H
                           have A42:=Aside0.mk A420
                           clear A420
                           obtain rfl:=Option.some.inj H
                           have p176:0≤(x7_6:Int):=of_decide_eq_true (by first|(with_reducible assumption)|assumption)
                           have q176:x7_6<(l0.length:Int):=of_decide_eq_true (by first|(with_reducible assumption)|assumption)
                           obtain ⟨ad176,e176,hx176_0⟩:=Kd.at_int HR0.out x7_6 p176 q176
                           obtain rfl:ad168=ad176:=(by injection e176)
                           replace hx176_0:=(HB.out.cell (World.block_lt_of_cell? _ _ hx176_0)).trans hx176_0
                           replace p176:=eq_true p176
                           replace q176:=eq_true q176
                           go_wp2_with (first|(go_at_call 79;(with_reducible refine (spec_l07Mark.calls k6 (rd l0 x7_6) false _ A37.out).mono ?_);rintro e w43 ⟨rfl,hb⟩;have n0_:=Aside0.mk (below_step (by repeat (first|(with_reducible first|exact HB.out|apply below_alloc|apply pw_below_drewN|apply below_drew1)|exact HB.out)) hb);clear HB;have HB:=n0_;clear n0_;(try clear hb);(try clear hb2);(try clear hk);(try clear hi);have p178:0≤(x7_6:Int):=of_decide_eq_true (by first|(with_reducible assumption)|assumption);have q178:x7_6<(l0.length:Int):=of_decide_eq_true (by first|(with_reducible assumption)|assumption);obtain ⟨ad178,e178,hx178_0⟩:=Kd.at_int HR0.out x7_6 p178 q178;obtain rfl:ad168=ad178:=(by injection e178);replace hx178_0:=(HB.out.cell (World.block_lt_of_cell? _ _ hx178_0)).trans hx178_0;replace p178:=eq_true p178;replace q178:=eq_true q178)|(go_at_call 49;(with_reducible refine (spec_l07Picture.calls (rd l0 x7_6) t179 _ A42.out).mono ?_);rintro e w' ⟨rfl,⟨nd,rfl⟩⟩))
                           go_ret
                           exact ⟨by first|rfl|(simp [errW_none,errW_some] <;> rfl)|(simp only [← hji3];first|rfl|(simp [errW_none,errW_some] <;> rfl))|(simp [*,errW_none,errW_some] <;> rfl),by repeat (first|(with_reducible first|exact HB.out|apply below_alloc|apply pw_below_drewN|apply below_drew1)|exact HB.out)⟩
                        ·
                         rw [if_neg c36] at H
                         exact absurd H (by simp)
                       ·
                        rw [if_neg c35] at H
                        exact absurd H (by simp)
                      ·
                       rw [if_neg c34] at H
                       have c34b0:decide (0≤x7_6)=false:=decide_eq_false c34
                       clear c34
                       by_cases c44:x7_6<0
                       ·
                        rw [if_pos c44] at H
                        have c44b0:decide (x7_6<0)=true:=decide_eq_true c44
                        clear c44
                        obtain rfl:=Option.some.inj H
                        go_wp2
                        go_ret
                        exact ⟨by first|rfl|(simp [errW_none,errW_some] <;> rfl)|(simp only [← hji3];first|rfl|(simp [errW_none,errW_some] <;> rfl))|(simp [*,errW_none,errW_some] <;> rfl),by repeat (first|(with_reducible first|exact HB.out|apply below_alloc|apply pw_below_drewN|apply below_drew1)|exact HB.out)⟩
                       ·
                        rw [if_neg c44] at H
                        have c44b0:decide (x7_6<0)=false:=decide_eq_false c44
                        clear c44
                        by_cases c45:0≤x7_6
                        ·
                         rw [if_pos c45] at H
                         have c45b0:decide (0≤x7_6)=true:=decide_eq_true c45
                         exact absurd (c45b0.symm.trans c34b0) (by decide)
                        ·
                         rw [if_neg c45] at H
                         exact absurd H (by simp)
                   ·
                    replace c33:=Bool.eq_false_iff.mpr c33
                    subst c33
                    have H1:((spec_l07Flag.f (rd l0 (ji3))).bind fun t182=>(if t182=true then ((spec_l07Flag.f (rd l0 a1)).bind fun t183=>(if t183=true then ((spec_l07Flags.f kj29 l0 (wrap64 (a1-1))).bind fun t184=>(some ((Int.tmod t184 2) == 0))) else (some true))) else (some true)))=some r:=by rw [if_neg (show ¬ (false=true) by decide)] at H;exact H
                    clear H
                    have H:=H1
                    clear H1
                    replace H:=Option.bind_eq_some_iff.mp H
                    obtain ⟨t182,A480,H⟩:=H
                    replace H:(if t182=true then ((spec_l07Flag.f (rd l0 a1)).bind fun t183=>(if t183=true then ((spec_l07Flags.f kj29 l0 (wrap64 (a1-1))).bind fun t184=>(some ((Int.tmod t184 2) == 0))) else (some true))) else (some true))=some r:=H
                    have A48:=Aside0.mk A480
                    clear A480
                    by_cases c49:t182=true
                    ·
                     subst c49
                     have H1:((spec_l07Flag.f (rd l0 a1)).bind fun t183=>(if t183=true then ((spec_l07Flags.f kj29 l0 (wrap64 (a1-1))).bind fun t184=>(some ((Int.tmod t184 2) == 0))) else (some true)))=some r:=by rw [if_pos rfl] at H;exact H
                     clear H
                     have H:=H1
                     clear H1
                     replace H:=Option.bind_eq_some_iff.mp H
                     obtain ⟨t183,A500,H⟩:=H
                     replace H:(if t183=true then ((spec_l07Flags.f kj29 l0 (wrap64 (a1-1))).bind fun t184=>(some ((Int.tmod t184 2) == 0))) else (some true))=some r:=H
                     have A50:=Aside0.mk A500
                     clear A500
                     by_cases c51:t183=true
                     ·
                      subst c51
                      have H1:((spec_l07Flags.f kj29 l0 (wrap64 (a1-1))).bind fun t184=>(some ((Int.tmod t184 2) == 0)))=some r:=by rw [if_pos rfl] at H;exact H
                      clear H
                      have H:=H1
                      clear H1
                      replace H:=Option.bind_eq_some_iff.mp H
                      obtain ⟨t184,A520,H⟩:=H
                      replace H:(some ((Int.tmod t184 2) == 0))=some r:=H
                      have A52:=Aside0.mk A520
                      clear A520
                      obtain rfl:=Option.some.inj H
                      go_wp2_with (first|((with_reducible refine gate_callee (f:=81) rfl ?_);refine goesL_ (some 84) rfl rfl Tryd.func81 (by kernel_rfl) rfl #[.int .i64 (rd l0 (ji3))] rfl (by (try simp only [List.map_toArray,List.map_cons,List.map_nil]);first|done|(simp only [hji3];rfl)|rfl|(simp only [List.length_drop,List.length_take];rfl)) ?_;(with_reducible refine (spec_l07Flag.calls (rd l0 (ji3)) true _ A48.out).mono ?_);rintro e w' ⟨rfl,⟨nd,rfl⟩⟩;refine ⟨_,rfl,?_⟩)|(go_at_call 81;(with_reducible refine (spec_l07Flag.calls (rd l0 a1) true _ A50.out).mono ?_);rintro e w' ⟨rfl,⟨nd,rfl⟩⟩)|((with_reducible refine gate_callee (f:=82) rfl ?_);refine goesL_ (some 92) rfl rfl Tryd.func82 (by kernel_rfl) rfl #[.slice (some ad168) l0.length c0,.int .i64 ji3] rfl (by (try simp only [List.map_toArray,List.map_cons,List.map_nil]);first|done|rfl|(simp only [List.length_drop,List.length_take];rfl)) ?_;(with_reducible refine (spec_l07Flags.calls kj29 _ _ l0 (ji3) t184 _ ?side1 ?side2 (hji3 ▸ A52.out)).mono ?_);(case side1=>repeat (first|exact (Kd.C_below HR0.out (by repeat (first|(with_reducible first|exact HB.out|apply below_alloc|apply pw_below_drewN|apply below_drew1)|exact HB.out)))|(with_reducible refine Kd.C_alloc ?_ _)|(with_reducible refine Kd.C_drewN ?_ _)|(with_reducible refine Kd.C_drew ?_)));(case side2=>exact HC0.out);rintro e w' ⟨rfl,⟨nd,rfl⟩⟩;refine ⟨_,rfl,?_⟩))
                      go_ret
                      exact ⟨by first|rfl|(simp [errW_none,errW_some] <;> rfl)|(simp only [← hji3];first|rfl|(simp [errW_none,errW_some] <;> rfl))|(simp [*,errW_none,errW_some] <;> rfl),by repeat (first|(with_reducible first|exact HB.out|apply below_alloc|apply pw_below_drewN|apply below_drew1)|exact HB.out)⟩
                     ·
                      replace c51:=Bool.eq_false_iff.mpr c51
                      subst c51
                      have H1:(some true)=some r:=by rw [if_neg (show ¬ (false=true) by decide)] at H;exact H
                      clear H
                      have H:=H1
                      clear H1
                      obtain rfl:=Option.some.inj H
                      go_wp2_with (first|((with_reducible refine gate_callee (f:=81) rfl ?_);refine goesL_ (some 84) rfl rfl Tryd.func81 (by kernel_rfl) rfl #[.int .i64 (rd l0 (ji3))] rfl (by (try simp only [List.map_toArray,List.map_cons,List.map_nil]);first|done|(simp only [hji3];rfl)|rfl|(simp only [List.length_drop,List.length_take];rfl)) ?_;(with_reducible refine (spec_l07Flag.calls (rd l0 (ji3)) true _ A48.out).mono ?_);rintro e w' ⟨rfl,⟨nd,rfl⟩⟩;refine ⟨_,rfl,?_⟩)|(go_at_call 81;(with_reducible refine (spec_l07Flag.calls (rd l0 a1) false _ A50.out).mono ?_);rintro e w' ⟨rfl,⟨nd,rfl⟩⟩))
                      go_ret
                      exact ⟨by first|rfl|(simp [errW_none,errW_some] <;> rfl)|(simp only [← hji3];first|rfl|(simp [errW_none,errW_some] <;> rfl))|(simp [*,errW_none,errW_some] <;> rfl),by repeat (first|(with_reducible first|exact HB.out|apply below_alloc|apply pw_below_drewN|apply below_drew1)|exact HB.out)⟩
                    ·
                     replace c49:=Bool.eq_false_iff.mpr c49
                     subst c49
                     have H1:(some true)=some r:=by rw [if_neg (show ¬ (false=true) by decide)] at H;exact H
                     clear H
                     have H:=H1
                     clear H1
                     obtain rfl:=Option.some.inj H
                     go_wp2_with (first|((with_reducible refine gate_callee (f:=81) rfl ?_);refine goesL_ (some 84) rfl rfl Tryd.func81 (by kernel_rfl) rfl #[.int .i64 (rd l0 (ji3))] rfl (by (try simp only [List.map_toArray,List.map_cons,List.map_nil]);first|done|(simp only [hji3];rfl)|rfl|(simp only [List.length_drop,List.length_take];rfl)) ?_;(with_reducible refine (spec_l07Flag.calls (rd l0 (ji3)) false _ A48.out).mono ?_);rintro e w' ⟨rfl,⟨nd,rfl⟩⟩;refine ⟨_,rfl,?_⟩))
                     go_ret
                     exact ⟨by first|rfl|(simp [errW_none,errW_some] <;> rfl)|(simp only [← hji3];first|rfl|(simp [errW_none,errW_some] <;> rfl))|(simp [*,errW_none,errW_some] <;> rfl),by repeat (first|(with_reducible first|exact HB.out|apply below_alloc|apply pw_below_drewN|apply below_drew1)|exact HB.out)⟩
    ·
     rw [if_neg c7] at H
     exact absurd H (by simp)
   ·
    rw [if_neg c6] at H
    exact absurd H (by simp)
  ·
   rw [if_neg c5] at H
   exact absurd H (by simp)
 ·
  rw [if_neg c4] at H
  exact absurd H (by simp)
def spec_l07Chars.l0:Nat→ByteArray→List Int→Int→List Int→List Int→Option (List Int)
 | 0,_,_,_,_,_=>none
 | k+1,x0,x4,x5,x192000,x192001=>if x5<(x192000.length:Int) then (if x5=0 then (if 0≤x5 then (if x5<(x192001.length:Int) then (if x4.length<17592186044416 then (spec_l07Chars.l0 k x0 (x4 ++ [rd x192001 x5]) (wrap64 (x5+1)) x192000 x192001) else (none)) else (none)) else (none)) else ((spec_l07Char.f k x192000 x5).bind fun t199=>(if t199=true then (if 0≤x5 then (if x5<(x192001.length:Int) then (if x4.length<17592186044416 then (spec_l07Chars.l0 k x0 (x4 ++ [rd x192001 x5]) (wrap64 (x5+1)) x192000 x192001) else (none)) else (none)) else (none)) else (spec_l07Chars.l0 k x0 x4 (wrap64 (x5+1)) x192000 x192001)))) else (if (x0.size:Int)>0 then (if x4.length<17592186044416 then (some (x4 ++ [(x0.size:Int)])) else (none)) else (some x4))
def spec_l07Chars.f (k:Nat) (a0:ByteArray):Option (List Int):=(spec_l07RowOf.f k a0).bind fun bt185=>(spec_l07Chars.l0 k a0 (([]:List Int)) 0 bt185.1 bt185.2)
set_option maxHeartbeats 8000000 in
set_option maxRecDepth 100000 in
theorem spec_l07Chars.calls (k:Nat) (a0:ByteArray) (r:List Int) (w:World) (h:spec_l07Chars.f k a0=some r) :
  Calls Tryd.prog 28 #[.string a0] w fun e w'=>∃ v0_:Value,e = .returned (v0_)∧Kd.R (Kd.int .i64) 2 w' w.heap.size (fun _=>True) v0_ r∧Below w.heap.size w w':=by
 have hu48:=Tryd.underlying48
 have HB:=Aside0.mk (Below.refl w.heap.size w)
 have H:((spec_l07RowOf.f k a0).bind fun bt185=>(spec_l07Chars.l0 k a0 (([]:List Int)) 0 bt185.1 bt185.2))=some r:=h
 clear h
 replace H:=Option.bind_eq_some_iff.mp H
 obtain ⟨⟨t185,t188⟩,A20,H⟩:=H
 replace H:(spec_l07Chars.l0 k a0 (([]:List Int)) 0 t185 t188)=some r:=H
 have A2:=Aside0.mk A20
 clear A20
 obtain ⟨y192,hy192⟩:∃ y_:List Int,y_=(([]:List Int)):=⟨_,rfl⟩
 replace H:(spec_l07Chars.l0 k a0 y192 0 t185 t188)=some r:=by first|(rw [hy192];with_reducible exact H)|(have H2_:=(Option.bind_some _ _).symm.trans H;rw [hy192];with_reducible exact H2_)|(have H2_:=(Option.bind_some _ _).symm.trans H;with_reducible exact H2_)|with_reducible exact H|(rw [hy192];exact H)|exact H
 have Ny192:=Aside0.mk hy192
 clear hy192
 have H':=Aside0.mk H
 clear H
 go_enter Tryd.func28,Tryd.ntmps28
 go_wp2_with (first|((with_reducible refine gate_callee (f:=47) rfl ?_);refine goesL_ (some 7) rfl rfl Tryd.func47 (by kernel_rfl) rfl #[.string a0] rfl (by (try simp only [List.map_toArray,List.map_cons,List.map_nil]);first|done|rfl|(simp only [List.length_drop,List.length_take];rfl)) ?_;(with_reducible refine (spec_l07RowOf.calls k a0 t185 t188 _ A2.out).mono ?_);rintro e w3 ⟨v186,v189,rfl,ho0,ho1,hb⟩;refine ⟨_,rfl,?_⟩;have n0_:=Aside0.mk (Kd.R_lower ho0 (below_size (by repeat (first|(with_reducible first|exact HB.out|apply below_alloc|apply pw_below_drewN|apply below_drew1)|exact HB.out))));have n1_:=Aside0.mk (Kd.R_lower ho1 (below_size (by repeat (first|(with_reducible first|exact HB.out|apply below_alloc|apply pw_below_drewN|apply below_drew1)|exact HB.out))));have n2_:=Aside0.mk (below_step (by repeat (first|(with_reducible first|exact HB.out|apply below_alloc|apply pw_below_drewN|apply below_drew1)|exact HB.out)) hb);clear HB;have HO187:=n0_;have HO190:=n1_;have HB:=n2_;clear n0_ n1_ n2_;(try clear hb);(try clear hb2);(try clear hk);(try clear hi);(try clear ho0);(try clear ho1))|((with_reducible refine gate_dst (N:=3) rfl ?_);refine box_event ?hg (N:=3) ?hd (cs:=#[.slice none 0 0,.slice none 0 0]) (t:=48) ?hr ?_;(case hd=>rfl);(case hg=>rfl);(case hr=>first|(go_simp;done)|(go_simp;rfl));intro gb191 hg w4 hbox hb;have n0_:=Aside0.mk (Kd.R_below (by (with_reducible repeat (first|apply Kd.R_alloc|apply Kd.R_drewN|apply Kd.R_drew));exact HO187.out) hb);have n1_:=Aside0.mk (Kd.R_below (by (with_reducible repeat (first|apply Kd.R_alloc|apply Kd.R_drewN|apply Kd.R_drew));exact HO190.out) hb);have n2_:=Aside0.mk (below_step (by repeat (first|(with_reducible first|exact HB.out|apply below_alloc|apply pw_below_drewN|apply below_drew1)|exact HB.out)) hb);have n3_:=Aside0.mk (hbox);have n4_:=Aside0.mk ((by rw [hg];exact (below_size (by repeat (first|(with_reducible first|exact HB.out|apply below_alloc|apply pw_below_drewN|apply below_drew1)|exact HB.out))):w.heap.size≤gb191));have n5_:=Aside0.mk ((by rw [hg];exact (below_size (by repeat (first|(with_reducible first|exact HB.out|apply below_alloc|apply pw_below_drewN|apply below_drew1)|exact HB.out))):w.heap.size≤gb191));clear HO187;clear HO190;clear HB;have HO187:=n0_;have HO190:=n1_;have HB:=n2_;have BK191:=n3_;have GW191:=n4_;have GE191:=n5_;clear n0_ n1_ n2_ n3_ n4_ n5_;clear hb hbox hg;obtain ⟨Ao5,co5,eo5⟩:=Kd.R_slice HO187.out;subst eo5;have hcz6_0:w4.cell? ⟨gb191,0,none⟩=some (.slice none 0 0):=(blk_cell BK191.out 0).trans rfl;have hcz6_1:w4.cell? ⟨gb191,1,none⟩=some (.slice none 0 0):=(blk_cell BK191.out 1).trans rfl;have hfz6_0:=blk_frozen BK191.out 0;have hfz6_1:=blk_frozen BK191.out 1;obtain ⟨Ao7,co7,eo7⟩:=Kd.R_slice HO190.out;subst eo7)|((with_reducible refine gate_dst (N:=8) rfl ?_);refine Kd.R_lit (Kd.int .i64) _ 2 ?hg (N:=8) ?hd (xs:=([]:List Int)) (inner:=[]) (ok:=fun _=>True) (okp:=fun _=>True) ?hr ?hp (fun _ hk=>hk) trivial (Below.refl _ _) (Nat.le_refl _) (by simp) ?_;(case hd=>rfl);(case hg=>rfl);(case hr=>first|(go_simp;done)|(go_simp;rfl));(case hp=>exact (Reps.none _ _));intro v193 w8 ho9 hb hg_ hnew_;clear hg_ hnew_;(first|rw [← Ny192.out] at ho9|(simp only [Int.reduceToNat] at ho9;rw [← Ny192.out] at ho9));have n0_:=Aside0.mk (Kd.R_elder' (by (with_reducible repeat (first|apply Kd.R_alloc|apply Kd.R_drewN|apply Kd.R_drew));exact (Kd.R_mono (Kd.R_far (p:=⟨gb191,1,none⟩) (Kd.R_far (p:=⟨gb191,0,none⟩) (Kd.R_types HO187.out BK191.out (by decide)) (fun _ hk=>hk.2) (.slice Ao5 t185.length co5)) (fun _ hk=>hk.2) (.slice Ao7 t188.length co7)) (fun _ h_=>h_.1))) (Kd.R_base ho9) hb);have n1_:=Aside0.mk (Kd.R_elder' (by (with_reducible repeat (first|apply Kd.R_alloc|apply Kd.R_drewN|apply Kd.R_drew));exact (Kd.R_mono (Kd.R_far (p:=⟨gb191,1,none⟩) (Kd.R_far (p:=⟨gb191,0,none⟩) (Kd.R_types HO190.out BK191.out (by decide)) (fun _ hk=>hk.2) (.slice Ao5 t185.length co5)) (fun _ hk=>hk.2) (.slice Ao7 t188.length co7)) (fun _ h_=>h_.1))) (Kd.R_base ho9) hb);have n2_:=Aside0.mk (Kd.R_lower (Kd.R_new' (Kd.R_new' ho9 (Kd.R_lt (by (with_reducible repeat (first|apply Kd.R_alloc|apply Kd.R_drewN|apply Kd.R_drew));exact (Kd.R_mono (Kd.R_far (p:=⟨gb191,1,none⟩) (Kd.R_far (p:=⟨gb191,0,none⟩) (Kd.R_types HO187.out BK191.out (by decide)) (fun _ hk=>hk.2) (.slice Ao5 t185.length co5)) (fun _ hk=>hk.2) (.slice Ao7 t188.length co7)) (fun _ h_=>h_.1))))) (Kd.R_lt (by (with_reducible repeat (first|apply Kd.R_alloc|apply Kd.R_drewN|apply Kd.R_drew));exact (Kd.R_mono (Kd.R_far (p:=⟨gb191,1,none⟩) (Kd.R_far (p:=⟨gb191,0,none⟩) (Kd.R_types HO190.out BK191.out (by decide)) (fun _ hk=>hk.2) (.slice Ao5 t185.length co5)) (fun _ hk=>hk.2) (.slice Ao7 t188.length co7)) (fun _ h_=>h_.1))))) (below_size (by repeat (first|(with_reducible first|exact HB.out|apply below_alloc|apply pw_below_drewN|apply below_drew1|refine below_set ?_ GE191.out)|exact HB.out))));have n3_:=Aside0.mk (blk_below (g:=gb191) (o:=.cells #[.slice Ao5 t185.length co5,.slice Ao7 t188.length co7] 48 (0,0)) (by (with_reducible repeat (first|refine blk_drewN ?_ _|refine blk_drew ?_|refine blk_alloc ?_ _));refine blk_put (cs:=#[.slice Ao5 t185.length co5,.slice none 0 0]) ?_ 1 _ rfl;(with_reducible repeat (first|refine blk_drewN ?_ _|refine blk_drew ?_|refine blk_alloc ?_ _));refine blk_put (cs:=#[.slice none 0 0,.slice none 0 0]) ?_ 0 _ rfl;(with_reducible repeat (first|refine blk_drewN ?_ _|refine blk_drew ?_|refine blk_alloc ?_ _));exact BK191.out) hb);have n4_:=Aside0.mk (below_step (by repeat (first|(with_reducible first|exact HB.out|apply below_alloc|apply pw_below_drewN|apply below_drew1|refine below_set ?_ GE191.out)|exact HB.out)) hb);clear HO187;clear HO190;clear BK191;clear HB;have HO187:=n0_;have HO190:=n1_;have HO194:=n2_;have BK191:=n3_;have HB:=n4_;clear n0_ n1_ n2_ n3_ n4_;clear hb ho9))
 go_loopg [4,5] k (fun kq v4 v5 w'=>∃ (x4_1:List Int) (x5_1:Int),v5 = .int .i64 x5_1∧Aside0 (spec_l07Chars.l0 kq a0 x4_1 x5_1 t185 t188=some r)∧Aside0 (kq≤k)∧Aside0 (Kd.R (Kd.int .i64) 2 w' w.heap.size (fun k_=>some k_≠((.slice Ao5 t185.length co5):Value).ownBlock∧some k_≠((.slice Ao7 t188.length co7):Value).ownBlock) v4 x4_1)∧Aside0 (Kd.R (Kd.int .i64) 2 w' w.heap.size (fun k_=>some k_≠(v4:Value).ownBlock∧some k_≠((.slice Ao7 t188.length co7):Value).ownBlock) (.slice Ao5 t185.length co5) t185)∧Aside0 (Kd.R (Kd.int .i64) 2 w' w.heap.size (fun k_=>some k_≠(v4:Value).ownBlock∧some k_≠((.slice Ao5 t185.length co5):Value).ownBlock) (.slice Ao7 t188.length co7) t188)∧Aside0 (w'.heap[gb191]? = some (.cells #[(.slice Ao5 t185.length co5),(.slice Ao7 t188.length co7)] 48 (0,0)))∧Aside0 (Below w.heap.size w w'))
 case atStart=>exact ⟨(y192),(0),(by first|rfl|(simp;done)|(simp [*];done)),H',⟨Nat.le_refl _⟩,⟨by (with_reducible repeat (first|apply Kd.R_alloc|apply Kd.R_drewN|apply Kd.R_drew));exact Kd.R_mono HO194.out (fun _ hk=>⟨hk.1.2,hk.2⟩)⟩,⟨by (with_reducible repeat (first|apply Kd.R_alloc|apply Kd.R_drewN|apply Kd.R_drew));exact Kd.R_mono HO187.out (fun _ hk=>⟨hk.2,hk.1⟩)⟩,⟨by (with_reducible repeat (first|apply Kd.R_alloc|apply Kd.R_drewN|apply Kd.R_drew));exact Kd.R_mono HO190.out (fun _ hk=>⟨hk.2,hk.1⟩)⟩,⟨by (with_reducible repeat (first|refine blk_drewN ?_ _|refine blk_drew ?_|refine blk_alloc ?_ _));exact BK191.out⟩,⟨by repeat (first|(with_reducible first|exact HB.out|apply below_alloc|apply pw_below_drewN|apply below_drew1|refine below_set ?_ GE191.out)|exact HB.out)⟩⟩
 case round =>
  clear H'
  try clear c2
  try clear p2
  try clear c4
  try clear hcz6_0
  try clear hcz6_1
  try clear hfz6_0
  try clear hfz6_1
  obtain ⟨x4_1,x5_1,rfl,HA,HK1,HO_4,HO_192000,HO_192001,BK191,HB⟩:=hrel
  cases gk with
  | zero=>exact absurd HA.out (by simp [spec_l07Chars.l0])
  | succ k1 =>
   have H:=HA.out
   clear HA
   simp only [spec_l07Chars.l0] at H
   by_cases c10:x5_1<(t185.length:Int)
   ·
    rw [if_pos c10] at H
    have c10b0:decide (x5_1<(t185.length:Int))=true:=decide_eq_true c10
    clear c10
    by_cases c11:x5_1=0
    ·
     rw [if_pos c11] at H
     have c11b0:(x5_1 == 0)=true:=beq_iff_eq.mpr c11
     have c11b1:(x5_1 != 0)=false:=bne_eq_false_iff_eq.mpr c11
     clear c11
     by_cases c12:0≤x5_1
     ·
      rw [if_pos c12] at H
      have c12b0:decide (0≤x5_1)=true:=decide_eq_true c12
      clear c12
      by_cases c13:x5_1<(t188.length:Int)
      ·
       rw [if_pos c13] at H
       have c13b0:decide (x5_1<(t188.length:Int))=true:=decide_eq_true c13
       clear c13
       by_cases c14:x4_1.length<17592186044416
       ·
        rw [if_pos c14] at H
        have LMc14:=Aside0.mk c14
        clear c14
        obtain ⟨y196,hy196⟩:∃ y_:List Int,y_=(x4_1 ++ [rd t188 x5_1]):=⟨_,rfl⟩
        replace H:(spec_l07Chars.l0 k1 a0 y196 (wrap64 (x5_1+1)) t185 t188)=some r:=by first|(rw [hy196];with_reducible exact H)|(have H2_:=(Option.bind_some _ _).symm.trans H;rw [hy196];with_reducible exact H2_)|(have H2_:=(Option.bind_some _ _).symm.trans H;with_reducible exact H2_)|with_reducible exact H|(rw [hy196];exact H)|exact H
        have Ny196:=Aside0.mk hy196
        clear hy196
        have H':=Aside0.mk H
        clear H
        have hcz15_0:wr.cell? ⟨gb191,0,none⟩=some (.slice Ao5 t185.length co5):=(blk_cell BK191.out 0).trans rfl
        have hcz15_1:wr.cell? ⟨gb191,1,none⟩=some (.slice Ao7 t188.length co7):=(blk_cell BK191.out 1).trans rfl
        have hfz15_0:=blk_frozen BK191.out 0
        have hfz15_1:=blk_frozen BK191.out 1
        have p195:0≤(x5_1:Int):=of_decide_eq_true (by first|(with_reducible assumption)|assumption)
        have q195:x5_1<(t188.length:Int):=of_decide_eq_true (by first|(with_reducible assumption)|assumption)
        obtain ⟨ad195,e195,hx195_0⟩:=Kd.at_int (Kd.R_reads' HO_192001.out).2.2 x5_1 p195 q195
        cases e195
        replace p195:=eq_true p195
        replace q195:=eq_true q195
        go_wp2_with (first|((with_reducible refine gate_builtin (b:=.append) (xs:=#[.tmp 24,.tmp 30]) rfl ?_);at_builtin;refine Kd.R_append (Kd.int .i64) (w0:=w) w.heap.size rfl (.tmp 24) (.tmp 30) 27 2 (.int .i64 0) 8 rfl Tryd.underlying27 info2 rfl (by decide) (by omega) u4 x4_1 (rd t188 x5_1) [.int .i64 (rd t188 x5_1)] (fun k_=>some k_≠(.slice Ao5 t185.length co5:Value).ownBlock∧some k_≠(.slice (some ad195) t188.length co7:Value).ownBlock) (fun _=>False) rfl rfl ?aP (fun _ hk=>hk.elim) ?aF ?aO ?aB ?aS ?aL ?_;(case aP=>exact rfl);(case aB=>exact (by repeat (first|(with_reducible first|exact HB.out|apply below_alloc|apply pw_below_drewN|apply below_drew1|refine below_set ?_ GE191.out)|exact HB.out)));(case aF=>exact (fun k_ hk=>⟨Kd.fresh' (Kd.R_lt (by (with_reducible repeat (first|apply Kd.R_alloc|apply Kd.R_drewN|apply Kd.R_drew));exact HO_192000.out)) k_ hk,Kd.fresh' (Kd.R_lt (by (with_reducible repeat (first|apply Kd.R_alloc|apply Kd.R_drewN|apply Kd.R_drew));exact HO_192001.out)) k_ hk⟩));(case aO=>exact (by (with_reducible repeat (first|apply Kd.R_alloc|apply Kd.R_drewN|apply Kd.R_drew));exact HO_4.out));(case aS=>exact (below_size (by repeat (first|(with_reducible first|exact HB.out|apply below_alloc|apply pw_below_drewN|apply below_drew1|refine below_set ?_ GE191.out)|exact HB.out))));(case aL=>have:=LMc14.out;omega);intro v197 w16 ho hb hg hat;rw [← Ny196.out] at ho;have n0_:=Aside0.mk (Kd.R_after (ok:=(fun k_=>some k_≠(.slice (some ad195) t188.length co7:Value).ownBlock)) (by (with_reducible repeat (first|apply Kd.R_alloc|apply Kd.R_drewN|apply Kd.R_drew));exact Kd.R_mono HO_192000.out (fun _ hk=>⟨hk.2,hk.1⟩)) hg hat);have n1_:=Aside0.mk (Kd.R_after (ok:=(fun k_=>some k_≠(.slice Ao5 t185.length co5:Value).ownBlock)) (by (with_reducible repeat (first|apply Kd.R_alloc|apply Kd.R_drewN|apply Kd.R_drew));exact Kd.R_mono HO_192001.out (fun _ hk=>⟨hk.2,hk.1⟩)) hg hat);have n2_:=Aside0.mk (blk_grown (g:=gb191) (o:=.cells #[.slice Ao5 t185.length co5,.slice (some ad195) t188.length co7] 48 (0,0)) (by (with_reducible repeat (first|refine blk_drewN ?_ _|refine blk_drew ?_|refine blk_alloc ?_ _));exact BK191.out) hg (Kd.R_ne HO_4.out BK191.out (by decide)));have n3_:=Aside0.mk (hb);have n4_:=Aside0.mk (ho);clear HO_192000;clear HO_192001;clear BK191;clear HB;clear HO_4;have HO_192000:=n0_;have HO_192001:=n1_;have BK191:=n2_;have HB:=n3_;have HO198:=n4_;clear n0_ n1_ n2_ n3_ n4_;clear ho hb hg hat))
        go_roundg k1
        case measure=>have:=HK1.out;omega
        case rel=>exact ⟨(y196),(wrap64 (x5_1+1)),(by first|rfl|(simp;done)|(simp [*];done)),H',⟨by have:=HK1.out;omega⟩,⟨by (with_reducible repeat (first|apply Kd.R_alloc|apply Kd.R_drewN|apply Kd.R_drew));exact HO198.out⟩,⟨by (with_reducible repeat (first|apply Kd.R_alloc|apply Kd.R_drewN|apply Kd.R_drew));exact Kd.R_mono HO_192000.out (fun _ hk=>⟨hk.2,hk.1⟩)⟩,⟨by (with_reducible repeat (first|apply Kd.R_alloc|apply Kd.R_drewN|apply Kd.R_drew));exact Kd.R_mono HO_192001.out (fun _ hk=>⟨hk.2,hk.1⟩)⟩,⟨by (with_reducible repeat (first|refine blk_drewN ?_ _|refine blk_drew ?_|refine blk_alloc ?_ _));exact BK191.out⟩,⟨by repeat (first|(with_reducible first|exact HB.out|apply below_alloc|apply pw_below_drewN|apply below_drew1|refine below_set ?_ GE191.out)|exact HB.out)⟩⟩
       ·
        rw [if_neg c14] at H
        exact absurd H (by simp)
      ·
       rw [if_neg c13] at H
       exact absurd H (by simp)
     ·
      rw [if_neg c12] at H
      exact absurd H (by simp)
    ·
     rw [if_neg c11] at H
     have c11b0:(x5_1 == 0)=false:=beq_eq_false_iff_ne.mpr c11
     have c11b1:(x5_1 != 0)=true:=bne_iff_ne.mpr c11
     replace H:=Option.bind_eq_some_iff.mp H
     obtain ⟨t199,A170,H⟩:=H
     replace H:(if t199=true then (if 0≤x5_1 then (if x5_1<(t188.length:Int) then (if x4_1.length<17592186044416 then (spec_l07Chars.l0 k1 a0 (x4_1 ++ [rd t188 x5_1]) (wrap64 (x5_1+1)) t185 t188) else (none)) else (none)) else (none)) else (spec_l07Chars.l0 k1 a0 x4_1 (wrap64 (x5_1+1)) t185 t188))=some r:=H
     have A17:=Aside0.mk A170
     clear A170
     by_cases c18:t199=true
     ·
      subst c18
      have H1:(if 0≤x5_1 then (if x5_1<(t188.length:Int) then (if x4_1.length<17592186044416 then (spec_l07Chars.l0 k1 a0 (x4_1 ++ [rd t188 x5_1]) (wrap64 (x5_1+1)) t185 t188) else (none)) else (none)) else (none))=some r:=by rw [if_pos rfl] at H;exact H
      clear H
      have H:=H1
      clear H1
      by_cases c19:0≤x5_1
      ·
       rw [if_pos c19] at H
       have c19b0:decide (0≤x5_1)=true:=decide_eq_true c19
       clear c19
       by_cases c20:x5_1<(t188.length:Int)
       ·
        rw [if_pos c20] at H
        have c20b0:decide (x5_1<(t188.length:Int))=true:=decide_eq_true c20
        clear c20
        by_cases c21:x4_1.length<17592186044416
        ·
         rw [if_pos c21] at H
         have LMc21:=Aside0.mk c21
         clear c21
         obtain ⟨y201,hy201⟩:∃ y_:List Int,y_=(x4_1 ++ [rd t188 x5_1]):=⟨_,rfl⟩
         replace H:(spec_l07Chars.l0 k1 a0 y201 (wrap64 (x5_1+1)) t185 t188)=some r:=by first|(rw [hy201];with_reducible exact H)|(have H2_:=(Option.bind_some _ _).symm.trans H;rw [hy201];with_reducible exact H2_)|(have H2_:=(Option.bind_some _ _).symm.trans H;with_reducible exact H2_)|with_reducible exact H|(rw [hy201];exact H)|exact H
         have Ny201:=Aside0.mk hy201
         clear hy201
         have H':=Aside0.mk H
         clear H
         have hcz22_0:wr.cell? ⟨gb191,0,none⟩=some (.slice Ao5 t185.length co5):=(blk_cell BK191.out 0).trans rfl
         have hcz22_1:wr.cell? ⟨gb191,1,none⟩=some (.slice Ao7 t188.length co7):=(blk_cell BK191.out 1).trans rfl
         have hfz22_0:=blk_frozen BK191.out 0
         have hfz22_1:=blk_frozen BK191.out 1
         go_wp2_with (first|(go_at_call 48;(with_reducible refine (spec_l07Char.calls k1 _ _ t185 x5_1 true _ ?side1 ?side2 A17.out).mono ?_);(case side1=>repeat (first|exact (Kd.R_reads' HO_192000.out).2.2|(with_reducible refine Kd.C_alloc ?_ _)|(with_reducible refine Kd.C_drewN ?_ _)|(with_reducible refine Kd.C_drew ?_)));(case side2=>exact (Kd.R_reads' HO_192000.out).2.1);rintro e w23 ⟨rfl,hb⟩;have n0_:=Aside0.mk (Kd.R_below (by (with_reducible repeat (first|apply Kd.R_alloc|apply Kd.R_drewN|apply Kd.R_drew));exact HO_4.out) hb);have n1_:=Aside0.mk (Kd.R_below (by (with_reducible repeat (first|apply Kd.R_alloc|apply Kd.R_drewN|apply Kd.R_drew));exact HO_192000.out) hb);have n2_:=Aside0.mk (Kd.R_below (by (with_reducible repeat (first|apply Kd.R_alloc|apply Kd.R_drewN|apply Kd.R_drew));exact HO_192001.out) hb);have n3_:=Aside0.mk (blk_below (g:=gb191) (o:=.cells #[.slice Ao5 t185.length co5,.slice Ao7 t188.length co7] 48 (0,0)) (by (with_reducible repeat (first|refine blk_drewN ?_ _|refine blk_drew ?_|refine blk_alloc ?_ _));exact BK191.out) hb);have n4_:=Aside0.mk (below_step (by repeat (first|(with_reducible first|exact HB.out|apply below_alloc|apply pw_below_drewN|apply below_drew1|refine below_set ?_ GE191.out)|exact HB.out)) hb);clear HO_4;clear HO_192000;clear HO_192001;clear BK191;clear HB;have HO_4:=n0_;have HO_192000:=n1_;have HO_192001:=n2_;have BK191:=n3_;have HB:=n4_;clear n0_ n1_ n2_ n3_ n4_;(try clear hb);(try clear hb2);(try clear hk);(try clear hi);have hcz24_0:w23.cell? ⟨gb191,0,none⟩=some (.slice Ao5 t185.length co5):=(blk_cell BK191.out 0).trans rfl;have hcz24_1:w23.cell? ⟨gb191,1,none⟩=some (.slice Ao7 t188.length co7):=(blk_cell BK191.out 1).trans rfl;have hfz24_0:=blk_frozen BK191.out 0;have hfz24_1:=blk_frozen BK191.out 1;have p200:0≤(x5_1:Int):=of_decide_eq_true (by first|(with_reducible assumption)|assumption);have q200:x5_1<(t188.length:Int):=of_decide_eq_true (by first|(with_reducible assumption)|assumption);obtain ⟨ad200,e200,hx200_0⟩:=Kd.at_int (Kd.R_reads' HO_192001.out).2.2 x5_1 p200 q200;cases e200;replace p200:=eq_true p200;replace q200:=eq_true q200)|((with_reducible refine gate_builtin (b:=.append) (xs:=#[.tmp 24,.tmp 30]) rfl ?_);at_builtin;refine Kd.R_append (Kd.int .i64) (w0:=w) w.heap.size rfl (.tmp 24) (.tmp 30) 27 2 (.int .i64 0) 8 rfl Tryd.underlying27 info2 rfl (by decide) (by omega) u4 x4_1 (rd t188 x5_1) [.int .i64 (rd t188 x5_1)] (fun k_=>some k_≠(.slice Ao5 t185.length co5:Value).ownBlock∧some k_≠(.slice (some ad200) t188.length co7:Value).ownBlock) (fun _=>False) rfl rfl ?aP (fun _ hk=>hk.elim) ?aF ?aO ?aB ?aS ?aL ?_;(case aP=>exact rfl);(case aB=>exact (by repeat (first|(with_reducible first|exact HB.out|apply below_alloc|apply pw_below_drewN|apply below_drew1|refine below_set ?_ GE191.out)|exact HB.out)));(case aF=>exact (fun k_ hk=>⟨Kd.fresh' (Kd.R_lt (by (with_reducible repeat (first|apply Kd.R_alloc|apply Kd.R_drewN|apply Kd.R_drew));exact HO_192000.out)) k_ hk,Kd.fresh' (Kd.R_lt (by (with_reducible repeat (first|apply Kd.R_alloc|apply Kd.R_drewN|apply Kd.R_drew));exact HO_192001.out)) k_ hk⟩));(case aO=>exact (by (with_reducible repeat (first|apply Kd.R_alloc|apply Kd.R_drewN|apply Kd.R_drew));exact HO_4.out));(case aS=>exact (below_size (by repeat (first|(with_reducible first|exact HB.out|apply below_alloc|apply pw_below_drewN|apply below_drew1|refine below_set ?_ GE191.out)|exact HB.out))));(case aL=>have:=LMc21.out;omega);intro v202 w25 ho hb hg hat;rw [← Ny201.out] at ho;have n0_:=Aside0.mk (Kd.R_after (ok:=(fun k_=>some k_≠(.slice (some ad200) t188.length co7:Value).ownBlock)) (by (with_reducible repeat (first|apply Kd.R_alloc|apply Kd.R_drewN|apply Kd.R_drew));exact Kd.R_mono HO_192000.out (fun _ hk=>⟨hk.2,hk.1⟩)) hg hat);have n1_:=Aside0.mk (Kd.R_after (ok:=(fun k_=>some k_≠(.slice Ao5 t185.length co5:Value).ownBlock)) (by (with_reducible repeat (first|apply Kd.R_alloc|apply Kd.R_drewN|apply Kd.R_drew));exact Kd.R_mono HO_192001.out (fun _ hk=>⟨hk.2,hk.1⟩)) hg hat);have n2_:=Aside0.mk (blk_grown (g:=gb191) (o:=.cells #[.slice Ao5 t185.length co5,.slice (some ad200) t188.length co7] 48 (0,0)) (by (with_reducible repeat (first|refine blk_drewN ?_ _|refine blk_drew ?_|refine blk_alloc ?_ _));exact BK191.out) hg (Kd.R_ne HO_4.out BK191.out (by decide)));have n3_:=Aside0.mk (hb);have n4_:=Aside0.mk (ho);clear HO_192000;clear HO_192001;clear BK191;clear HB;clear HO_4;have HO_192000:=n0_;have HO_192001:=n1_;have BK191:=n2_;have HB:=n3_;have HO203:=n4_;clear n0_ n1_ n2_ n3_ n4_;clear ho hb hg hat))
         go_roundg k1
         case measure=>have:=HK1.out;omega
         case rel=>exact ⟨(y201),(wrap64 (x5_1+1)),(by first|rfl|(simp;done)|(simp [*];done)),H',⟨by have:=HK1.out;omega⟩,⟨by (with_reducible repeat (first|apply Kd.R_alloc|apply Kd.R_drewN|apply Kd.R_drew));exact HO203.out⟩,⟨by (with_reducible repeat (first|apply Kd.R_alloc|apply Kd.R_drewN|apply Kd.R_drew));exact Kd.R_mono HO_192000.out (fun _ hk=>⟨hk.2,hk.1⟩)⟩,⟨by (with_reducible repeat (first|apply Kd.R_alloc|apply Kd.R_drewN|apply Kd.R_drew));exact Kd.R_mono HO_192001.out (fun _ hk=>⟨hk.2,hk.1⟩)⟩,⟨by (with_reducible repeat (first|refine blk_drewN ?_ _|refine blk_drew ?_|refine blk_alloc ?_ _));exact BK191.out⟩,⟨by repeat (first|(with_reducible first|exact HB.out|apply below_alloc|apply pw_below_drewN|apply below_drew1|refine below_set ?_ GE191.out)|exact HB.out)⟩⟩
        ·
         rw [if_neg c21] at H
         exact absurd H (by simp)
       ·
        rw [if_neg c20] at H
        exact absurd H (by simp)
      ·
       rw [if_neg c19] at H
       exact absurd H (by simp)
     ·
      replace c18:=Bool.eq_false_iff.mpr c18
      subst c18
      have H1:(spec_l07Chars.l0 k1 a0 x4_1 (wrap64 (x5_1+1)) t185 t188)=some r:=by rw [if_neg (show ¬ (false=true) by decide)] at H;exact H
      clear H
      have H:=H1
      clear H1
      have H':=Aside0.mk H
      clear H
      have hcz26_0:wr.cell? ⟨gb191,0,none⟩=some (.slice Ao5 t185.length co5):=(blk_cell BK191.out 0).trans rfl
      have hcz26_1:wr.cell? ⟨gb191,1,none⟩=some (.slice Ao7 t188.length co7):=(blk_cell BK191.out 1).trans rfl
      have hfz26_0:=blk_frozen BK191.out 0
      have hfz26_1:=blk_frozen BK191.out 1
      go_wp2_with (first|(go_at_call 48;(with_reducible refine (spec_l07Char.calls k1 _ _ t185 x5_1 false _ ?side1 ?side2 A17.out).mono ?_);(case side1=>repeat (first|exact (Kd.R_reads' HO_192000.out).2.2|(with_reducible refine Kd.C_alloc ?_ _)|(with_reducible refine Kd.C_drewN ?_ _)|(with_reducible refine Kd.C_drew ?_)));(case side2=>exact (Kd.R_reads' HO_192000.out).2.1);rintro e w27 ⟨rfl,hb⟩;have n0_:=Aside0.mk (Kd.R_below (by (with_reducible repeat (first|apply Kd.R_alloc|apply Kd.R_drewN|apply Kd.R_drew));exact HO_4.out) hb);have n1_:=Aside0.mk (Kd.R_below (by (with_reducible repeat (first|apply Kd.R_alloc|apply Kd.R_drewN|apply Kd.R_drew));exact HO_192000.out) hb);have n2_:=Aside0.mk (Kd.R_below (by (with_reducible repeat (first|apply Kd.R_alloc|apply Kd.R_drewN|apply Kd.R_drew));exact HO_192001.out) hb);have n3_:=Aside0.mk (blk_below (g:=gb191) (o:=.cells #[.slice Ao5 t185.length co5,.slice Ao7 t188.length co7] 48 (0,0)) (by (with_reducible repeat (first|refine blk_drewN ?_ _|refine blk_drew ?_|refine blk_alloc ?_ _));exact BK191.out) hb);have n4_:=Aside0.mk (below_step (by repeat (first|(with_reducible first|exact HB.out|apply below_alloc|apply pw_below_drewN|apply below_drew1|refine below_set ?_ GE191.out)|exact HB.out)) hb);clear HO_4;clear HO_192000;clear HO_192001;clear BK191;clear HB;have HO_4:=n0_;have HO_192000:=n1_;have HO_192001:=n2_;have BK191:=n3_;have HB:=n4_;clear n0_ n1_ n2_ n3_ n4_;(try clear hb);(try clear hb2);(try clear hk);(try clear hi)))
      go_roundg k1
      case measure=>have:=HK1.out;omega
      case rel=>exact ⟨(x4_1),(wrap64 (x5_1+1)),(by first|rfl|(simp;done)|(simp [*];done)),H',⟨by have:=HK1.out;omega⟩,⟨by (with_reducible repeat (first|apply Kd.R_alloc|apply Kd.R_drewN|apply Kd.R_drew));exact HO_4.out⟩,⟨by (with_reducible repeat (first|apply Kd.R_alloc|apply Kd.R_drewN|apply Kd.R_drew));exact HO_192000.out⟩,⟨by (with_reducible repeat (first|apply Kd.R_alloc|apply Kd.R_drewN|apply Kd.R_drew));exact HO_192001.out⟩,⟨by (with_reducible repeat (first|refine blk_drewN ?_ _|refine blk_drew ?_|refine blk_alloc ?_ _));exact BK191.out⟩,⟨by repeat (first|(with_reducible first|exact HB.out|apply below_alloc|apply pw_below_drewN|apply below_drew1|refine below_set ?_ GE191.out)|exact HB.out)⟩⟩
   ·
    rw [if_neg c10] at H
    have c10b0:decide (x5_1<(t185.length:Int))=false:=decide_eq_false c10
    clear c10
    by_cases c28:(a0.size:Int)>0
    ·
     rw [if_pos c28] at H
     have c28b0:decide (0<(a0.size:Int))=true:=decide_eq_true c28
     have c28b1:decide (0<a0.size)=true:=decide_eq_true (by omega)
     clear c28
     by_cases c29:x4_1.length<17592186044416
     ·
      rw [if_pos c29] at H
      have LMc29:=Aside0.mk c29
      clear c29
      obtain ⟨y204,hy204⟩:∃ y_:List Int,y_=(x4_1 ++ [(a0.size:Int)]):=⟨_,rfl⟩
      replace H:(some y204)=some r:=by first|(rw [hy204];with_reducible exact H)|(have H2_:=(Option.bind_some _ _).symm.trans H;rw [hy204];with_reducible exact H2_)|(have H2_:=(Option.bind_some _ _).symm.trans H;with_reducible exact H2_)|with_reducible exact H|(rw [hy204];exact H)|exact H
      have Ny204:=Aside0.mk hy204
      clear hy204
      obtain rfl:=Option.some.inj H
      have hcz30_0:wr.cell? ⟨gb191,0,none⟩=some (.slice Ao5 t185.length co5):=(blk_cell BK191.out 0).trans rfl
      have hcz30_1:wr.cell? ⟨gb191,1,none⟩=some (.slice Ao7 t188.length co7):=(blk_cell BK191.out 1).trans rfl
      have hfz30_0:=blk_frozen BK191.out 0
      have hfz30_1:=blk_frozen BK191.out 1
      go_wp2_with (first|((with_reducible refine gate_builtin (b:=.append) (xs:=#[.tmp 35,.tmp 38]) rfl ?_);at_builtin;refine Kd.R_append (Kd.int .i64) (w0:=w) w.heap.size rfl (.tmp 35) (.tmp 38) 27 2 (.int .i64 0) 8 rfl Tryd.underlying27 info2 rfl (by decide) (by omega) u4 x4_1 (a0.size:Int) [.int .i64 (a0.size:Int)] (fun k_=>some k_≠(.slice Ao5 t185.length co5:Value).ownBlock∧some k_≠(.slice Ao7 t188.length co7:Value).ownBlock) (fun _=>False) rfl rfl ?aP (fun _ hk=>hk.elim) ?aF ?aO ?aB ?aS ?aL ?_;(case aP=>exact rfl);(case aB=>exact (by repeat (first|(with_reducible first|exact HB.out|apply below_alloc|apply pw_below_drewN|apply below_drew1|refine below_set ?_ GE191.out)|exact HB.out)));(case aF=>exact (fun k_ hk=>⟨Kd.fresh' (Kd.R_lt (by (with_reducible repeat (first|apply Kd.R_alloc|apply Kd.R_drewN|apply Kd.R_drew));exact HO_192000.out)) k_ hk,Kd.fresh' (Kd.R_lt (by (with_reducible repeat (first|apply Kd.R_alloc|apply Kd.R_drewN|apply Kd.R_drew));exact HO_192001.out)) k_ hk⟩));(case aO=>exact (by (with_reducible repeat (first|apply Kd.R_alloc|apply Kd.R_drewN|apply Kd.R_drew));exact HO_4.out));(case aS=>exact (below_size (by repeat (first|(with_reducible first|exact HB.out|apply below_alloc|apply pw_below_drewN|apply below_drew1|refine below_set ?_ GE191.out)|exact HB.out))));(case aL=>have:=LMc29.out;omega);intro v205 w31 ho hb hg hat;rw [← Ny204.out] at ho;have n0_:=Aside0.mk (Kd.R_after (ok:=(fun k_=>some k_≠(.slice Ao7 t188.length co7:Value).ownBlock)) (by (with_reducible repeat (first|apply Kd.R_alloc|apply Kd.R_drewN|apply Kd.R_drew));exact Kd.R_mono HO_192000.out (fun _ hk=>⟨hk.2,hk.1⟩)) hg hat);have n1_:=Aside0.mk (Kd.R_after (ok:=(fun k_=>some k_≠(.slice Ao5 t185.length co5:Value).ownBlock)) (by (with_reducible repeat (first|apply Kd.R_alloc|apply Kd.R_drewN|apply Kd.R_drew));exact Kd.R_mono HO_192001.out (fun _ hk=>⟨hk.2,hk.1⟩)) hg hat);have n2_:=Aside0.mk (blk_grown (g:=gb191) (o:=.cells #[.slice Ao5 t185.length co5,.slice Ao7 t188.length co7] 48 (0,0)) (by (with_reducible repeat (first|refine blk_drewN ?_ _|refine blk_drew ?_|refine blk_alloc ?_ _));exact BK191.out) hg (Kd.R_ne HO_4.out BK191.out (by decide)));have n3_:=Aside0.mk (hb);have n4_:=Aside0.mk (ho);clear HO_192000;clear HO_192001;clear BK191;clear HB;clear HO_4;have HO_192000:=n0_;have HO_192001:=n1_;have BK191:=n2_;have HB:=n3_;have HO206:=n4_;clear n0_ n1_ n2_ n3_ n4_;clear ho hb hg hat))
      go_ret
      exact ⟨_,by first|rfl|(simp [errW_none,errW_some] <;> rfl)|(simp [*,errW_none,errW_some] <;> rfl),by (with_reducible repeat (first|apply Kd.R_alloc|apply Kd.R_drewN|apply Kd.R_drew));exact Kd.R_mono HO206.out (fun _ hk=>trivial),by repeat (first|(with_reducible first|exact HB.out|apply below_alloc|apply pw_below_drewN|apply below_drew1|refine below_set ?_ GE191.out)|exact HB.out)⟩
     ·
      rw [if_neg c29] at H
      exact absurd H (by simp)
    ·
     rw [if_neg c28] at H
     have c28b0:decide (0<(a0.size:Int))=false:=decide_eq_false c28
     have c28b1:decide (0<a0.size)=false:=decide_eq_false (by omega)
     clear c28
     obtain rfl:=Option.some.inj H
     have hcz32_0:wr.cell? ⟨gb191,0,none⟩=some (.slice Ao5 t185.length co5):=(blk_cell BK191.out 0).trans rfl
     have hcz32_1:wr.cell? ⟨gb191,1,none⟩=some (.slice Ao7 t188.length co7):=(blk_cell BK191.out 1).trans rfl
     have hfz32_0:=blk_frozen BK191.out 0
     have hfz32_1:=blk_frozen BK191.out 1
     go_wp2
     go_ret
     exact ⟨_,by first|rfl|(simp [errW_none,errW_some] <;> rfl)|(simp [*,errW_none,errW_some] <;> rfl),by (with_reducible repeat (first|apply Kd.R_alloc|apply Kd.R_drewN|apply Kd.R_drew));exact Kd.R_mono HO_4.out (fun _ hk=>trivial),by repeat (first|(with_reducible first|exact HB.out|apply below_alloc|apply pw_below_drewN|apply below_drew1|refine below_set ?_ GE191.out)|exact HB.out)⟩
def spec_l22Char.j0:Nat→Int→Bool→Option (Int)
 | 0,_,_=>none
 | k+1,x6,x15=>if x15=true then (some 2) else (if x6=1 then (some 0) else (if x6=11 then (some 0) else (if x6=3 then (some 0) else (some 1))))
def spec_l22Char.f (k:Nat) (a0:ByteArray):Option (Int):=(spec_l01Next.f k a0 0).bind fun bt207=>((spec_l01Cat.f k bt207.1).bind fun t210=>(if bt207.1≥12288 then (if bt207.1≤23459 then (spec_l22Char.j0 k t210 true) else (if bt207.1≥24576 then (if bt207.1≤26623 then (spec_l22Char.j0 k t210 true) else ((spec_l07Picture.f bt207.1).bind fun t211=>(spec_l22Char.j0 k t210 t211))) else ((spec_l07Picture.f bt207.1).bind fun t212=>(spec_l22Char.j0 k t210 t212)))) else (if bt207.1≥24576 then (if bt207.1≤26623 then (spec_l22Char.j0 k t210 true) else ((spec_l07Picture.f bt207.1).bind fun t213=>(spec_l22Char.j0 k t210 t213))) else ((spec_l07Picture.f bt207.1).bind fun t214=>(spec_l22Char.j0 k t210 t214)))))
set_option maxHeartbeats 8000000 in
set_option maxRecDepth 100000 in
theorem spec_l22Char.calls (k:Nat) (a0:ByteArray) (r:Int) (w:World) (h:spec_l22Char.f k a0=some r) :
  Calls Tryd.prog 29 #[.string a0] w fun e w'=>e = .returned (.int .i64 r)∧Below w.heap.size w w':=by
 have HB:=Aside0.mk (Below.refl w.heap.size w)
 have H:((spec_l01Next.f k a0 0).bind fun bt207=>((spec_l01Cat.f k bt207.1).bind fun t210=>(if bt207.1≥12288 then (if bt207.1≤23459 then (spec_l22Char.j0 k t210 true) else (if bt207.1≥24576 then (if bt207.1≤26623 then (spec_l22Char.j0 k t210 true) else ((spec_l07Picture.f bt207.1).bind fun t211=>(spec_l22Char.j0 k t210 t211))) else ((spec_l07Picture.f bt207.1).bind fun t212=>(spec_l22Char.j0 k t210 t212)))) else (if bt207.1≥24576 then (if bt207.1≤26623 then (spec_l22Char.j0 k t210 true) else ((spec_l07Picture.f bt207.1).bind fun t213=>(spec_l22Char.j0 k t210 t213))) else ((spec_l07Picture.f bt207.1).bind fun t214=>(spec_l22Char.j0 k t210 t214))))))=some r:=h
 clear h
 replace H:=Option.bind_eq_some_iff.mp H
 obtain ⟨⟨t207,t208,t209⟩,A20,H⟩:=H
 replace H:((spec_l01Cat.f k t207).bind fun t210=>(if t207≥12288 then (if t207≤23459 then (spec_l22Char.j0 k t210 true) else (if t207≥24576 then (if t207≤26623 then (spec_l22Char.j0 k t210 true) else ((spec_l07Picture.f t207).bind fun t211=>(spec_l22Char.j0 k t210 t211))) else ((spec_l07Picture.f t207).bind fun t212=>(spec_l22Char.j0 k t210 t212)))) else (if t207≥24576 then (if t207≤26623 then (spec_l22Char.j0 k t210 true) else ((spec_l07Picture.f t207).bind fun t213=>(spec_l22Char.j0 k t210 t213))) else ((spec_l07Picture.f t207).bind fun t214=>(spec_l22Char.j0 k t210 t214)))))=some r:=H
 have A2:=Aside0.mk A20
 clear A20
 replace H:=Option.bind_eq_some_iff.mp H
 obtain ⟨t210,A30,H⟩:=H
 replace H:(if t207≥12288 then (if t207≤23459 then (spec_l22Char.j0 k t210 true) else (if t207≥24576 then (if t207≤26623 then (spec_l22Char.j0 k t210 true) else ((spec_l07Picture.f t207).bind fun t211=>(spec_l22Char.j0 k t210 t211))) else ((spec_l07Picture.f t207).bind fun t212=>(spec_l22Char.j0 k t210 t212)))) else (if t207≥24576 then (if t207≤26623 then (spec_l22Char.j0 k t210 true) else ((spec_l07Picture.f t207).bind fun t213=>(spec_l22Char.j0 k t210 t213))) else ((spec_l07Picture.f t207).bind fun t214=>(spec_l22Char.j0 k t210 t214))))=some r:=H
 have A3:=Aside0.mk A30
 clear A30
 have HC4:=Aside0.mk H
 clear H
 go_enter Tryd.func29,Tryd.ntmps29
 go_upto_region 3 with (first|((with_reducible refine gate_callee (f:=39) rfl ?_);refine goesL_ (some 9) rfl rfl Tryd.func39 (by kernel_rfl) rfl #[.string a0,.int .i64 0] rfl (by (try simp only [List.map_toArray,List.map_cons,List.map_nil]);first|done|rfl|(simp only [List.length_drop,List.length_take];rfl)) ?_;(with_reducible refine (spec_l01Next.calls k a0 0 t207 t208 t209 _ A2.out).mono ?_);rintro e w5 ⟨rfl,hb⟩;refine ⟨_,rfl,?_⟩;have n0_:=Aside0.mk (below_step (by repeat (first|(with_reducible first|exact HB.out|apply below_alloc|apply pw_below_drewN|apply below_drew1)|exact HB.out)) hb);clear HB;have HB:=n0_;clear n0_;(try clear hb);(try clear hb2);(try clear hk);(try clear hi))|((with_reducible refine gate_callee (f:=38) rfl ?_);refine goesL_ (some 14) rfl rfl Tryd.func38 (by kernel_rfl) rfl #[.int .i64 t207] rfl (by (try simp only [List.map_toArray,List.map_cons,List.map_nil]);first|done|rfl|(simp only [List.length_drop,List.length_take];rfl)) ?_;(with_reducible refine (spec_l01Cat.calls k t207 t210 _ A3.out).mono ?_);rintro e w6 ⟨rfl,hb⟩;refine ⟨_,rfl,?_⟩;have n0_:=Aside0.mk (below_step (by repeat (first|(with_reducible first|exact HB.out|apply below_alloc|apply pw_below_drewN|apply below_drew1)|exact HB.out)) hb);clear HB;have HB:=n0_;clear n0_;(try clear hb);(try clear hb2);(try clear hk);(try clear hi)))
 (try simp only [Act.put,List.setIfInBounds_toArray,List.set_cons_zero,List.set_cons_succ])
 go_cut [15] (fun v15 wc=>∃ (kq:Nat) (x15_3:Bool),v15 = .bool x15_3∧Aside0 (spec_l22Char.j0 kq t210 x15_3=some r)∧Aside0 (kq≤k)∧Aside0 (Below w.heap.size w wc))
 case first =>
  have H:=HC4.out
  clear HC4
  by_cases c7:t207≥12288
  ·
   rw [if_pos c7] at H
   have c7b0:decide (12288≤t207)=true:=decide_eq_true c7
   clear c7
   (first|rw [c7b0]|(simp only [i64_w,i32_w];rw [c7b0])|skip)
   by_cases c8:t207≤23459
   ·
    rw [if_pos c8] at H
    have c8b0:decide (t207≤23459)=true:=decide_eq_true c8
    clear c8
    have H':=Aside0.mk H
    clear H
    go_wp2
    go_meet
    case rel=>exact ⟨_,(true),(by first|rfl|(simp;done)|(simp [*];done)),H',⟨by first|omega|exact Nat.le_refl _⟩,⟨by repeat (first|(with_reducible first|exact HB.out|apply below_alloc|apply pw_below_drewN|apply below_drew1)|exact HB.out)⟩⟩
   ·
    rw [if_neg c8] at H
    have c8b0:decide (t207≤23459)=false:=decide_eq_false c8
    clear c8
    by_cases c9:t207≥24576
    ·
     rw [if_pos c9] at H
     have c9b0:decide (24576≤t207)=true:=decide_eq_true c9
     clear c9
     by_cases c10:t207≤26623
     ·
      rw [if_pos c10] at H
      have c10b0:decide (t207≤26623)=true:=decide_eq_true c10
      clear c10
      have H':=Aside0.mk H
      clear H
      go_wp2
      go_meet
      case rel=>exact ⟨_,(true),(by first|rfl|(simp;done)|(simp [*];done)),H',⟨by first|omega|exact Nat.le_refl _⟩,⟨by repeat (first|(with_reducible first|exact HB.out|apply below_alloc|apply pw_below_drewN|apply below_drew1)|exact HB.out)⟩⟩
     ·
      rw [if_neg c10] at H
      have c10b0:decide (t207≤26623)=false:=decide_eq_false c10
      clear c10
      replace H:=Option.bind_eq_some_iff.mp H
      obtain ⟨t211,A110,H⟩:=H
      replace H:(spec_l22Char.j0 k t210 t211)=some r:=H
      have A11:=Aside0.mk A110
      clear A110
      have H':=Aside0.mk H
      clear H
      go_wp2_with (first|(go_at_call 49;(with_reducible refine (spec_l07Picture.calls t207 t211 _ A11.out).mono ?_);rintro e w' ⟨rfl,⟨nd,rfl⟩⟩))
      go_meet
      case rel=>exact ⟨_,(t211),(by first|rfl|(simp;done)|(simp [*];done)),H',⟨by first|omega|exact Nat.le_refl _⟩,⟨by repeat (first|(with_reducible first|exact HB.out|apply below_alloc|apply pw_below_drewN|apply below_drew1)|exact HB.out)⟩⟩
    ·
     rw [if_neg c9] at H
     have c9b0:decide (24576≤t207)=false:=decide_eq_false c9
     clear c9
     replace H:=Option.bind_eq_some_iff.mp H
     obtain ⟨t212,A120,H⟩:=H
     replace H:(spec_l22Char.j0 k t210 t212)=some r:=H
     have A12:=Aside0.mk A120
     clear A120
     have H':=Aside0.mk H
     clear H
     go_wp2_with (first|(go_at_call 49;(with_reducible refine (spec_l07Picture.calls t207 t212 _ A12.out).mono ?_);rintro e w' ⟨rfl,⟨nd,rfl⟩⟩))
     go_meet
     case rel=>exact ⟨_,(t212),(by first|rfl|(simp;done)|(simp [*];done)),H',⟨by first|omega|exact Nat.le_refl _⟩,⟨by repeat (first|(with_reducible first|exact HB.out|apply below_alloc|apply pw_below_drewN|apply below_drew1)|exact HB.out)⟩⟩
  ·
   rw [if_neg c7] at H
   have c7b0:decide (12288≤t207)=false:=decide_eq_false c7
   clear c7
   (first|rw [c7b0]|(simp only [i64_w,i32_w];rw [c7b0])|skip)
   by_cases c13:t207≥24576
   ·
    rw [if_pos c13] at H
    have c13b0:decide (24576≤t207)=true:=decide_eq_true c13
    clear c13
    by_cases c14:t207≤26623
    ·
     rw [if_pos c14] at H
     have c14b0:decide (t207≤26623)=true:=decide_eq_true c14
     clear c14
     have H':=Aside0.mk H
     clear H
     go_wp2
     go_meet
     case rel=>exact ⟨_,(true),(by first|rfl|(simp;done)|(simp [*];done)),H',⟨by first|omega|exact Nat.le_refl _⟩,⟨by repeat (first|(with_reducible first|exact HB.out|apply below_alloc|apply pw_below_drewN|apply below_drew1)|exact HB.out)⟩⟩
    ·
     rw [if_neg c14] at H
     have c14b0:decide (t207≤26623)=false:=decide_eq_false c14
     clear c14
     replace H:=Option.bind_eq_some_iff.mp H
     obtain ⟨t213,A150,H⟩:=H
     replace H:(spec_l22Char.j0 k t210 t213)=some r:=H
     have A15:=Aside0.mk A150
     clear A150
     have H':=Aside0.mk H
     clear H
     go_wp2_with (first|(go_at_call 49;(with_reducible refine (spec_l07Picture.calls t207 t213 _ A15.out).mono ?_);rintro e w' ⟨rfl,⟨nd,rfl⟩⟩))
     go_meet
     case rel=>exact ⟨_,(t213),(by first|rfl|(simp;done)|(simp [*];done)),H',⟨by first|omega|exact Nat.le_refl _⟩,⟨by repeat (first|(with_reducible first|exact HB.out|apply below_alloc|apply pw_below_drewN|apply below_drew1)|exact HB.out)⟩⟩
   ·
    rw [if_neg c13] at H
    have c13b0:decide (24576≤t207)=false:=decide_eq_false c13
    clear c13
    replace H:=Option.bind_eq_some_iff.mp H
    obtain ⟨t214,A160,H⟩:=H
    replace H:(spec_l22Char.j0 k t210 t214)=some r:=H
    have A16:=Aside0.mk A160
    clear A160
    have H':=Aside0.mk H
    clear H
    go_wp2_with (first|(go_at_call 49;(with_reducible refine (spec_l07Picture.calls t207 t214 _ A16.out).mono ?_);rintro e w' ⟨rfl,⟨nd,rfl⟩⟩))
    go_meet
    case rel=>exact ⟨_,(t214),(by first|rfl|(simp;done)|(simp [*];done)),H',⟨by first|omega|exact Nat.le_refl _⟩,⟨by repeat (first|(with_reducible first|exact HB.out|apply below_alloc|apply pw_below_drewN|apply below_drew1)|exact HB.out)⟩⟩
 case rest =>
  clear HC4
  try clear c1
  try clear c2
  try clear p2
  try clear c3
  try clear c7
  try clear c7b0
  try clear c8
  try clear c8b0
  try clear c9
  try clear c9b0
  try clear c10
  try clear c10b0
  try clear c13
  try clear c13b0
  try clear c14
  try clear c14b0
  obtain ⟨kq,x15_3,rfl,HA,HJ3,HB⟩:=hcut
  cases kq with
  | zero=>exact absurd HA.out (by simp [spec_l22Char.j0])
  | succ kj3 =>
   have H:=HA.out
   clear HA
   simp only [spec_l22Char.j0] at H
   by_cases c17:x15_3=true
   ·
    subst c17
    have H1:(some 2)=some r:=by rw [if_pos rfl] at H;exact H
    clear H
    have H:=H1
    clear H1
    obtain rfl:=Option.some.inj H
    go_wp2
    go_ret
    exact ⟨by first|rfl|(simp [errW_none,errW_some] <;> rfl)|(simp [*,errW_none,errW_some] <;> rfl),by repeat (first|(with_reducible first|exact HB.out|apply below_alloc|apply pw_below_drewN|apply below_drew1)|exact HB.out)⟩
   ·
    replace c17:=Bool.eq_false_iff.mpr c17
    subst c17
    have H1:(if t210=1 then (some 0) else (if t210=11 then (some 0) else (if t210=3 then (some 0) else (some 1))))=some r:=by rw [if_neg (show ¬ (false=true) by decide)] at H;exact H
    clear H
    have H:=H1
    clear H1
    by_cases c18:t210=1
    ·
     rw [if_pos c18] at H
     have c18b0:(t210 == 1)=true:=beq_iff_eq.mpr c18
     have c18b1:(t210 != 1)=false:=bne_eq_false_iff_eq.mpr c18
     clear c18
     obtain rfl:=Option.some.inj H
     go_wp2
     go_ret
     exact ⟨by first|rfl|(simp [errW_none,errW_some] <;> rfl)|(simp [*,errW_none,errW_some] <;> rfl),by repeat (first|(with_reducible first|exact HB.out|apply below_alloc|apply pw_below_drewN|apply below_drew1)|exact HB.out)⟩
    ·
     rw [if_neg c18] at H
     have c18b0:(t210 == 1)=false:=beq_eq_false_iff_ne.mpr c18
     have c18b1:(t210 != 1)=true:=bne_iff_ne.mpr c18
     by_cases c19:t210=11
     ·
      rw [if_pos c19] at H
      have c19b0:(t210 == 11)=true:=beq_iff_eq.mpr c19
      have c19b1:(t210 != 11)=false:=bne_eq_false_iff_eq.mpr c19
      clear c19
      obtain rfl:=Option.some.inj H
      go_wp2
      go_ret
      exact ⟨by first|rfl|(simp [errW_none,errW_some] <;> rfl)|(simp [*,errW_none,errW_some] <;> rfl),by repeat (first|(with_reducible first|exact HB.out|apply below_alloc|apply pw_below_drewN|apply below_drew1)|exact HB.out)⟩
     ·
      rw [if_neg c19] at H
      have c19b0:(t210 == 11)=false:=beq_eq_false_iff_ne.mpr c19
      have c19b1:(t210 != 11)=true:=bne_iff_ne.mpr c19
      by_cases c20:t210=3
      ·
       rw [if_pos c20] at H
       have c20b0:(t210 == 3)=true:=beq_iff_eq.mpr c20
       have c20b1:(t210 != 3)=false:=bne_eq_false_iff_eq.mpr c20
       clear c20
       obtain rfl:=Option.some.inj H
       go_wp2
       go_ret
       exact ⟨by first|rfl|(simp [errW_none,errW_some] <;> rfl)|(simp [*,errW_none,errW_some] <;> rfl),by repeat (first|(with_reducible first|exact HB.out|apply below_alloc|apply pw_below_drewN|apply below_drew1)|exact HB.out)⟩
      ·
       rw [if_neg c20] at H
       have c20b0:(t210 == 3)=false:=beq_eq_false_iff_ne.mpr c20
       have c20b1:(t210 != 3)=true:=bne_iff_ne.mpr c20
       obtain rfl:=Option.some.inj H
       go_wp2
       go_ret
       exact ⟨by first|rfl|(simp [errW_none,errW_some] <;> rfl)|(simp [*,errW_none,errW_some] <;> rfl),by repeat (first|(with_reducible first|exact HB.out|apply below_alloc|apply pw_below_drewN|apply below_drew1)|exact HB.out)⟩
def spec_l22Wide.l0:Nat→List ByteArray→Int→Int→Option (Int)
 | 0,_,_,_=>none
 | k+1,x3,x4,x5=>if x5<(x3.length:Int) then (if 0≤x5 then ((spec_l22Char.f k (rdOf ByteArray.empty x3 x5)).bind fun t222=>(spec_l22Wide.l0 k x3 (wrap64 (x4+t222)) (wrap64 (x5+1)))) else (none)) else (some x4)
def spec_l22Wide.f (k:Nat) (a0:ByteArray):Option (Int):=(spec_l07Chars.f k a0).bind fun t215=>((spec_l07Pieces.f k a0 t215).bind fun t218=>(spec_l22Wide.l0 k t218 0 0))
set_option maxHeartbeats 8000000 in
set_option maxRecDepth 100000 in
theorem spec_l22Wide.calls (k:Nat) (a0:ByteArray) (r:Int) (w:World) (h:spec_l22Wide.f k a0=some r) :
  Calls Tryd.prog 12 #[.string a0] w fun e w'=>e = .returned (.int .i64 r)∧Below w.heap.size w w':=by
 have HB:=Aside0.mk (Below.refl w.heap.size w)
 have H:((spec_l07Chars.f k a0).bind fun t215=>((spec_l07Pieces.f k a0 t215).bind fun t218=>(spec_l22Wide.l0 k t218 0 0)))=some r:=h
 clear h
 replace H:=Option.bind_eq_some_iff.mp H
 obtain ⟨t215,A20,H⟩:=H
 replace H:((spec_l07Pieces.f k a0 t215).bind fun t218=>(spec_l22Wide.l0 k t218 0 0))=some r:=H
 have A2:=Aside0.mk A20
 clear A20
 replace H:=Option.bind_eq_some_iff.mp H
 obtain ⟨t218,A30,H⟩:=H
 replace H:(spec_l22Wide.l0 k t218 0 0)=some r:=H
 have A3:=Aside0.mk A30
 clear A30
 have H':=Aside0.mk H
 clear H
 go_enter Tryd.func12,Tryd.ntmps12
 go_wp2_with (first|((with_reducible refine gate_callee (f:=28) rfl ?_);refine goesL_ (some 8) rfl rfl Tryd.func28 (by kernel_rfl) rfl #[.string a0] rfl (by (try simp only [List.map_toArray,List.map_cons,List.map_nil]);first|done|rfl|(simp only [List.length_drop,List.length_take];rfl)) ?_;(with_reducible refine (spec_l07Chars.calls k a0 t215 _ A2.out).mono ?_);rintro e w4 ⟨v216,rfl,ho0,hb⟩;refine ⟨_,rfl,?_⟩;have n0_:=Aside0.mk (Kd.R_lower ho0 (below_size (by repeat (first|(with_reducible first|exact HB.out|apply below_alloc|apply pw_below_drewN|apply below_drew1)|exact HB.out))));have n1_:=Aside0.mk (below_step (by repeat (first|(with_reducible first|exact HB.out|apply below_alloc|apply pw_below_drewN|apply below_drew1)|exact HB.out)) hb);clear HB;have HO217:=n0_;have HB:=n1_;clear n0_ n1_;(try clear hb);(try clear hb2);(try clear hk);(try clear hi);(try clear ho0);obtain ⟨Ao5,co5,eo5⟩:=Kd.R_slice HO217.out;subst eo5)|((with_reducible refine gate_callee (f:=27) rfl ?_);refine goesL_ (some 9) rfl rfl Tryd.func27 (by kernel_rfl) rfl #[.string a0,.slice Ao5 t215.length co5] rfl (by (try simp only [List.map_toArray,List.map_cons,List.map_nil]);first|done|rfl|(simp only [List.length_drop,List.length_take];rfl)) ?_;(with_reducible refine (spec_l07Pieces.calls k a0 _ _ t215 t218 _ ?side1 ?side2 A3.out).mono ?_);(case side1=>repeat (first|exact (Kd.R_reads' HO217.out).2.2|(with_reducible refine Kd.C_alloc ?_ _)|(with_reducible refine Kd.C_drewN ?_ _)|(with_reducible refine Kd.C_drew ?_)));(case side2=>exact (Kd.R_reads' HO217.out).2.1);rintro e w6 ⟨v219,rfl,ho0,hb⟩;refine ⟨_,rfl,?_⟩;have n0_:=Aside0.mk (Kd.R_below (by (with_reducible repeat (first|apply Kd.R_alloc|apply Kd.R_drewN|apply Kd.R_drew));exact HO217.out) hb);have n1_:=Aside0.mk (Kd.R_lower ho0 (below_size (by repeat (first|(with_reducible first|exact HB.out|apply below_alloc|apply pw_below_drewN|apply below_drew1)|exact HB.out))));have n2_:=Aside0.mk (below_step (by repeat (first|(with_reducible first|exact HB.out|apply below_alloc|apply pw_below_drewN|apply below_drew1)|exact HB.out)) hb);clear HO217;clear HB;have HO217:=n0_;have HO220:=n1_;have HB:=n2_;clear n0_ n1_ n2_;(try clear hb);(try clear hb2);(try clear hk);(try clear hi);(try clear ho0)))
 go_loopg [4,5] k (fun kq v4 v5 w'=>∃ (x4_1:Int) (x5_1:Int),v4 = .int .i64 x4_1∧v5 = .int .i64 x5_1∧Aside0 (spec_l22Wide.l0 kq t218 x4_1 x5_1=some r)∧Aside0 (kq≤k)∧Aside0 (Kd.R Kd.string 9 w' w.heap.size (fun _=>True) v219 t218)∧Aside0 (Below w.heap.size w w'))
 case atStart=>exact ⟨(0),(0),(by first|rfl|(simp;done)|(simp [*];done)),(by first|rfl|(simp;done)|(simp [*];done)),H',⟨Nat.le_refl _⟩,⟨by (with_reducible repeat (first|apply Kd.R_alloc|apply Kd.R_drewN|apply Kd.R_drew));exact HO220.out⟩,⟨by repeat (first|(with_reducible first|exact HB.out|apply below_alloc|apply pw_below_drewN|apply below_drew1)|exact HB.out)⟩⟩
 case round =>
  clear H'
  try clear c1
  try clear c2
  try clear p2
  obtain ⟨x4_1,x5_1,rfl,rfl,HA,HK1,HO_3,HB⟩:=hrel
  cases gk with
  | zero=>exact absurd HA.out (by simp [spec_l22Wide.l0])
  | succ k1 =>
   have H:=HA.out
   clear HA
   simp only [spec_l22Wide.l0] at H
   by_cases c7:x5_1<(t218.length:Int)
   ·
    rw [if_pos c7] at H
    have c7b0:decide (x5_1<(t218.length:Int))=true:=decide_eq_true c7
    clear c7
    by_cases c8:0≤x5_1
    ·
     rw [if_pos c8] at H
     have c8b0:decide (0≤x5_1)=true:=decide_eq_true c8
     clear c8
     replace H:=Option.bind_eq_some_iff.mp H
     obtain ⟨t222,A90,H⟩:=H
     replace H:(spec_l22Wide.l0 k1 t218 (wrap64 (x4_1+t222)) (wrap64 (x5_1+1)))=some r:=H
     have A9:=Aside0.mk A90
     clear A90
     have H':=Aside0.mk H
     clear H
     obtain ⟨Ao10,co10,eo10⟩:=Kd.R_slice HO_3.out
     subst eo10
     have p221:0≤(x5_1:Int):=of_decide_eq_true (by first|(with_reducible assumption)|assumption)
     have q221:x5_1<(t218.length:Int):=of_decide_eq_true (by first|(with_reducible assumption)|assumption)
     obtain ⟨ad221,e221,hx221_0⟩:=Kd.at_string (Kd.R_reads' HO_3.out).2.2 x5_1 p221 q221
     cases e221
     replace p221:=eq_true p221
     replace q221:=eq_true q221
     go_wp2_with (first|((with_reducible refine gate_callee (f:=29) rfl ?_);refine goesL_ (some 21) rfl rfl Tryd.func29 (by kernel_rfl) rfl #[.string (rdOf ByteArray.empty t218 x5_1)] rfl (by (try simp only [List.map_toArray,List.map_cons,List.map_nil]);first|done|rfl|(simp only [List.length_drop,List.length_take];rfl)) ?_;(with_reducible refine (spec_l22Char.calls k1 (rdOf ByteArray.empty t218 x5_1) t222 _ A9.out).mono ?_);rintro e w11 ⟨rfl,hb⟩;refine ⟨_,rfl,?_⟩;have n0_:=Aside0.mk (Kd.R_below (by (with_reducible repeat (first|apply Kd.R_alloc|apply Kd.R_drewN|apply Kd.R_drew));exact HO_3.out) hb);have n1_:=Aside0.mk (below_step (by repeat (first|(with_reducible first|exact HB.out|apply below_alloc|apply pw_below_drewN|apply below_drew1)|exact HB.out)) hb);clear HO_3;clear HB;have HO_3:=n0_;have HB:=n1_;clear n0_ n1_;(try clear hb);(try clear hb2);(try clear hk);(try clear hi)))
     go_roundg k1
     case measure=>have:=HK1.out;omega
     case rel=>exact ⟨(wrap64 (x4_1+t222)),(wrap64 (x5_1+1)),(by first|rfl|(simp;done)|(simp [*];done)),(by first|rfl|(simp;done)|(simp [*];done)),H',⟨by have:=HK1.out;omega⟩,⟨by (with_reducible repeat (first|apply Kd.R_alloc|apply Kd.R_drewN|apply Kd.R_drew));exact HO_3.out⟩,⟨by repeat (first|(with_reducible first|exact HB.out|apply below_alloc|apply pw_below_drewN|apply below_drew1)|exact HB.out)⟩⟩
    ·
     rw [if_neg c8] at H
     exact absurd H (by simp)
   ·
    rw [if_neg c7] at H
    have c7b0:decide (x5_1<(t218.length:Int))=false:=decide_eq_false c7
    clear c7
    obtain rfl:=Option.some.inj H
    obtain ⟨Ao12,co12,eo12⟩:=Kd.R_slice HO_3.out
    subst eo12
    go_wp2
    go_ret
    exact ⟨by first|rfl|(simp [errW_none,errW_some] <;> rfl)|(simp [*,errW_none,errW_some] <;> rfl),by repeat (first|(with_reducible first|exact HB.out|apply below_alloc|apply pw_below_drewN|apply below_drew1)|exact HB.out)⟩
def spec_WideOf.f (k:Nat) (a0:ByteArray):Option (Int):=if (a0.size:Int)>65536 then (some 0) else ((spec_l22Wide.f k a0).bind fun t223=>(some t223))
set_option maxHeartbeats 8000000 in
set_option maxRecDepth 100000 in
theorem spec_WideOf.calls (k:Nat) (a0:ByteArray) (r:Int) (w:World) (h:spec_WideOf.f k a0=some r) :
  Calls Tryd.prog 6 #[.string a0] w fun e w'=>e = .returned (.int .i64 r)∧Below w.heap.size w w':=by
 have HB:=Aside0.mk (Below.refl w.heap.size w)
 have H:(if (a0.size:Int)>65536 then (some 0) else ((spec_l22Wide.f k a0).bind fun t223=>(some t223)))=some r:=h
 clear h
 by_cases c2:(a0.size:Int)>65536
 ·
  rw [if_pos c2] at H
  have c2b0:decide (65536<(a0.size:Int))=true:=decide_eq_true c2
  have c2b1:decide (65536<a0.size)=true:=decide_eq_true (by omega)
  clear c2
  obtain rfl:=Option.some.inj H
  go_enter Tryd.func6,Tryd.ntmps6
  go_wp2
  go_ret
  exact ⟨by first|rfl|(simp [errW_none,errW_some] <;> rfl)|(simp [*,errW_none,errW_some] <;> rfl),by repeat (first|(with_reducible first|exact HB.out|apply below_alloc|apply pw_below_drewN|apply below_drew1)|exact HB.out)⟩
 ·
  rw [if_neg c2] at H
  have c2b0:decide (65536<(a0.size:Int))=false:=decide_eq_false c2
  have c2b1:decide (65536<a0.size)=false:=decide_eq_false (by omega)
  clear c2
  replace H:=Option.bind_eq_some_iff.mp H
  obtain ⟨t223,A30,H⟩:=H
  replace H:(some t223)=some r:=H
  have A3:=Aside0.mk A30
  clear A30
  obtain rfl:=Option.some.inj H
  go_enter Tryd.func6,Tryd.ntmps6
  go_wp2_with (first|((with_reducible refine gate_callee (f:=12) rfl ?_);refine goesL_ (some 7) rfl rfl Tryd.func12 (by kernel_rfl) rfl #[.string a0] rfl (by (try simp only [List.map_toArray,List.map_cons,List.map_nil]);first|done|rfl|(simp only [List.length_drop,List.length_take];rfl)) ?_;(with_reducible refine (spec_l22Wide.calls k a0 t223 _ A3.out).mono ?_);rintro e w4 ⟨rfl,hb⟩;refine ⟨_,rfl,?_⟩;have n0_:=Aside0.mk (below_step (by repeat (first|(with_reducible first|exact HB.out|apply below_alloc|apply pw_below_drewN|apply below_drew1)|exact HB.out)) hb);clear HB;have HB:=n0_;clear n0_;(try clear hb);(try clear hb2);(try clear hk);(try clear hi)))
  go_ret
  exact ⟨by first|rfl|(simp [errW_none,errW_some] <;> rfl)|(simp [*,errW_none,errW_some] <;> rfl),by repeat (first|(with_reducible first|exact HB.out|apply below_alloc|apply pw_below_drewN|apply below_drew1)|exact HB.out)⟩
def impl_long.f (a0:ByteArray):Option (Bool):=some (decide ((a0.size:Int)>65536))
set_option maxHeartbeats 8000000 in
set_option maxRecDepth 100000 in
theorem impl_long.calls (a0:ByteArray) (r:Bool) (w:World) (h:impl_long.f a0=some r) :
  Calls Tryd.prog 13 #[.string a0] w fun e w'=>e = .returned (.bool r)∧Drawn0 w w':=by
 have H:(some (decide ((a0.size:Int)>65536)))=some r:=h
 clear h
 obtain rfl:=Option.some.inj H
 go_enter Tryd.func13,Tryd.ntmps13
 go_wp2
 go_ret
 exact ⟨by first|rfl|(simp;done)|(simp [*];done),by repeat (first|exact Drawn0.refl _|apply Drawn0.step)⟩
def utf8_DecodeRuneInString.f (a0:ByteArray):Option (Int × Int):=some (((Lib.decodeGo a0).1:Int),((Lib.decodeGo a0).2:Int))
theorem utf8_DecodeRuneInString.calls (a0:ByteArray) (r1:Int) (r2:Int) (w:World) (hT:Tabs w) (h:utf8_DecodeRuneInString.f a0=some (r1,r2)) :
  Calls Tryd.prog 65 #[.string a0] w fun e w'=>e = .returned (.tuple #[.int .i32 r1,.int .i64 r2])∧Below w.heap.size w w':=by
 simp only [utf8_DecodeRuneInString.f,Option.some.injEq,Prod.mk.injEq] at h
 obtain ⟨rfl,rfl⟩:=h
 exact Tryd.utf8_DecodeRuneInString a0 w hT
def impl_read.l0:Nat→ByteArray→List (S45)→Int→Option ((List (S45)))
 | 0,_,_,_=>none
 | k+1,x0,x3,x4=>if x4<(x0.size:Int) then (if 0≤x4 then (if x4≤(x0.size:Int) then ((utf8_DecodeRuneInString.f (x0.extract (x4:Int).toNat x0.size)).bind fun bt224=>(if bt224.1=65533 then (if x3.length<4398046511104 then (impl_read.l0 k x0 (x3 ++ [(⟨wrap64 (bt224.1),x4,wrap64 (x4+bt224.2),(bt224.2 == 1)⟩:S45)]) (wrap64 (x4+bt224.2))) else (none)) else (if x3.length<4398046511104 then (impl_read.l0 k x0 (x3 ++ [(⟨wrap64 (bt224.1),x4,wrap64 (x4+bt224.2),false⟩:S45)]) (wrap64 (x4+bt224.2))) else (none)))) else (none)) else (none)) else (some x3)
def impl_read.f (k:Nat) (a0:ByteArray):Option ((List (S45))):=impl_read.l0 k a0 ([]:List (S45)) 0
set_option maxHeartbeats 8000000 in
set_option maxRecDepth 100000 in
theorem impl_read.calls (k:Nat) (a0:ByteArray) (r:List (S45)) (w:World) (hT:Tabs w) (h:impl_read.f k a0=some r) :
  Calls Tryd.prog 43 #[.string a0] w fun e w'=>∃ v0_:Value,e = .returned (v0_)∧Kd.R k45 45 w' w.heap.size (fun _=>True) v0_ r∧Below w.heap.size w w':=by
 have hu45:=Tryd.underlying45
 have HTAB:=Aside0.mk hT
 clear hT
 have HB:=Aside0.mk (Below.refl w.heap.size w)
 have H:(impl_read.l0 k a0 ([]:List (S45)) 0)=some r:=h
 clear h
 have H':=Aside0.mk H
 clear H
 go_enter Tryd.func43,Tryd.ntmps43
 go_wp2
 go_loopg [3,4] k (fun kq v3 v4 w'=>∃ (x3_1:List (S45)) (x4_1:Int),v4 = .int .i64 x4_1∧Aside0 (impl_read.l0 kq a0 x3_1 x4_1=some r)∧Aside0 (kq≤k)∧Aside0 (Kd.R k45 45 w' w.heap.size (fun _=>True) v3 x3_1)∧Aside0 (Below w.heap.size w w'))
 case atStart=>exact ⟨(([]:List (S45))),(0),(by first|rfl|(simp;done)|(simp [*];done)),H',⟨Nat.le_refl _⟩,⟨by first|exact Kd.R_nil _ _ _ _ _|exact Kd.N_nil _ _ _ _ _|exact Kd.V_nil _ _ _ _ _|exact Kd.Q_nil _ _ _ _ _|exact Kd.S_nil _ _ _ _ _⟩,⟨by repeat (first|(with_reducible first|exact HB.out|apply below_alloc|apply pw_below_drewN|apply below_drew1)|exact HB.out)⟩⟩
 case round =>
  clear H'
  obtain ⟨x3_1,x4_1,rfl,HA,HK1,HO_3,HB⟩:=hrel
  cases gk with
  | zero=>exact absurd HA.out (by simp [impl_read.l0])
  | succ k1 =>
   have H:=HA.out
   clear HA
   simp only [impl_read.l0] at H
   by_cases c2:x4_1<(a0.size:Int)
   ·
    rw [if_pos c2] at H
    have c2b0:decide (x4_1<(a0.size:Int))=true:=decide_eq_true c2
    clear c2
    by_cases c3:0≤x4_1
    ·
     rw [if_pos c3] at H
     have c3b0:=eq_true c3
     have c3b1:decide (0≤x4_1)=true:=decide_eq_true c3
     clear c3
     by_cases c4:x4_1≤(a0.size:Int)
     ·
      rw [if_pos c4] at H
      have c4b0:=eq_true c4
      have c4b1:decide (x4_1≤(a0.size:Int))=true:=decide_eq_true c4
      clear c4
      replace H:=Option.bind_eq_some_iff.mp H
      obtain ⟨⟨t224,t225⟩,A50,H⟩:=H
      replace H:(if t224=65533 then (if x3_1.length<4398046511104 then (impl_read.l0 k1 a0 (x3_1 ++ [(⟨wrap64 (t224),x4_1,wrap64 (x4_1+t225),(t225 == 1)⟩:S45)]) (wrap64 (x4_1+t225))) else (none)) else (if x3_1.length<4398046511104 then (impl_read.l0 k1 a0 (x3_1 ++ [(⟨wrap64 (t224),x4_1,wrap64 (x4_1+t225),false⟩:S45)]) (wrap64 (x4_1+t225))) else (none)))=some r:=H
      have A5:=Aside0.mk A50
      clear A50
      by_cases c6:t224=65533
      ·
       rw [if_pos c6] at H
       have c6b0:(t224 == 65533)=true:=beq_iff_eq.mpr c6
       have c6b1:(t224 != 65533)=false:=bne_eq_false_iff_eq.mpr c6
       clear c6
       by_cases c7:x3_1.length<4398046511104
       ·
        rw [if_pos c7] at H
        have LMc7:=Aside0.mk c7
        clear c7
        obtain ⟨y226,hy226⟩:∃ y_:List (S45),y_=(x3_1 ++ [(⟨wrap64 (t224),x4_1,wrap64 (x4_1+t225),(t225 == 1)⟩:S45)]):=⟨_,rfl⟩
        replace H:(impl_read.l0 k1 a0 y226 (wrap64 (x4_1+t225)))=some r:=by first|(rw [hy226];with_reducible exact H)|(have H2_:=(Option.bind_some _ _).symm.trans H;rw [hy226];with_reducible exact H2_)|(have H2_:=(Option.bind_some _ _).symm.trans H;with_reducible exact H2_)|with_reducible exact H|(rw [hy226];exact H)|exact H
        have Ny226:=Aside0.mk hy226
        clear hy226
        have H':=Aside0.mk H
        clear H
        go_wp2_with (first|((with_reducible refine gate_callee (f:=65) rfl ?_);refine goesL_ (some 16) rfl rfl Tryd.func65 (by kernel_rfl) rfl #[.string (a0.extract (x4_1:Int).toNat a0.size)] rfl (by (try simp only [List.map_toArray,List.map_cons,List.map_nil]);first|done|rfl|(simp only [List.length_drop,List.length_take];rfl)) ?_;(with_reducible refine (utf8_DecodeRuneInString.calls (a0.extract (x4_1:Int).toNat a0.size) t224 t225 _ ?side1 A5.out).mono ?_);(case side1=>first|exact HTAB.out|exact Tabs_drewN HTAB.out _|exact Tabs_below HTAB.out (by repeat (first|(with_reducible first|exact HB.out|apply below_alloc|apply pw_below_drewN|apply below_drew1)|exact HB.out)));rintro e w8 ⟨rfl,hb⟩;refine ⟨_,rfl,?_⟩;have n0_:=Aside0.mk (Kd.R_below (by (with_reducible repeat (first|apply Kd.R_alloc|apply Kd.R_drewN|apply Kd.R_drew));exact HO_3.out) hb);have n1_:=Aside0.mk (below_step (by repeat (first|(with_reducible first|exact HB.out|apply below_alloc|apply pw_below_drewN|apply below_drew1)|exact HB.out)) hb);clear HO_3;clear HB;have HO_3:=n0_;have HB:=n1_;clear n0_ n1_;(try clear hb);(try clear hb2);(try clear hk);(try clear hi))|((with_reducible refine gate_builtin (b:=.append) (xs:=#[.tmp 25,.tmp 34]) rfl ?_);at_builtin;refine Kd.R_append k45 (w0:=w) w.heap.size rfl (.tmp 25) (.tmp 34) 42 45 (.agg #[(.int .i64 0),(.int .i64 0),(.int .i64 0),(.bool false)]) 32 rfl Tryd.underlying42 info45 rfl (by decide) (by omega) u3 x3_1 (⟨wrap64 (t224),x4_1,wrap64 (x4_1+t225),(t225 == 1)⟩:S45) [.int .i64 (wrap64 (t224)),.int .i64 x4_1,.int .i64 (wrap64 (x4_1+t225)),.bool (t225 == 1)] (fun _=>True) (fun _=>False) rfl rfl ?aP (fun _ hk=>hk.elim) ?aF ?aO ?aB ?aS ?aL ?_;(case aP=>exact k45_mkM _ _ _ (⟨wrap64 (t224),x4_1,wrap64 (x4_1+t225),(t225 == 1)⟩:S45));(case aB=>exact (by repeat (first|(with_reducible first|exact HB.out|apply below_alloc|apply pw_below_drewN|apply below_drew1)|exact HB.out)));(case aF=>exact (fun _ _=>trivial));(case aO=>exact (by (with_reducible repeat (first|apply Kd.R_alloc|apply Kd.R_drewN|apply Kd.R_drew));exact HO_3.out));(case aS=>exact (below_size (by repeat (first|(with_reducible first|exact HB.out|apply below_alloc|apply pw_below_drewN|apply below_drew1)|exact HB.out))));(case aL=>have:=LMc7.out;omega);intro v227 w9 ho hb hg hat;rw [← Ny226.out] at ho;have n0_:=Aside0.mk (hb);have n1_:=Aside0.mk (ho);clear HB;clear HO_3;have HB:=n0_;have HO228:=n1_;clear n0_ n1_;clear ho hb hg hat))
        go_roundg k1
        case measure=>have:=HK1.out;omega
        case rel=>exact ⟨(y226),(wrap64 (x4_1+t225)),(by first|rfl|(simp;done)|(simp [*];done)),H',⟨by have:=HK1.out;omega⟩,⟨by (with_reducible repeat (first|apply Kd.R_alloc|apply Kd.R_drewN|apply Kd.R_drew));exact HO228.out⟩,⟨by repeat (first|(with_reducible first|exact HB.out|apply below_alloc|apply pw_below_drewN|apply below_drew1)|exact HB.out)⟩⟩
       ·
        rw [if_neg c7] at H
        exact absurd H (by simp)
      ·
       rw [if_neg c6] at H
       have c6b0:(t224 == 65533)=false:=beq_eq_false_iff_ne.mpr c6
       have c6b1:(t224 != 65533)=true:=bne_iff_ne.mpr c6
       by_cases c10:x3_1.length<4398046511104
       ·
        rw [if_pos c10] at H
        have LMc10:=Aside0.mk c10
        clear c10
        obtain ⟨y229,hy229⟩:∃ y_:List (S45),y_=(x3_1 ++ [(⟨wrap64 (t224),x4_1,wrap64 (x4_1+t225),false⟩:S45)]):=⟨_,rfl⟩
        replace H:(impl_read.l0 k1 a0 y229 (wrap64 (x4_1+t225)))=some r:=by first|(rw [hy229];with_reducible exact H)|(have H2_:=(Option.bind_some _ _).symm.trans H;rw [hy229];with_reducible exact H2_)|(have H2_:=(Option.bind_some _ _).symm.trans H;with_reducible exact H2_)|with_reducible exact H|(rw [hy229];exact H)|exact H
        have Ny229:=Aside0.mk hy229
        clear hy229
        have H':=Aside0.mk H
        clear H
        go_wp2_with (first|((with_reducible refine gate_callee (f:=65) rfl ?_);refine goesL_ (some 16) rfl rfl Tryd.func65 (by kernel_rfl) rfl #[.string (a0.extract (x4_1:Int).toNat a0.size)] rfl (by (try simp only [List.map_toArray,List.map_cons,List.map_nil]);first|done|rfl|(simp only [List.length_drop,List.length_take];rfl)) ?_;(with_reducible refine (utf8_DecodeRuneInString.calls (a0.extract (x4_1:Int).toNat a0.size) t224 t225 _ ?side1 A5.out).mono ?_);(case side1=>first|exact HTAB.out|exact Tabs_drewN HTAB.out _|exact Tabs_below HTAB.out (by repeat (first|(with_reducible first|exact HB.out|apply below_alloc|apply pw_below_drewN|apply below_drew1)|exact HB.out)));rintro e w11 ⟨rfl,hb⟩;refine ⟨_,rfl,?_⟩;have n0_:=Aside0.mk (Kd.R_below (by (with_reducible repeat (first|apply Kd.R_alloc|apply Kd.R_drewN|apply Kd.R_drew));exact HO_3.out) hb);have n1_:=Aside0.mk (below_step (by repeat (first|(with_reducible first|exact HB.out|apply below_alloc|apply pw_below_drewN|apply below_drew1)|exact HB.out)) hb);clear HO_3;clear HB;have HO_3:=n0_;have HB:=n1_;clear n0_ n1_;(try clear hb);(try clear hb2);(try clear hk);(try clear hi))|((with_reducible refine gate_builtin (b:=.append) (xs:=#[.tmp 25,.tmp 34]) rfl ?_);at_builtin;refine Kd.R_append k45 (w0:=w) w.heap.size rfl (.tmp 25) (.tmp 34) 42 45 (.agg #[(.int .i64 0),(.int .i64 0),(.int .i64 0),(.bool false)]) 32 rfl Tryd.underlying42 info45 rfl (by decide) (by omega) u3 x3_1 (⟨wrap64 (t224),x4_1,wrap64 (x4_1+t225),false⟩:S45) [.int .i64 (wrap64 (t224)),.int .i64 x4_1,.int .i64 (wrap64 (x4_1+t225)),.bool false] (fun _=>True) (fun _=>False) rfl rfl ?aP (fun _ hk=>hk.elim) ?aF ?aO ?aB ?aS ?aL ?_;(case aP=>exact k45_mkM _ _ _ (⟨wrap64 (t224),x4_1,wrap64 (x4_1+t225),false⟩:S45));(case aB=>exact (by repeat (first|(with_reducible first|exact HB.out|apply below_alloc|apply pw_below_drewN|apply below_drew1)|exact HB.out)));(case aF=>exact (fun _ _=>trivial));(case aO=>exact (by (with_reducible repeat (first|apply Kd.R_alloc|apply Kd.R_drewN|apply Kd.R_drew));exact HO_3.out));(case aS=>exact (below_size (by repeat (first|(with_reducible first|exact HB.out|apply below_alloc|apply pw_below_drewN|apply below_drew1)|exact HB.out))));(case aL=>have:=LMc10.out;omega);intro v230 w12 ho hb hg hat;rw [← Ny229.out] at ho;have n0_:=Aside0.mk (hb);have n1_:=Aside0.mk (ho);clear HB;clear HO_3;have HB:=n0_;have HO231:=n1_;clear n0_ n1_;clear ho hb hg hat))
        go_roundg k1
        case measure=>have:=HK1.out;omega
        case rel=>exact ⟨(y229),(wrap64 (x4_1+t225)),(by first|rfl|(simp;done)|(simp [*];done)),H',⟨by have:=HK1.out;omega⟩,⟨by (with_reducible repeat (first|apply Kd.R_alloc|apply Kd.R_drewN|apply Kd.R_drew));exact HO231.out⟩,⟨by repeat (first|(with_reducible first|exact HB.out|apply below_alloc|apply pw_below_drewN|apply below_drew1)|exact HB.out)⟩⟩
       ·
        rw [if_neg c10] at H
        exact absurd H (by simp)
     ·
      rw [if_neg c4] at H
      exact absurd H (by simp)
    ·
     rw [if_neg c3] at H
     exact absurd H (by simp)
   ·
    rw [if_neg c2] at H
    have c2b0:decide (x4_1<(a0.size:Int))=false:=decide_eq_false c2
    clear c2
    obtain rfl:=Option.some.inj H
    go_wp2
    go_ret
    exact ⟨_,by first|rfl|(simp [errW_none,errW_some] <;> rfl)|(simp [*,errW_none,errW_some] <;> rfl),by (with_reducible repeat (first|apply Kd.R_alloc|apply Kd.R_drewN|apply Kd.R_drew));exact HO_3.out,by repeat (first|(with_reducible first|exact HB.out|apply below_alloc|apply pw_below_drewN|apply below_drew1)|exact HB.out)⟩
def impl_points.l0:Nat→List Int→List (S45)→Int→Int→Option (List Int)
 | 0,_,_,_,_=>none
 | k+1,x3,x7,x8,x9=>if x9<x8 then (if 0≤x9 then (if x9<(x7.length:Int) then (if x3.length<17592186044416 then (impl_points.l0 k (x3 ++ [(rd_T45 x7 x9).f0]) x7 x8 (wrap64 (x9+1))) else (none)) else (none)) else (none)) else (some x3)
def impl_points.f (k:Nat) (a0:ByteArray):Option (List Int):=(impl_read.f k a0).bind fun t232=>(impl_points.l0 k ([]:List Int) t232 (t232.length:Int) 0)
set_option maxHeartbeats 8000000 in
set_option maxRecDepth 100000 in
theorem impl_points.calls (k:Nat) (a0:ByteArray) (r:List Int) (w:World) (hT:Tabs w) (h:impl_points.f k a0=some r) :
  Calls Tryd.prog 20 #[.string a0] w fun e w'=>∃ v0_:Value,e = .returned (v0_)∧Kd.R (Kd.int .i64) 2 w' w.heap.size (fun _=>True) v0_ r∧Below w.heap.size w w':=by
 have hu45:=Tryd.underlying45
 have HTAB:=Aside0.mk hT
 clear hT
 have HB:=Aside0.mk (Below.refl w.heap.size w)
 have H:((impl_read.f k a0).bind fun t232=>(impl_points.l0 k ([]:List Int) t232 (t232.length:Int) 0))=some r:=h
 clear h
 replace H:=Option.bind_eq_some_iff.mp H
 obtain ⟨t232,A20,H⟩:=H
 replace H:(impl_points.l0 k ([]:List Int) t232 (t232.length:Int) 0)=some r:=H
 have A2:=Aside0.mk A20
 clear A20
 have H':=Aside0.mk H
 clear H
 go_enter Tryd.func20,Tryd.ntmps20
 go_wp2_with (first|((with_reducible refine gate_callee (f:=43) rfl ?_);refine goesL_ (some 7) rfl rfl Tryd.func43 (by kernel_rfl) rfl #[.string a0] rfl (by (try simp only [List.map_toArray,List.map_cons,List.map_nil]);first|done|rfl|(simp only [List.length_drop,List.length_take];rfl)) ?_;(with_reducible refine (impl_read.calls k a0 t232 _ ?side1 A2.out).mono ?_);(case side1=>first|exact HTAB.out|exact Tabs_drewN HTAB.out _|exact Tabs_below HTAB.out (by repeat (first|(with_reducible first|exact HB.out|apply below_alloc|apply pw_below_drewN|apply below_drew1)|exact HB.out)));rintro e w3 ⟨v233,rfl,ho0,hb⟩;refine ⟨_,rfl,?_⟩;have n0_:=Aside0.mk (Kd.R_lower ho0 (below_size (by repeat (first|(with_reducible first|exact HB.out|apply below_alloc|apply pw_below_drewN|apply below_drew1)|exact HB.out))));have n1_:=Aside0.mk (below_step (by repeat (first|(with_reducible first|exact HB.out|apply below_alloc|apply pw_below_drewN|apply below_drew1)|exact HB.out)) hb);clear HB;have HO234:=n0_;have HB:=n1_;clear n0_ n1_;(try clear hb);(try clear hb2);(try clear hk);(try clear hi);(try clear ho0);obtain ⟨Ao4,co4,eo4⟩:=Kd.R_slice HO234.out;subst eo4))
 go_loopg [3,9] k (fun kq v3 v9 w'=>∃ (x3_1:List Int) (x9_1:Int),v9 = .int .i64 x9_1∧Aside0 (impl_points.l0 kq x3_1 t232 (t232.length:Int) x9_1=some r)∧Aside0 (kq≤k)∧Aside0 (Kd.R (Kd.int .i64) 2 w' w.heap.size (fun _=>True) v3 x3_1)∧Aside0 (Kd.R k45 45 w' w.heap.size (fun _=>True) (.slice Ao4 t232.length co4) t232)∧Aside0 (Below w.heap.size w w'))
 case atStart=>exact ⟨(([]:List Int)),(0),(by first|rfl|(simp;done)|(simp [*];done)),H',⟨Nat.le_refl _⟩,⟨by first|exact Kd.R_nil _ _ _ _ _|exact Kd.N_nil _ _ _ _ _|exact Kd.V_nil _ _ _ _ _|exact Kd.Q_nil _ _ _ _ _|exact Kd.S_nil _ _ _ _ _⟩,⟨by (with_reducible repeat (first|apply Kd.R_alloc|apply Kd.R_drewN|apply Kd.R_drew));exact HO234.out⟩,⟨by repeat (first|(with_reducible first|exact HB.out|apply below_alloc|apply pw_below_drewN|apply below_drew1)|exact HB.out)⟩⟩
 case round =>
  clear H'
  try clear c2
  try clear p2
  try clear c4
  obtain ⟨x3_1,x9_1,rfl,HA,HK1,HO_3,HO_7,HB⟩:=hrel
  cases gk with
  | zero=>exact absurd HA.out (by simp [impl_points.l0])
  | succ k1 =>
   have H:=HA.out
   clear HA
   simp only [impl_points.l0] at H
   by_cases c5:x9_1<(t232.length:Int)
   ·
    rw [if_pos c5] at H
    have c5b0:decide (x9_1<(t232.length:Int))=true:=decide_eq_true c5
    clear c5
    by_cases c6:0≤x9_1
    ·
     rw [if_pos c6] at H
     have c6b0:decide (0≤x9_1)=true:=decide_eq_true c6
     clear c6
     by_cases c7:x9_1<(t232.length:Int)
     ·
      rw [if_pos c7] at H
      have c7b0:decide (x9_1<(t232.length:Int))=true:=decide_eq_true c7
      clear c7
      by_cases c8:x3_1.length<17592186044416
      ·
       rw [if_pos c8] at H
       have LMc8:=Aside0.mk c8
       clear c8
       obtain ⟨y237,hy237⟩:∃ y_:List Int,y_=(x3_1 ++ [(rd_T45 t232 x9_1).f0]):=⟨_,rfl⟩
       replace H:(impl_points.l0 k1 y237 t232 (t232.length:Int) (wrap64 (x9_1+1)))=some r:=by first|(rw [hy237];with_reducible exact H)|(have H2_:=(Option.bind_some _ _).symm.trans H;rw [hy237];with_reducible exact H2_)|(have H2_:=(Option.bind_some _ _).symm.trans H;with_reducible exact H2_)|with_reducible exact H|(rw [hy237];exact H)|exact H
       have Ny237:=Aside0.mk hy237
       clear hy237
       have H':=Aside0.mk H
       clear H
       have p235:0≤(x9_1:Int):=of_decide_eq_true (by first|(with_reducible assumption)|assumption)
       have q235:x9_1<(t232.length:Int):=of_decide_eq_true (by first|(with_reducible assumption)|assumption)
       obtain ⟨ad235,e235,hx235_0,hx235_1,hx235_2,hx235_3⟩:=at_T45 (Kd.R_reads' HO_7.out).2.2 x9_1 p235 q235
       cases e235
       replace p235:=eq_true p235
       replace q235:=eq_true q235
       go_wp2_with (first|((with_reducible refine gate_dst (N:=5) rfl ?_);refine box_event ?hg (N:=5) ?hd (cs:=#[.int .i64 0,.int .i64 0,.int .i64 0,.bool false]) (t:=45) ?hr ?_;(case hd=>rfl);(case hg=>rfl);(case hr=>first|(go_simp;done)|(go_simp;rfl));intro gb236 hg w9 hbox hb;have n0_:=Aside0.mk (Kd.R_below (by (with_reducible repeat (first|apply Kd.R_alloc|apply Kd.R_drewN|apply Kd.R_drew));exact HO_3.out) hb);have n1_:=Aside0.mk (Kd.R_below (Kd.R_elderB (by (with_reducible repeat (first|apply Kd.R_alloc|apply Kd.R_drewN|apply Kd.R_drew));exact HO_7.out) gb236 (Nat.le_of_eq hg.symm)) hb);have n2_:=Aside0.mk (below_step (by repeat (first|(with_reducible first|exact HB.out|apply below_alloc|apply pw_below_drewN|apply below_drew1)|exact HB.out)) hb);have n3_:=Aside0.mk (hbox);have n4_:=Aside0.mk ((by rw [hg];exact (below_size (by repeat (first|(with_reducible first|exact HB.out|apply below_alloc|apply pw_below_drewN|apply below_drew1)|exact HB.out))):w.heap.size≤gb236));have n5_:=Aside0.mk ((by rw [hg];exact (below_size (by repeat (first|(with_reducible first|exact HB.out|apply below_alloc|apply pw_below_drewN|apply below_drew1)|exact HB.out))):w.heap.size≤gb236));clear HO_3;clear HO_7;clear HB;have HO_3:=n0_;have HO_7:=n1_;have HB:=n2_;have BK236:=n3_;have GW236:=n4_;have GE236:=n5_;clear n0_ n1_ n2_ n3_ n4_ n5_;clear hb hbox hg;have hcz10_0:w9.cell? ⟨gb236,0,none⟩=some (.int .i64 0):=(blk_cell BK236.out 0).trans rfl;have hcz10_1:w9.cell? ⟨gb236,1,none⟩=some (.int .i64 0):=(blk_cell BK236.out 1).trans rfl;have hcz10_2:w9.cell? ⟨gb236,2,none⟩=some (.int .i64 0):=(blk_cell BK236.out 2).trans rfl;have hcz10_3:w9.cell? ⟨gb236,3,none⟩=some (.bool false):=(blk_cell BK236.out 3).trans rfl;have hfz10_0:=blk_frozen BK236.out 0;have hfz10_1:=blk_frozen BK236.out 1;have hfz10_2:=blk_frozen BK236.out 2;have hfz10_3:=blk_frozen BK236.out 3)|((with_reducible refine gate_builtin (b:=.append) (xs:=#[.tmp 13,.tmp 16]) rfl ?_);at_builtin;refine Kd.R_append (Kd.int .i64) (w0:=w) w.heap.size rfl (.tmp 13) (.tmp 16) 27 2 (.int .i64 0) 8 rfl Tryd.underlying27 info2 rfl (by decide) (by omega) u3 x3_1 ((rd_T45 t232 x9_1).f0) [.int .i64 ((rd_T45 t232 x9_1).f0)] (fun _=>True) (fun _=>False) rfl (by first|(go_simp;done)|(go_simp;rfl)) ?aP (fun _ hk=>hk.elim) ?aF ?aO ?aB ?aS ?aL ?_;(case aP=>exact rfl);(case aB=>exact (by repeat (first|(with_reducible first|exact HB.out|apply below_alloc|apply pw_below_drewN|apply below_drew1|refine below_set ?_ GE236.out)|exact HB.out)));(case aF=>exact (fun _ _=>trivial));(case aO=>exact (by (with_reducible repeat (first|apply Kd.R_alloc|apply Kd.R_drewN|apply Kd.R_drew));exact Kd.R_mono (Kd.R_far (p:=⟨gb236,3,none⟩) (Kd.R_far (p:=⟨gb236,2,none⟩) (Kd.R_far (p:=⟨gb236,1,none⟩) (Kd.R_far (p:=⟨gb236,0,none⟩) (Kd.R_types HO_3.out BK236.out (by decide)) (fun _ hk=>hk.2) (.int .i64 ((rd_T45 t232 x9_1).f0))) (fun _ hk=>hk.2) (.int .i64 ((rd_T45 t232 x9_1).f1))) (fun _ hk=>hk.2) (.int .i64 ((rd_T45 t232 x9_1).f2))) (fun _ hk=>hk.2) (.bool ((rd_T45 t232 x9_1).f3))) (fun _ hk=>trivial)));(case aS=>exact (below_size (by repeat (first|(with_reducible first|exact HB.out|apply below_alloc|apply pw_below_drewN|apply below_drew1|refine below_set ?_ GE236.out)|exact HB.out))));(case aL=>have:=LMc8.out;omega);intro v238 w11 ho hb hg hat;rw [← Ny237.out] at ho;have n0_:=Aside0.mk (Kd.R_over' (by (with_reducible repeat (first|apply Kd.R_alloc|apply Kd.R_drewN|apply Kd.R_drew));exact (Kd.R_mono (Kd.R_far (p:=⟨gb236,3,none⟩) (Kd.R_far (p:=⟨gb236,2,none⟩) (Kd.R_far (p:=⟨gb236,1,none⟩) (Kd.R_far (p:=⟨gb236,0,none⟩) (Kd.R_mono HO_7.out (fun k_ hk=>(⟨hk,hk.2⟩:_∧k_≠gb236))) (fun _ hk=>hk.2) (.int .i64 ((rd_T45 t232 x9_1).f0))) (fun _ hk=>hk.2) (.int .i64 ((rd_T45 t232 x9_1).f1))) (fun _ hk=>hk.2) (.int .i64 ((rd_T45 t232 x9_1).f2))) (fun _ hk=>hk.2) (.bool ((rd_T45 t232 x9_1).f3))) (fun _ h_=>h_.1))) (Kd.R_typed (by (with_reducible repeat (first|apply Kd.R_alloc|apply Kd.R_drewN|apply Kd.R_drew));exact (Kd.R_mono (Kd.R_far (p:=⟨gb236,3,none⟩) (Kd.R_far (p:=⟨gb236,2,none⟩) (Kd.R_far (p:=⟨gb236,1,none⟩) (Kd.R_far (p:=⟨gb236,0,none⟩) (Kd.R_types HO_3.out BK236.out (by decide)) (fun _ hk=>hk.2) (.int .i64 ((rd_T45 t232 x9_1).f0))) (fun _ hk=>hk.2) (.int .i64 ((rd_T45 t232 x9_1).f1))) (fun _ hk=>hk.2) (.int .i64 ((rd_T45 t232 x9_1).f2))) (fun _ hk=>hk.2) (.bool ((rd_T45 t232 x9_1).f3))) (fun _ h_=>h_.1)))) (by decide) hg);have n1_:=Aside0.mk (blk_grown (g:=gb236) (o:=.cells #[.int .i64 ((rd_T45 t232 x9_1).f0),.int .i64 ((rd_T45 t232 x9_1).f1),.int .i64 ((rd_T45 t232 x9_1).f2),.bool ((rd_T45 t232 x9_1).f3)] 45 (0,0)) (by (with_reducible repeat (first|refine blk_drewN ?_ _|refine blk_drew ?_|refine blk_alloc ?_ _));refine blk_put (cs:=#[.int .i64 ((rd_T45 t232 x9_1).f0),.int .i64 ((rd_T45 t232 x9_1).f1),.int .i64 ((rd_T45 t232 x9_1).f2),.bool false]) ?_ 3 _ rfl;(with_reducible repeat (first|refine blk_drewN ?_ _|refine blk_drew ?_|refine blk_alloc ?_ _));refine blk_put (cs:=#[.int .i64 ((rd_T45 t232 x9_1).f0),.int .i64 ((rd_T45 t232 x9_1).f1),.int .i64 0,.bool false]) ?_ 2 _ rfl;(with_reducible repeat (first|refine blk_drewN ?_ _|refine blk_drew ?_|refine blk_alloc ?_ _));refine blk_put (cs:=#[.int .i64 ((rd_T45 t232 x9_1).f0),.int .i64 0,.int .i64 0,.bool false]) ?_ 1 _ rfl;(with_reducible repeat (first|refine blk_drewN ?_ _|refine blk_drew ?_|refine blk_alloc ?_ _));refine blk_put (cs:=#[.int .i64 0,.int .i64 0,.int .i64 0,.bool false]) ?_ 0 _ rfl;(with_reducible repeat (first|refine blk_drewN ?_ _|refine blk_drew ?_|refine blk_alloc ?_ _));exact BK236.out) hg (Kd.R_ne HO_3.out BK236.out (by decide)));have n2_:=Aside0.mk (hb);have n3_:=Aside0.mk (ho);clear HO_7;clear BK236;clear HB;clear HO_3;have HO_7:=n0_;have BK236:=n1_;have HB:=n2_;have HO239:=n3_;clear n0_ n1_ n2_ n3_;clear ho hb hg hat))
       go_roundg k1
       case measure=>have:=HK1.out;omega
       case rel=>exact ⟨(y237),(wrap64 (x9_1+1)),(by first|rfl|(simp;done)|(simp [*];done)),H',⟨by have:=HK1.out;omega⟩,⟨by (with_reducible repeat (first|apply Kd.R_alloc|apply Kd.R_drewN|apply Kd.R_drew));exact HO239.out⟩,⟨by (with_reducible repeat (first|apply Kd.R_alloc|apply Kd.R_drewN|apply Kd.R_drew));exact Kd.R_mono HO_7.out (fun _ hk=>trivial)⟩,⟨by repeat (first|(with_reducible first|exact HB.out|apply below_alloc|apply pw_below_drewN|apply below_drew1|refine below_set ?_ GE236.out)|exact HB.out)⟩⟩
      ·
       rw [if_neg c8] at H
       exact absurd H (by simp)
     ·
      rw [if_neg c7] at H
      exact absurd H (by simp)
    ·
     rw [if_neg c6] at H
     exact absurd H (by simp)
   ·
    rw [if_neg c5] at H
    have c5b0:decide (x9_1<(t232.length:Int))=false:=decide_eq_false c5
    clear c5
    obtain rfl:=Option.some.inj H
    go_wp2
    go_ret
    exact ⟨_,by first|rfl|(simp [errW_none,errW_some] <;> rfl)|(simp [*,errW_none,errW_some] <;> rfl),by (with_reducible repeat (first|apply Kd.R_alloc|apply Kd.R_drewN|apply Kd.R_drew));exact HO_3.out,by repeat (first|(with_reducible first|exact HB.out|apply below_alloc|apply pw_below_drewN|apply below_drew1)|exact HB.out)⟩
def impl_piecesOf.l0:Nat→ByteArray→List Int→List ByteArray→Int→Option (List ByteArray)
 | 0,_,_,_,_=>none
 | k+1,x0,x1,x5,x6=>if x6<(x1.length:Int) then (if 0≤(wrap64 (x6-1)) then (if (wrap64 (x6-1))<(x1.length:Int) then (if 0≤x6 then (if 0≤(rd x1 (wrap64 (x6-1))) then (if (rd x1 (wrap64 (x6-1)))≤(rd x1 x6) then (if (rd x1 x6)≤(x0.size:Int) then (if x5.length<8796093022208 then (impl_piecesOf.l0 k x0 x1 (x5 ++ [x0.extract ((rd x1 (wrap64 (x6-1))):Int).toNat ((rd x1 x6):Int).toNat]) (wrap64 (x6+1))) else (none)) else (none)) else (none)) else (none)) else (none)) else (none)) else (none)) else (some x5)
def impl_piecesOf.f (k:Nat) (a0:ByteArray) (l1:List Int):Option (List ByteArray):=impl_piecesOf.l0 k a0 l1 ([]:List ByteArray) 1
def impl_piecesOf.T5:Bool × List (List Nat × List Nat):=(true,[([],[]),([],[]),([],[]),([],[]),([3],[3]),([2,4],[2,4]),([5],[5]),([],[]),([],[]),([7,8],[7,8]),([9],[9]),([1,6,10],[1,6,10]),([11],[11]),([0,12],[0,12]),([13,13,0,1,2,3,4,5,6,7,8,9,10,11,12,13],[0,13])])
def impl_piecesOf.B5:List Nat:=[0,0,0,0,8,28,60,0,0,384,896,2046,4094,8191,16383]
theorem impl_piecesOf.tab5:rtab .any (opsOf Tryd.f50 5)=impl_piecesOf.T5:=by kernel_rfl
theorem impl_piecesOf.bits5:waitsOk impl_piecesOf.T5.2 impl_piecesOf.B5=true:=by kernel_rfl
set_option maxHeartbeats 8000000 in
set_option maxRecDepth 100000 in
theorem impl_piecesOf.calls (k:Nat) (a0:ByteArray) (A1:Option Addr) (c1:Nat) (l1:List Int) (r:List ByteArray) (w:World) (hr1:Kd.C (Kd.int .i64) w A1 l1.length l1) (hc1:l1.length≤c1) (h:impl_piecesOf.f k a0 l1=some r) :
  Calls Tryd.prog 50 #[.string a0,.slice A1 l1.length c1] w fun e w'=>∃ v0_:Value,e = .returned (v0_)∧Kd.R Kd.string 9 w' w.heap.size (fun _=>True) v0_ r∧Below w.heap.size w w':=by
 have HR1:=Aside0.mk hr1
 have HC1:=Aside0.mk hc1
 clear hr1 hc1
 have HB:=Aside0.mk (Below.refl w.heap.size w)
 have H:(impl_piecesOf.l0 k a0 l1 ([]:List ByteArray) 1)=some r:=h
 clear h
 have H':=Aside0.mk H
 clear H
 go_enter Tryd.func50,Tryd.ntmps50
 go_wp2
 go_loopg [5,6] k (fun kq v5 v6 w'=>∃ (x5_1:List ByteArray) (x6_1:Int),v6 = .int .i64 x6_1∧Aside0 (impl_piecesOf.l0 kq a0 l1 x5_1 x6_1=some r)∧Aside0 (kq≤k)∧Aside0 (Kd.R Kd.string 9 w' w.heap.size (fun _=>True) v5 x5_1)∧Aside0 (Below w.heap.size w w'))
 case atStart=>exact ⟨(([]:List ByteArray)),(1),(by first|rfl|(simp;done)|(simp [*];done)),H',⟨Nat.le_refl _⟩,⟨by first|exact Kd.R_nil _ _ _ _ _|exact Kd.N_nil _ _ _ _ _|exact Kd.V_nil _ _ _ _ _|exact Kd.Q_nil _ _ _ _ _|exact Kd.S_nil _ _ _ _ _⟩,⟨by repeat (first|(with_reducible first|exact HB.out|apply below_alloc|apply pw_below_drewN|apply below_drew1)|exact HB.out)⟩⟩
 case round =>
  clear H'
  try clear c1
  try clear p2
  obtain ⟨x5_1,x6_1,rfl,HA,HK1,HO_5,HB⟩:=hrel
  cases gk with
  | zero=>exact absurd HA.out (by simp [impl_piecesOf.l0])
  | succ k1 =>
   have H:=HA.out
   clear HA
   simp only [impl_piecesOf.l0] at H
   by_cases c3:x6_1<(l1.length:Int)
   ·
    rw [if_pos c3] at H
    have c3b0:decide (x6_1<(l1.length:Int))=true:=decide_eq_true c3
    clear c3
    obtain ⟨ji4,hji4⟩:∃ j_:Int,(wrap64 (x6_1-1))=j_:=⟨_,rfl⟩
    replace H:(if 0≤(ji4) then (if (ji4)<(l1.length:Int) then (if 0≤x6_1 then (if 0≤(rd l1 (ji4)) then (if (rd l1 (ji4))≤(rd l1 x6_1) then (if (rd l1 x6_1)≤(a0.size:Int) then (if x5_1.length<8796093022208 then (impl_piecesOf.l0 k1 a0 l1 (x5_1 ++ [a0.extract ((rd l1 (ji4)):Int).toNat ((rd l1 x6_1):Int).toNat]) (wrap64 (x6_1+1))) else (none)) else (none)) else (none)) else (none)) else (none)) else (none)) else (none))=some r:=by first|(rw [hji4] at H;exact H)|(simp only [hji4] at H ⊢;exact H)
    have hji4w:(IntKind.i64.wrap (x6_1-1))=ji4:=(i64_w _).trans hji4
    by_cases c5:0≤(ji4)
    ·
     rw [if_pos c5] at H
     have c5b0:decide (0≤(ji4))=true:=decide_eq_true c5
     clear c5
     by_cases c6:(ji4)<(l1.length:Int)
     ·
      rw [if_pos c6] at H
      have c6b0:decide ((ji4)<(l1.length:Int))=true:=decide_eq_true c6
      clear c6
      by_cases c7:0≤x6_1
      ·
       rw [if_pos c7] at H
       have c7b0:decide (0≤x6_1)=true:=decide_eq_true c7
       clear c7
       by_cases c8:0≤(rd l1 (ji4))
       ·
        rw [if_pos c8] at H
        have c8b0:=eq_true c8
        have c8b1:decide (0≤(rd l1 (ji4)))=true:=decide_eq_true c8
        clear c8
        by_cases c9:(rd l1 (ji4))≤(rd l1 x6_1)
        ·
         rw [if_pos c9] at H
         have c9b0:=eq_true c9
         have c9b1:decide ((rd l1 (ji4))≤(rd l1 x6_1))=true:=decide_eq_true c9
         clear c9
         by_cases c10:(rd l1 x6_1)≤(a0.size:Int)
         ·
          rw [if_pos c10] at H
          have c10b0:=eq_true c10
          have c10b1:decide ((rd l1 x6_1)≤(a0.size:Int))=true:=decide_eq_true c10
          clear c10
          by_cases c11:x5_1.length<8796093022208
          ·
           rw [if_pos c11] at H
           have LMc11:=Aside0.mk c11
           clear c11
           obtain ⟨y242,hy242⟩:∃ y_:List ByteArray,y_=(x5_1 ++ [a0.extract ((rd l1 (ji4)):Int).toNat ((rd l1 x6_1):Int).toNat]):=⟨_,rfl⟩
           replace H:(impl_piecesOf.l0 k1 a0 l1 y242 (wrap64 (x6_1+1)))=some r:=by first|(rw [hy242];with_reducible exact H)|(have H2_:=(Option.bind_some _ _).symm.trans H;rw [hy242];with_reducible exact H2_)|(have H2_:=(Option.bind_some _ _).symm.trans H;with_reducible exact H2_)|with_reducible exact H|(rw [hy242];exact H)|exact H
           have Ny242:=Aside0.mk hy242
           clear hy242
           have H':=Aside0.mk H
           clear H
           try go_wp2
           have n0_:=Aside0.mk (Kd.R_drew HO_5.out)
           have n1_:=Aside0.mk (below_drew1 HB.out)
           clear HO_5
           clear HB
           have HO_5:=n0_
           have HB:=n1_
           clear n0_ n1_
           have p240:0≤((ji4):Int):=of_decide_eq_true (by first|(with_reducible assumption)|assumption)
           have q240:(ji4)<(l1.length:Int):=of_decide_eq_true (by first|(with_reducible assumption)|assumption)
           obtain ⟨ad240,e240,hx240_0⟩:=Kd.at_int HR1.out (ji4) p240 q240
           have hw240_0:=hx240_0
           cases e240
           replace hx240_0:=(HB.out.cell (World.block_lt_of_cell? _ _ hx240_0)).trans hx240_0
           replace p240:=eq_true p240
           replace q240:=eq_true q240
           have p241:0≤(x6_1:Int):=of_decide_eq_true (by first|(with_reducible assumption)|assumption)
           have q241:x6_1<(l1.length:Int):=of_decide_eq_true (by first|(with_reducible assumption)|assumption)
           obtain ⟨ad241,e241,hx241_0⟩:=Kd.at_int HR1.out x6_1 p241 q241
           have hw241_0:=hx241_0
           obtain rfl:ad240=ad241:=(by injection e241)
           replace hx241_0:=(HB.out.cell (World.block_lt_of_cell? _ _ hx241_0)).trans hx241_0
           replace p241:=eq_true p241
           replace q241:=eq_true q241
           refine start_ (n:=15) (S:=fun w'=>w'.cell? (ad240.add ((ji4)).toNat)=some (.int .i64 (rd l1 (ji4)))∧w'.cell? (ad240.add (x6_1).toNat)=some (.int .i64 (rd l1 x6_1))) (ds:=[]) #[false,false,false,false,false,false,false,false,false,false,false,false,false,false,false] (by kernel_rfl) rfl rfl ⟨((HB.out.cell (World.block_lt_of_cell? _ _ hw240_0)).trans hw240_0),((HB.out.cell (World.block_lt_of_cell? _ _ hw241_0)).trans hw241_0)⟩ (fun hHeld=>?_);refine with_tabW impl_piecesOf.tab5 impl_piecesOf.bits5 (fun HT_ HW_=>?_)
           generalize wr.drew=w12 at HO_5 HB hx240_0 hx241_0 hHeld ⊢
           refine pure_ (i:=0) (N:=some 13) (v:=?_) (a':=?_) #[true,false,false,false,false,false,false,false,false,false,false,false,false,false,false] rfl rfl (any_of HT_.out (by kernel_rfl)) (fun _ _ _ h=>h) (Or.inl ⟨by rfl,?_⟩) ?_ ?_
           rotate_left
           ·
            intro w'
            go_simp
            with_reducible rfl
           rotate_left
           ·
            simp only [Act.put,List.setIfInBounds_toArray,List.set_cons_zero,List.set_cons_succ,i64_w,i32_w]
            rfl
           refine pure_ (i:=1) (N:=some 14) (v:=?_) (a':=?_) #[true,true,false,false,false,false,false,false,false,false,false,false,false,false,false] rfl rfl (any_of HT_.out (by kernel_rfl)) (fun _ _ _ h=>h) (Or.inl ⟨by rfl,?_⟩) ?_ ?_
           rotate_left
           ·
            intro w'
            go_simp
            with_reducible rfl
           rotate_left
           ·
            simp only [Act.put,List.setIfInBounds_toArray,List.set_cons_zero,List.set_cons_succ,i64_w,i32_w]
            rfl
           refine pure_ (i:=2) (N:=some 15) (v:=?_) (a':=?_) #[true,true,true,false,false,false,false,false,false,false,false,false,false,false,false] rfl rfl (any_of HT_.out (by kernel_rfl)) (fun _ _ _ h=>h) (Or.inl ⟨by rfl,?_⟩) ?_ ?_
           rotate_left
           ·
            intro w'
            go_simp
            with_reducible rfl
           rotate_left
           ·
            simp only [Act.put,List.setIfInBounds_toArray,List.set_cons_zero,List.set_cons_succ,i64_w,i32_w]
            rfl
           refine pure_ (i:=3) (N:=some 16) (v:=?_) (a':=?_) #[true,true,true,true,false,false,false,false,false,false,false,false,false,false,false] rfl rfl (any_of HT_.out (by kernel_rfl)) (fun _ _ _ h=>h) (Or.inl ⟨by rfl,?_⟩) ?_ ?_
           rotate_left
           ·
            intro w'
            go_simp
            with_reducible rfl
           rotate_left
           ·
            simp only [Act.put,List.setIfInBounds_toArray,List.set_cons_zero,List.set_cons_succ,i64_w,i32_w]
            rfl
           refine pure_ (i:=4) (N:=some 17) (v:=?_) (a':=?_) #[true,true,true,true,true,false,false,false,false,false,false,false,false,false,false] rfl rfl (any_of HT_.out (by kernel_rfl)) (fun _ _ _ h=>h) (Or.inl ⟨by rfl,?_⟩) ?_ ?_
           rotate_left
           ·
            intro w'
            go_simp
            with_reducible rfl
           rotate_left
           ·
            simp only [Act.put,List.setIfInBounds_toArray,List.set_cons_zero,List.set_cons_succ,i64_w,i32_w]
            rfl
           refine pure_ (i:=5) (N:=some 18) (v:=?_) (a':=?_) #[true,true,true,true,true,true,false,false,false,false,false,false,false,false,false] rfl rfl (any_of HT_.out (by kernel_rfl)) (fun _ _ _ h=>h) (Or.inl ⟨by rfl,?_⟩) ?_ ?_
           rotate_left
           ·
            intro w'
            go_simp
            with_reducible rfl
           rotate_left
           ·
            simp only [Act.put,List.setIfInBounds_toArray,List.set_cons_zero,List.set_cons_succ,i64_w,i32_w]
            rfl
           refine pure_ (i:=7) (N:=some 20) (v:=?_) (a':=?_) #[true,true,true,true,true,true,false,true,false,false,false,false,false,false,false] rfl rfl (any_of HT_.out (by kernel_rfl)) (fun _ _ _ h=>h) (Or.inl ⟨by rfl,?_⟩) ?_ ?_
           rotate_left
           ·
            intro w'
            go_simp
            with_reducible rfl
           rotate_left
           ·
            simp only [Act.put,List.setIfInBounds_toArray,List.set_cons_zero,List.set_cons_succ,i64_w,i32_w]
            rfl
           refine pure_ (i:=8) (N:=some 21) (v:=?_) (a':=?_) #[true,true,true,true,true,true,false,true,true,false,false,false,false,false,false] rfl rfl (any_of HT_.out (by kernel_rfl)) (fun _ _ _ h=>h) (Or.inl ⟨by rfl,?_⟩) ?_ ?_
           rotate_left
           ·
            intro w'
            go_simp
            with_reducible rfl
           rotate_left
           ·
            simp only [Act.put,List.setIfInBounds_toArray,List.set_cons_zero,List.set_cons_succ,i64_w,i32_w]
            rfl
           refine pure_ (i:=9) (N:=some 22) (v:=?_) (a':=?_) #[true,true,true,true,true,true,false,true,true,true,false,false,false,false,false] rfl rfl (any_of HT_.out (by kernel_rfl)) (fun _ _ _ h=>h) (Or.inl ⟨by rfl,?_⟩) ?_ ?_
           rotate_left
           ·
            intro w'
            go_simp
            with_reducible rfl
           rotate_left
           ·
            simp only [Act.put,List.setIfInBounds_toArray,List.set_cons_zero,List.set_cons_succ,i64_w,i32_w]
            rfl
           refine take_ (i:=6) (N:=some 19) (v:=?_) (a':=?_) #[true,true,true,true,true,true,true,true,true,true,false,false,false,false,false] rfl rfl (take_ofW HT_.out HW_.out (by kernel_rfl)) (fun _ _ _ h=>h) (Or.inl ⟨by rfl,?_⟩) hHeld ?_ ?_
           rotate_left
           ·
            rintro w' ⟨s0,s1⟩
            go_simp
            with_reducible rfl
           rotate_left
           ·
            simp only [Act.put,List.setIfInBounds_toArray,List.set_cons_zero,List.set_cons_succ,i64_w,i32_w]
            rfl
           refine take_ (i:=10) (N:=some 23) (v:=?_) (a':=?_) #[true,true,true,true,true,true,true,true,true,true,true,false,false,false,false] rfl rfl (take_ofW HT_.out HW_.out (by kernel_rfl)) (fun _ _ _ h=>h) (Or.inl ⟨by rfl,?_⟩) hHeld ?_ ?_
           rotate_left
           ·
            rintro w' ⟨s0,s1⟩
            go_simp
            with_reducible rfl
           rotate_left
           ·
            simp only [Act.put,List.setIfInBounds_toArray,List.set_cons_zero,List.set_cons_succ,i64_w,i32_w]
            rfl
           refine pure_ (i:=11) (N:=some 24) (v:=?_) (a':=?_) #[true,true,true,true,true,true,true,true,true,true,true,true,false,false,false] rfl rfl (any_of HT_.out (by kernel_rfl)) (fun _ _ _ h=>h) (Or.inl ⟨by rfl,?_⟩) ?_ ?_
           rotate_left
           ·
            intro w'
            go_simp
            with_reducible rfl
           rotate_left
           ·
            simp only [Act.put,List.setIfInBounds_toArray,List.set_cons_zero,List.set_cons_succ,i64_w,i32_w]
            rfl
           refine one_ (i:=12) (N:=some 25) #[true,true,true,true,true,true,true,true,true,true,true,true,true,false,false] rfl rfl (one_of HT_.out (by kernel_rfl)) (by decide) (fun K hK=>?_)
           refine value_ (w1:=?_) (v:=?_) (by rfl) rfl ?_ ?_
           rotate_left 2
           ·
            go_simp
            constructor
            ·
             rfl
            ·
             rfl
           refine hK.out _ _ ⟨(World.cell?_alloc_lt _ _ _ (World.block_lt_of_cell? _ _ (((HB.out.cell (World.block_lt_of_cell? _ _ hw240_0)).trans hw240_0)))).trans (((HB.out.cell (World.block_lt_of_cell? _ _ hw240_0)).trans hw240_0)),(World.cell?_alloc_lt _ _ _ (World.block_lt_of_cell? _ _ (((HB.out.cell (World.block_lt_of_cell? _ _ hw241_0)).trans hw241_0)))).trans (((HB.out.cell (World.block_lt_of_cell? _ _ hw241_0)).trans hw241_0))⟩ (fun hHeld=>?_)
           clear hK K
           refine norm_ (a':=?_) ?_ ?_
           rotate_left
           ·
            show Act.put _ (some 25) _=_
            simp only [Act.put,List.setIfInBounds_toArray,List.set_cons_zero,List.set_cons_succ,i64_w,i32_w]
            rfl
           refine one_ (i:=13) (N:=some 26) #[true,true,true,true,true,true,true,true,true,true,true,true,true,true,false] rfl rfl (one_of HT_.out (by kernel_rfl)) (by decide) (fun K hK=>?_)
           refine Kd.R_append_step Kd.string (w0:=w) w.heap.size (by rfl) (.tmp 13) (.tmp 25) 33 9 (.string ⟨#[]⟩) 16 rfl Tryd.underlying33 info9 rfl (by decide) (by omega) u5 x5_1 (a0.extract ((rd l1 (ji4)):Int).toNat ((rd l1 x6_1):Int).toNat) [.string (a0.extract ((rd l1 (ji4)):Int).toNat ((rd l1 x6_1):Int).toNat)] (fun _=>True) (fun _=>False) rfl rfl ?aP (fun _ hk=>hk.elim) ?aF ?aO ?aB ?aS ?aL ?_
           (case aP=>exact rfl)
           (case aB=>exact (by repeat (first|(with_reducible first|exact HB.out|apply below_alloc|apply pw_below_drewN|apply below_drew1)|exact HB.out)))
           (case aF=>exact (fun _ _=>trivial))
           (case aO=>exact (by (with_reducible repeat (first|apply Kd.R_alloc|apply Kd.R_drewN|apply Kd.R_drew));exact HO_5.out))
           (case aS=>exact (below_size (by repeat (first|(with_reducible first|exact HB.out|apply below_alloc|apply pw_below_drewN|apply below_drew1)|exact HB.out))))
           (case aL=>have:=LMc11.out;omega)
           intro v243 w13 ho hb hg hat
           rw [← Ny242.out] at ho
           have n0_:=Aside0.mk (hb)
           have n1_:=Aside0.mk (ho)
           clear HB
           clear HO_5
           have HB:=n0_
           have HO244:=n1_
           clear n0_ n1_
           clear ho hb hg hat
           refine hK.out _ _ ⟨((HB.out.cell (World.block_lt_of_cell? _ _ hw240_0)).trans hw240_0),((HB.out.cell (World.block_lt_of_cell? _ _ hw241_0)).trans hw241_0)⟩ (fun hHeld=>?_)
           clear hK K
           refine norm_ (a':=?_) ?_ ?_
           rotate_left
           ·
            show Act.put _ (some 26) _=_
            simp only [Act.put,List.setIfInBounds_toArray,List.set_cons_zero,List.set_cons_succ,i64_w,i32_w]
            rfl
           refine pure_ (i:=14) (N:=some 5) (v:=?_) (a':=?_) #[true,true,true,true,true,true,true,true,true,true,true,true,true,true,true] rfl rfl (any_of HT_.out (by kernel_rfl)) (fun _ _ _ h=>h) (Or.inl ⟨by rfl,?_⟩) ?_ ?_
           rotate_left
           ·
            intro w'
            go_simp
            with_reducible rfl
           rotate_left
           ·
            simp only [Act.put,List.setIfInBounds_toArray,List.set_cons_zero,List.set_cons_succ,i64_w,i32_w]
            rfl
           refine done_ (done_of HT_.out (by kernel_rfl)) ?_
           try go_wp2
           go_roundg k1
           case measure=>have:=HK1.out;omega
           case rel=>exact ⟨(y242),(wrap64 (x6_1+1)),(by first|rfl|(simp;done)|(simp [*];done)),H',⟨by have:=HK1.out;omega⟩,⟨by (with_reducible repeat (first|apply Kd.R_alloc|apply Kd.R_drewN|apply Kd.R_drew));exact HO244.out⟩,⟨by repeat (first|(with_reducible first|exact HB.out|apply below_alloc|apply pw_below_drewN|apply below_drew1)|exact HB.out)⟩⟩
          ·
           rw [if_neg c11] at H
           exact absurd H (by simp)
         ·
          rw [if_neg c10] at H
          exact absurd H (by simp)
        ·
         rw [if_neg c9] at H
         exact absurd H (by simp)
       ·
        rw [if_neg c8] at H
        exact absurd H (by simp)
      ·
       rw [if_neg c7] at H
       exact absurd H (by simp)
     ·
      rw [if_neg c6] at H
      exact absurd H (by simp)
    ·
     rw [if_neg c5] at H
     exact absurd H (by simp)
   ·
    rw [if_neg c3] at H
    have c3b0:decide (x6_1<(l1.length:Int))=false:=decide_eq_false c3
    clear c3
    obtain rfl:=Option.some.inj H
    go_wp2
    go_ret
    exact ⟨_,by first|rfl|(simp [errW_none,errW_some] <;> rfl)|(simp [*,errW_none,errW_some] <;> rfl),by (with_reducible repeat (first|apply Kd.R_alloc|apply Kd.R_drewN|apply Kd.R_drew));exact HO_5.out,by repeat (first|(with_reducible first|exact HB.out|apply below_alloc|apply pw_below_drewN|apply below_drew1)|exact HB.out)⟩
def impl_placesOf.l0:Nat→Int→List Bool→List Int→List (S45)→Int→Int→Option (List Int)
 | 0,_,_,_,_,_,_=>none
 | k+1,x1,x2,x7,x13,x14,x15=>if x15<x14 then (if 0≤x15 then (if x15<(x13.length:Int) then (if x15>0 then (if x15<(x2.length:Int) then (if rdOf false x2 x15=true then (if x7.length<17592186044416 then (impl_placesOf.l0 k x1 x2 (x7 ++ [(rd_T45 x13 x15).f1]) x13 x14 (wrap64 (x15+1))) else (none)) else (impl_placesOf.l0 k x1 x2 x7 x13 x14 (wrap64 (x15+1)))) else (none)) else (impl_placesOf.l0 k x1 x2 x7 x13 x14 (wrap64 (x15+1)))) else (none)) else (none)) else (if x7.length<17592186044416 then (some (x7 ++ [x1])) else (none))
def impl_placesOf.f (k:Nat) (l0:List (S45)) (a1:Int) (l2:List Bool):Option (List Int):=if a1=0 then (some ([]:List Int)) else (impl_placesOf.l0 k a1 l2 (([0]:List Int)) l0 (l0.length:Int) 0)
set_option maxHeartbeats 8000000 in
set_option maxRecDepth 100000 in
theorem impl_placesOf.calls (k:Nat) (A0:Option Addr) (c0:Nat) (l0:List (S45)) (a1:Int) (A2:Option Addr) (c2:Nat) (l2:List Bool) (r:List Int) (w:World) (hr0:Kd.C k45 w A0 l0.length l0) (hc0:l0.length≤c0) (hr2:Kd.C Kd.bool w A2 l2.length l2) (hc2:l2.length≤c2) (h:impl_placesOf.f k l0 a1 l2=some r) :
  Calls Tryd.prog 83 #[.slice A0 l0.length c0,.int .i64 a1,.slice A2 l2.length c2] w fun e w'=>∃ v0_:Value,e = .returned (v0_)∧Kd.R (Kd.int .i64) 2 w' w.heap.size (fun _=>True) v0_ r∧Below w.heap.size w w':=by
 have hu45:=Tryd.underlying45
 have HR0:=Aside0.mk hr0
 have HC0:=Aside0.mk hc0
 clear hr0 hc0
 have HR2:=Aside0.mk hr2
 have HC2:=Aside0.mk hc2
 clear hr2 hc2
 have HB:=Aside0.mk (Below.refl w.heap.size w)
 have H:(if a1=0 then (some ([]:List Int)) else (impl_placesOf.l0 k a1 l2 (([0]:List Int)) l0 (l0.length:Int) 0))=some r:=h
 clear h
 by_cases c4:a1=0
 ·
  rw [if_pos c4] at H
  have c4b0:(a1 == 0)=true:=beq_iff_eq.mpr c4
  have c4b1:(a1 != 0)=false:=bne_eq_false_iff_eq.mpr c4
  clear c4
  obtain rfl:=Option.some.inj H
  go_enter Tryd.func83,Tryd.ntmps83
  go_wp2
  go_ret
  exact ⟨_,by first|rfl|(simp [errW_none,errW_some] <;> rfl)|(simp [*,errW_none,errW_some] <;> rfl),by first|exact Kd.R_nil _ _ _ _ _|exact Kd.N_nil _ _ _ _ _|exact Kd.V_nil _ _ _ _ _|exact Kd.Q_nil _ _ _ _ _|exact Kd.S_nil _ _ _ _ _,by repeat (first|(with_reducible first|exact HB.out|apply below_alloc|apply pw_below_drewN|apply below_drew1)|exact HB.out)⟩
 ·
  rw [if_neg c4] at H
  have c4b0:(a1 == 0)=false:=beq_eq_false_iff_ne.mpr c4
  have c4b1:(a1 != 0)=true:=bne_iff_ne.mpr c4
  obtain ⟨y245,hy245⟩:∃ y_:List Int,y_=(([0]:List Int)):=⟨_,rfl⟩
  replace H:(impl_placesOf.l0 k a1 l2 y245 l0 (l0.length:Int) 0)=some r:=by first|(rw [hy245];with_reducible exact H)|(have H2_:=(Option.bind_some _ _).symm.trans H;rw [hy245];with_reducible exact H2_)|(have H2_:=(Option.bind_some _ _).symm.trans H;with_reducible exact H2_)|with_reducible exact H|(rw [hy245];exact H)|exact H
  have Ny245:=Aside0.mk hy245
  clear hy245
  have H':=Aside0.mk H
  clear H
  go_enter Tryd.func83,Tryd.ntmps83
  go_wp2_with (first|((with_reducible refine gate_dst (N:=12) rfl ?_);refine Kd.R_lit (Kd.int .i64) _ 2 ?hg (N:=12) ?hd (xs:=([0]:List Int)) (inner:=[.int .i64 0]) (ok:=fun _=>True) (okp:=fun _=>True) ?hr ?hp (fun _ hk=>hk) trivial (Below.refl _ _) (Nat.le_refl _) (by simp) ?_;(case hd=>rfl);(case hg=>rfl);(case hr=>first|(go_simp;done)|(go_simp;rfl));(case hp=>exact (Reps.one (show Kd.M (Kd.int .i64) _ _ _ 0 [.int .i64 0] from rfl) (Reps.none _ _)));intro v246 w5 ho6 hb hg_ hnew_;clear hg_ hnew_;(first|rw [← Ny245.out] at ho6|(simp only [Int.reduceToNat] at ho6;rw [← Ny245.out] at ho6));have n0_:=Aside0.mk (Kd.R_lower ho6 (below_size (by repeat (first|(with_reducible first|exact HB.out|apply below_alloc|apply pw_below_drewN|apply below_drew1)|exact HB.out))));have n1_:=Aside0.mk (below_step (by repeat (first|(with_reducible first|exact HB.out|apply below_alloc|apply pw_below_drewN|apply below_drew1)|exact HB.out)) hb);clear HB;have HO247:=n0_;have HB:=n1_;clear n0_ n1_;clear hb ho6))
  go_loopg [7,15] k (fun kq v7 v15 w'=>∃ (x7_1:List Int) (x15_1:Int),v15 = .int .i64 x15_1∧Aside0 (impl_placesOf.l0 kq a1 l2 x7_1 l0 (l0.length:Int) x15_1=some r)∧Aside0 (kq≤k)∧Aside0 (Kd.R (Kd.int .i64) 2 w' w.heap.size (fun _=>True) v7 x7_1)∧Aside0 (Below w.heap.size w w'))
  case atStart=>exact ⟨(y245),(0),(by first|rfl|(simp;done)|(simp [*];done)),H',⟨Nat.le_refl _⟩,⟨by (with_reducible repeat (first|apply Kd.R_alloc|apply Kd.R_drewN|apply Kd.R_drew));exact HO247.out⟩,⟨by repeat (first|(with_reducible first|exact HB.out|apply below_alloc|apply pw_below_drewN|apply below_drew1)|exact HB.out)⟩⟩
  case round =>
   clear H'
   try clear c2
   try clear p2
   try clear c4
   try clear c4b0
   try clear c4b1
   obtain ⟨x7_1,x15_1,rfl,HA,HK1,HO_7,HB⟩:=hrel
   cases gk with
   | zero=>exact absurd HA.out (by simp [impl_placesOf.l0])
   | succ k1 =>
    have H:=HA.out
    clear HA
    simp only [impl_placesOf.l0] at H
    by_cases c7:x15_1<(l0.length:Int)
    ·
     rw [if_pos c7] at H
     have c7b0:decide (x15_1<(l0.length:Int))=true:=decide_eq_true c7
     clear c7
     by_cases c8:0≤x15_1
     ·
      rw [if_pos c8] at H
      have c8b0:decide (0≤x15_1)=true:=decide_eq_true c8
      clear c8
      by_cases c9:x15_1<(l0.length:Int)
      ·
       rw [if_pos c9] at H
       have c9b0:decide (x15_1<(l0.length:Int))=true:=decide_eq_true c9
       clear c9
       by_cases c10:x15_1>0
       ·
        rw [if_pos c10] at H
        have c10b0:decide (0<x15_1)=true:=decide_eq_true c10
        clear c10
        by_cases c11:x15_1<(l2.length:Int)
        ·
         rw [if_pos c11] at H
         have c11b0:decide (x15_1<(l2.length:Int))=true:=decide_eq_true c11
         clear c11
         obtain ⟨bq12,hbq12⟩:∃ b_:Bool,b_=(rdOf false l2 x15_1):=⟨_,rfl⟩
         replace H:(if bq12=true then (if x7_1.length<17592186044416 then (impl_placesOf.l0 k1 a1 l2 (x7_1 ++ [(rd_T45 l0 x15_1).f1]) l0 (l0.length:Int) (wrap64 (x15_1+1))) else (none)) else (impl_placesOf.l0 k1 a1 l2 x7_1 l0 (l0.length:Int) (wrap64 (x15_1+1))))=some r:=by rw [← hbq12] at H;exact H
         have Nbq12:=Aside0.mk hbq12
         clear hbq12
         by_cases c13:bq12=true
         ·
          subst c13
          have H1:(if x7_1.length<17592186044416 then (impl_placesOf.l0 k1 a1 l2 (x7_1 ++ [(rd_T45 l0 x15_1).f1]) l0 (l0.length:Int) (wrap64 (x15_1+1))) else (none))=some r:=by rw [if_pos rfl] at H;exact H
          clear H
          have H:=H1
          clear H1
          by_cases c14:x7_1.length<17592186044416
          ·
           rw [if_pos c14] at H
           have LMc14:=Aside0.mk c14
           clear c14
           obtain ⟨y251,hy251⟩:∃ y_:List Int,y_=(x7_1 ++ [(rd_T45 l0 x15_1).f1]):=⟨_,rfl⟩
           replace H:(impl_placesOf.l0 k1 a1 l2 y251 l0 (l0.length:Int) (wrap64 (x15_1+1)))=some r:=by first|(rw [hy251];with_reducible exact H)|(have H2_:=(Option.bind_some _ _).symm.trans H;rw [hy251];with_reducible exact H2_)|(have H2_:=(Option.bind_some _ _).symm.trans H;with_reducible exact H2_)|with_reducible exact H|(rw [hy251];exact H)|exact H
           have Ny251:=Aside0.mk hy251
           clear hy251
           have H':=Aside0.mk H
           clear H
           have p248:0≤(x15_1:Int):=of_decide_eq_true (by first|(with_reducible assumption)|assumption)
           have q248:x15_1<(l0.length:Int):=of_decide_eq_true (by first|(with_reducible assumption)|assumption)
           obtain ⟨ad248,e248,hx248_0,hx248_1,hx248_2,hx248_3⟩:=at_T45 HR0.out x15_1 p248 q248
           (try rw [← Nbq12.out] at hx248_3)
           cases e248
           replace hx248_0:=(HB.out.cell (World.block_lt_of_cell? _ _ hx248_0)).trans hx248_0
           replace hx248_1:=(HB.out.cell (World.block_lt_of_cell? _ _ hx248_1)).trans hx248_1
           replace hx248_2:=(HB.out.cell (World.block_lt_of_cell? _ _ hx248_2)).trans hx248_2
           replace hx248_3:=(HB.out.cell (World.block_lt_of_cell? _ _ hx248_3)).trans hx248_3
           replace p248:=eq_true p248
           replace q248:=eq_true q248
           go_wp2_with (first|((with_reducible refine gate_dst (N:=9) rfl ?_);refine box_event ?hg (N:=9) ?hd (cs:=#[.int .i64 0,.int .i64 0,.int .i64 0,.bool false]) (t:=45) ?hr ?_;(case hd=>rfl);(case hg=>rfl);(case hr=>first|(go_simp;done)|(go_simp;rfl));intro gb249 hg w15 hbox hb;have n0_:=Aside0.mk (Kd.R_below (by (with_reducible repeat (first|apply Kd.R_alloc|apply Kd.R_drewN|apply Kd.R_drew));exact HO_7.out) hb);have n1_:=Aside0.mk (below_step (by repeat (first|(with_reducible first|exact HB.out|apply below_alloc|apply pw_below_drewN|apply below_drew1)|exact HB.out)) hb);have n2_:=Aside0.mk (hbox);have n3_:=Aside0.mk ((by rw [hg];exact (below_size (by repeat (first|(with_reducible first|exact HB.out|apply below_alloc|apply pw_below_drewN|apply below_drew1)|exact HB.out))):w.heap.size≤gb249));have n4_:=Aside0.mk ((by rw [hg];exact (below_size (by repeat (first|(with_reducible first|exact HB.out|apply below_alloc|apply pw_below_drewN|apply below_drew1)|exact HB.out))):w.heap.size≤gb249));clear HO_7;clear HB;have HO_7:=n0_;have HB:=n1_;have BK249:=n2_;have GW249:=n3_;have GE249:=n4_;clear n0_ n1_ n2_ n3_ n4_;clear hb hbox hg;have hcz16_0:w15.cell? ⟨gb249,0,none⟩=some (.int .i64 0):=(blk_cell BK249.out 0).trans rfl;have hcz16_1:w15.cell? ⟨gb249,1,none⟩=some (.int .i64 0):=(blk_cell BK249.out 1).trans rfl;have hcz16_2:w15.cell? ⟨gb249,2,none⟩=some (.int .i64 0):=(blk_cell BK249.out 2).trans rfl;have hcz16_3:w15.cell? ⟨gb249,3,none⟩=some (.bool false):=(blk_cell BK249.out 3).trans rfl;have hfz16_0:=blk_frozen BK249.out 0;have hfz16_1:=blk_frozen BK249.out 1;have hfz16_2:=blk_frozen BK249.out 2;have hfz16_3:=blk_frozen BK249.out 3;have p250:0≤(x15_1:Int):=of_decide_eq_true (by first|(with_reducible assumption)|assumption);have q250:x15_1<(l2.length:Int):=of_decide_eq_true (by first|(with_reducible assumption)|assumption);obtain ⟨ad250,e250,hx250_0⟩:=Kd.at_bool HR2.out x15_1 p250 q250;(try rw [← Nbq12.out] at hx250_0);cases e250;have hn250_0:ad250.block≠gb249:=Nat.ne_of_lt (Nat.lt_of_lt_of_le (by have:=World.block_lt_of_cell? _ _ hx250_0;first|rwa [add_block] at this|exact this) GW249.out);have hn250_1:ad250.block≠gb249:=Nat.ne_of_lt (Nat.lt_of_lt_of_le (by have:=World.block_lt_of_cell? _ _ hx250_0;first|rwa [add_block] at this|exact this) GW249.out);have hn250_2:ad250.block≠gb249:=Nat.ne_of_lt (Nat.lt_of_lt_of_le (by have:=World.block_lt_of_cell? _ _ hx250_0;first|rwa [add_block] at this|exact this) GW249.out);have hn250_3:ad250.block≠gb249:=Nat.ne_of_lt (Nat.lt_of_lt_of_le (by have:=World.block_lt_of_cell? _ _ hx250_0;first|rwa [add_block] at this|exact this) GW249.out);replace hx250_0:=(HB.out.cell (World.block_lt_of_cell? _ _ hx250_0)).trans hx250_0;replace hx250_0:=(cell_far (p:=⟨gb249,0,none⟩) (by first|(rw [add_block];exact hn250_0)|(show (Addr.add _ _).block≠_;rw [add_block];exact hn250_0)|exact hn250_0) (.int .i64 ((rd_T45 l0 x15_1).f0))).trans hx250_0;replace hx250_0:=(cell_far (p:=⟨gb249,1,none⟩) (by first|(rw [add_block];exact hn250_1)|(show (Addr.add _ _).block≠_;rw [add_block];exact hn250_1)|exact hn250_1) (.int .i64 ((rd_T45 l0 x15_1).f1))).trans hx250_0;replace hx250_0:=(cell_far (p:=⟨gb249,2,none⟩) (by first|(rw [add_block];exact hn250_2)|(show (Addr.add _ _).block≠_;rw [add_block];exact hn250_2)|exact hn250_2) (.int .i64 ((rd_T45 l0 x15_1).f2))).trans hx250_0;replace hx250_0:=(cell_far (p:=⟨gb249,3,none⟩) (by first|(rw [add_block];exact hn250_3)|(show (Addr.add _ _).block≠_;rw [add_block];exact hn250_3)|exact hn250_3) (.bool ((rd_T45 l0 x15_1).f3))).trans hx250_0;clear hn250_0;clear hn250_1;clear hn250_2;clear hn250_3;replace p250:=eq_true p250;replace q250:=eq_true q250)|((with_reducible refine gate_builtin (b:=.append) (xs:=#[.tmp 28,.tmp 31]) rfl ?_);at_builtin;refine Kd.R_append (Kd.int .i64) (w0:=w) w.heap.size rfl (.tmp 28) (.tmp 31) 27 2 (.int .i64 0) 8 rfl Tryd.underlying27 info2 rfl (by decide) (by omega) u7 x7_1 ((rd_T45 l0 x15_1).f1) [.int .i64 ((rd_T45 l0 x15_1).f1)] (fun _=>True) (fun _=>False) rfl (by first|(go_simp;done)|(go_simp;rfl)) ?aP (fun _ hk=>hk.elim) ?aF ?aO ?aB ?aS ?aL ?_;(case aP=>exact rfl);(case aB=>exact (by repeat (first|(with_reducible first|exact HB.out|apply below_alloc|apply pw_below_drewN|apply below_drew1|refine below_set ?_ GE249.out)|exact HB.out)));(case aF=>exact (fun _ _=>trivial));(case aO=>exact (by (with_reducible repeat (first|apply Kd.R_alloc|apply Kd.R_drewN|apply Kd.R_drew));exact Kd.R_mono (Kd.R_far (p:=⟨gb249,3,none⟩) (Kd.R_far (p:=⟨gb249,2,none⟩) (Kd.R_far (p:=⟨gb249,1,none⟩) (Kd.R_far (p:=⟨gb249,0,none⟩) (Kd.R_types HO_7.out BK249.out (by decide)) (fun _ hk=>hk.2) (.int .i64 ((rd_T45 l0 x15_1).f0))) (fun _ hk=>hk.2) (.int .i64 ((rd_T45 l0 x15_1).f1))) (fun _ hk=>hk.2) (.int .i64 ((rd_T45 l0 x15_1).f2))) (fun _ hk=>hk.2) (.bool ((rd_T45 l0 x15_1).f3))) (fun _ hk=>trivial)));(case aS=>exact (below_size (by repeat (first|(with_reducible first|exact HB.out|apply below_alloc|apply pw_below_drewN|apply below_drew1|refine below_set ?_ GE249.out)|exact HB.out))));(case aL=>have:=LMc14.out;omega);intro v252 w17 ho hb hg hat;rw [← Ny251.out] at ho;have n0_:=Aside0.mk (blk_grown (g:=gb249) (o:=.cells #[.int .i64 ((rd_T45 l0 x15_1).f0),.int .i64 ((rd_T45 l0 x15_1).f1),.int .i64 ((rd_T45 l0 x15_1).f2),.bool ((rd_T45 l0 x15_1).f3)] 45 (0,0)) (by (with_reducible repeat (first|refine blk_drewN ?_ _|refine blk_drew ?_|refine blk_alloc ?_ _));refine blk_put (cs:=#[.int .i64 ((rd_T45 l0 x15_1).f0),.int .i64 ((rd_T45 l0 x15_1).f1),.int .i64 ((rd_T45 l0 x15_1).f2),.bool false]) ?_ 3 _ rfl;(with_reducible repeat (first|refine blk_drewN ?_ _|refine blk_drew ?_|refine blk_alloc ?_ _));refine blk_put (cs:=#[.int .i64 ((rd_T45 l0 x15_1).f0),.int .i64 ((rd_T45 l0 x15_1).f1),.int .i64 0,.bool false]) ?_ 2 _ rfl;(with_reducible repeat (first|refine blk_drewN ?_ _|refine blk_drew ?_|refine blk_alloc ?_ _));refine blk_put (cs:=#[.int .i64 ((rd_T45 l0 x15_1).f0),.int .i64 0,.int .i64 0,.bool false]) ?_ 1 _ rfl;(with_reducible repeat (first|refine blk_drewN ?_ _|refine blk_drew ?_|refine blk_alloc ?_ _));refine blk_put (cs:=#[.int .i64 0,.int .i64 0,.int .i64 0,.bool false]) ?_ 0 _ rfl;(with_reducible repeat (first|refine blk_drewN ?_ _|refine blk_drew ?_|refine blk_alloc ?_ _));exact BK249.out) hg (Kd.R_ne HO_7.out BK249.out (by decide)));have n1_:=Aside0.mk (hb);have n2_:=Aside0.mk (ho);clear BK249;clear HB;clear HO_7;have BK249:=n0_;have HB:=n1_;have HO253:=n2_;clear n0_ n1_ n2_;clear ho hb hg hat))
           go_roundg k1
           case measure=>have:=HK1.out;omega
           case rel=>exact ⟨(y251),(wrap64 (x15_1+1)),(by first|rfl|(simp;done)|(simp [*];done)),H',⟨by have:=HK1.out;omega⟩,⟨by (with_reducible repeat (first|apply Kd.R_alloc|apply Kd.R_drewN|apply Kd.R_drew));exact HO253.out⟩,⟨by repeat (first|(with_reducible first|exact HB.out|apply below_alloc|apply pw_below_drewN|apply below_drew1|refine below_set ?_ GE249.out)|exact HB.out)⟩⟩
          ·
           rw [if_neg c14] at H
           exact absurd H (by simp)
         ·
          replace c13:=Bool.eq_false_iff.mpr c13
          subst c13
          have H1:(impl_placesOf.l0 k1 a1 l2 x7_1 l0 (l0.length:Int) (wrap64 (x15_1+1)))=some r:=by rw [if_neg (show ¬ (false=true) by decide)] at H;exact H
          clear H
          have H:=H1
          clear H1
          have H':=Aside0.mk H
          clear H
          have p248:0≤(x15_1:Int):=of_decide_eq_true (by first|(with_reducible assumption)|assumption)
          have q248:x15_1<(l0.length:Int):=of_decide_eq_true (by first|(with_reducible assumption)|assumption)
          obtain ⟨ad248,e248,hx248_0,hx248_1,hx248_2,hx248_3⟩:=at_T45 HR0.out x15_1 p248 q248
          (try rw [← Nbq12.out] at hx248_3)
          cases e248
          replace hx248_0:=(HB.out.cell (World.block_lt_of_cell? _ _ hx248_0)).trans hx248_0
          replace hx248_1:=(HB.out.cell (World.block_lt_of_cell? _ _ hx248_1)).trans hx248_1
          replace hx248_2:=(HB.out.cell (World.block_lt_of_cell? _ _ hx248_2)).trans hx248_2
          replace hx248_3:=(HB.out.cell (World.block_lt_of_cell? _ _ hx248_3)).trans hx248_3
          replace p248:=eq_true p248
          replace q248:=eq_true q248
          go_wp2_with (first|((with_reducible refine gate_dst (N:=9) rfl ?_);refine box_event ?hg (N:=9) ?hd (cs:=#[.int .i64 0,.int .i64 0,.int .i64 0,.bool false]) (t:=45) ?hr ?_;(case hd=>rfl);(case hg=>rfl);(case hr=>first|(go_simp;done)|(go_simp;rfl));intro gb249 hg w18 hbox hb;have n0_:=Aside0.mk (Kd.R_below (by (with_reducible repeat (first|apply Kd.R_alloc|apply Kd.R_drewN|apply Kd.R_drew));exact HO_7.out) hb);have n1_:=Aside0.mk (below_step (by repeat (first|(with_reducible first|exact HB.out|apply below_alloc|apply pw_below_drewN|apply below_drew1)|exact HB.out)) hb);have n2_:=Aside0.mk (hbox);have n3_:=Aside0.mk ((by rw [hg];exact (below_size (by repeat (first|(with_reducible first|exact HB.out|apply below_alloc|apply pw_below_drewN|apply below_drew1)|exact HB.out))):w.heap.size≤gb249));have n4_:=Aside0.mk ((by rw [hg];exact (below_size (by repeat (first|(with_reducible first|exact HB.out|apply below_alloc|apply pw_below_drewN|apply below_drew1)|exact HB.out))):w.heap.size≤gb249));clear HO_7;clear HB;have HO_7:=n0_;have HB:=n1_;have BK249:=n2_;have GW249:=n3_;have GE249:=n4_;clear n0_ n1_ n2_ n3_ n4_;clear hb hbox hg;have hcz19_0:w18.cell? ⟨gb249,0,none⟩=some (.int .i64 0):=(blk_cell BK249.out 0).trans rfl;have hcz19_1:w18.cell? ⟨gb249,1,none⟩=some (.int .i64 0):=(blk_cell BK249.out 1).trans rfl;have hcz19_2:w18.cell? ⟨gb249,2,none⟩=some (.int .i64 0):=(blk_cell BK249.out 2).trans rfl;have hcz19_3:w18.cell? ⟨gb249,3,none⟩=some (.bool false):=(blk_cell BK249.out 3).trans rfl;have hfz19_0:=blk_frozen BK249.out 0;have hfz19_1:=blk_frozen BK249.out 1;have hfz19_2:=blk_frozen BK249.out 2;have hfz19_3:=blk_frozen BK249.out 3;have p250:0≤(x15_1:Int):=of_decide_eq_true (by first|(with_reducible assumption)|assumption);have q250:x15_1<(l2.length:Int):=of_decide_eq_true (by first|(with_reducible assumption)|assumption);obtain ⟨ad250,e250,hx250_0⟩:=Kd.at_bool HR2.out x15_1 p250 q250;(try rw [← Nbq12.out] at hx250_0);cases e250;have hn250_0:ad250.block≠gb249:=Nat.ne_of_lt (Nat.lt_of_lt_of_le (by have:=World.block_lt_of_cell? _ _ hx250_0;first|rwa [add_block] at this|exact this) GW249.out);have hn250_1:ad250.block≠gb249:=Nat.ne_of_lt (Nat.lt_of_lt_of_le (by have:=World.block_lt_of_cell? _ _ hx250_0;first|rwa [add_block] at this|exact this) GW249.out);have hn250_2:ad250.block≠gb249:=Nat.ne_of_lt (Nat.lt_of_lt_of_le (by have:=World.block_lt_of_cell? _ _ hx250_0;first|rwa [add_block] at this|exact this) GW249.out);have hn250_3:ad250.block≠gb249:=Nat.ne_of_lt (Nat.lt_of_lt_of_le (by have:=World.block_lt_of_cell? _ _ hx250_0;first|rwa [add_block] at this|exact this) GW249.out);replace hx250_0:=(HB.out.cell (World.block_lt_of_cell? _ _ hx250_0)).trans hx250_0;replace hx250_0:=(cell_far (p:=⟨gb249,0,none⟩) (by first|(rw [add_block];exact hn250_0)|(show (Addr.add _ _).block≠_;rw [add_block];exact hn250_0)|exact hn250_0) (.int .i64 ((rd_T45 l0 x15_1).f0))).trans hx250_0;replace hx250_0:=(cell_far (p:=⟨gb249,1,none⟩) (by first|(rw [add_block];exact hn250_1)|(show (Addr.add _ _).block≠_;rw [add_block];exact hn250_1)|exact hn250_1) (.int .i64 ((rd_T45 l0 x15_1).f1))).trans hx250_0;replace hx250_0:=(cell_far (p:=⟨gb249,2,none⟩) (by first|(rw [add_block];exact hn250_2)|(show (Addr.add _ _).block≠_;rw [add_block];exact hn250_2)|exact hn250_2) (.int .i64 ((rd_T45 l0 x15_1).f2))).trans hx250_0;replace hx250_0:=(cell_far (p:=⟨gb249,3,none⟩) (by first|(rw [add_block];exact hn250_3)|(show (Addr.add _ _).block≠_;rw [add_block];exact hn250_3)|exact hn250_3) (.bool ((rd_T45 l0 x15_1).f3))).trans hx250_0;clear hn250_0;clear hn250_1;clear hn250_2;clear hn250_3;replace p250:=eq_true p250;replace q250:=eq_true q250))
          go_roundg k1
          case measure=>have:=HK1.out;omega
          case rel=>exact ⟨(x7_1),(wrap64 (x15_1+1)),(by first|rfl|(simp;done)|(simp [*];done)),H',⟨by have:=HK1.out;omega⟩,⟨by (with_reducible repeat (first|apply Kd.R_alloc|apply Kd.R_drewN|apply Kd.R_drew));exact Kd.R_mono (Kd.R_far (p:=⟨gb249,3,none⟩) (Kd.R_far (p:=⟨gb249,2,none⟩) (Kd.R_far (p:=⟨gb249,1,none⟩) (Kd.R_far (p:=⟨gb249,0,none⟩) (Kd.R_types HO_7.out BK249.out (by decide)) (fun _ hk=>hk.2) (.int .i64 ((rd_T45 l0 x15_1).f0))) (fun _ hk=>hk.2) (.int .i64 ((rd_T45 l0 x15_1).f1))) (fun _ hk=>hk.2) (.int .i64 ((rd_T45 l0 x15_1).f2))) (fun _ hk=>hk.2) (.bool ((rd_T45 l0 x15_1).f3))) (fun _ hk=>trivial)⟩,⟨by repeat (first|(with_reducible first|exact HB.out|apply below_alloc|apply pw_below_drewN|apply below_drew1|refine below_set ?_ GE249.out)|exact HB.out)⟩⟩
        ·
         rw [if_neg c11] at H
         exact absurd H (by simp)
       ·
        rw [if_neg c10] at H
        have c10b0:decide (0<x15_1)=false:=decide_eq_false c10
        clear c10
        have H':=Aside0.mk H
        clear H
        have p248:0≤(x15_1:Int):=of_decide_eq_true (by first|(with_reducible assumption)|assumption)
        have q248:x15_1<(l0.length:Int):=of_decide_eq_true (by first|(with_reducible assumption)|assumption)
        obtain ⟨ad248,e248,hx248_0,hx248_1,hx248_2,hx248_3⟩:=at_T45 HR0.out x15_1 p248 q248
        cases e248
        replace hx248_0:=(HB.out.cell (World.block_lt_of_cell? _ _ hx248_0)).trans hx248_0
        replace hx248_1:=(HB.out.cell (World.block_lt_of_cell? _ _ hx248_1)).trans hx248_1
        replace hx248_2:=(HB.out.cell (World.block_lt_of_cell? _ _ hx248_2)).trans hx248_2
        replace hx248_3:=(HB.out.cell (World.block_lt_of_cell? _ _ hx248_3)).trans hx248_3
        replace p248:=eq_true p248
        replace q248:=eq_true q248
        go_wp2_with (first|((with_reducible refine gate_dst (N:=9) rfl ?_);refine box_event ?hg (N:=9) ?hd (cs:=#[.int .i64 0,.int .i64 0,.int .i64 0,.bool false]) (t:=45) ?hr ?_;(case hd=>rfl);(case hg=>rfl);(case hr=>first|(go_simp;done)|(go_simp;rfl));intro gb249 hg w20 hbox hb;have n0_:=Aside0.mk (Kd.R_below (by (with_reducible repeat (first|apply Kd.R_alloc|apply Kd.R_drewN|apply Kd.R_drew));exact HO_7.out) hb);have n1_:=Aside0.mk (below_step (by repeat (first|(with_reducible first|exact HB.out|apply below_alloc|apply pw_below_drewN|apply below_drew1)|exact HB.out)) hb);have n2_:=Aside0.mk (hbox);have n3_:=Aside0.mk ((by rw [hg];exact (below_size (by repeat (first|(with_reducible first|exact HB.out|apply below_alloc|apply pw_below_drewN|apply below_drew1)|exact HB.out))):w.heap.size≤gb249));have n4_:=Aside0.mk ((by rw [hg];exact (below_size (by repeat (first|(with_reducible first|exact HB.out|apply below_alloc|apply pw_below_drewN|apply below_drew1)|exact HB.out))):w.heap.size≤gb249));clear HO_7;clear HB;have HO_7:=n0_;have HB:=n1_;have BK249:=n2_;have GW249:=n3_;have GE249:=n4_;clear n0_ n1_ n2_ n3_ n4_;clear hb hbox hg;have hcz21_0:w20.cell? ⟨gb249,0,none⟩=some (.int .i64 0):=(blk_cell BK249.out 0).trans rfl;have hcz21_1:w20.cell? ⟨gb249,1,none⟩=some (.int .i64 0):=(blk_cell BK249.out 1).trans rfl;have hcz21_2:w20.cell? ⟨gb249,2,none⟩=some (.int .i64 0):=(blk_cell BK249.out 2).trans rfl;have hcz21_3:w20.cell? ⟨gb249,3,none⟩=some (.bool false):=(blk_cell BK249.out 3).trans rfl;have hfz21_0:=blk_frozen BK249.out 0;have hfz21_1:=blk_frozen BK249.out 1;have hfz21_2:=blk_frozen BK249.out 2;have hfz21_3:=blk_frozen BK249.out 3))
        go_roundg k1
        case measure=>have:=HK1.out;omega
        case rel=>exact ⟨(x7_1),(wrap64 (x15_1+1)),(by first|rfl|(simp;done)|(simp [*];done)),H',⟨by have:=HK1.out;omega⟩,⟨by (with_reducible repeat (first|apply Kd.R_alloc|apply Kd.R_drewN|apply Kd.R_drew));exact Kd.R_mono (Kd.R_far (p:=⟨gb249,3,none⟩) (Kd.R_far (p:=⟨gb249,2,none⟩) (Kd.R_far (p:=⟨gb249,1,none⟩) (Kd.R_far (p:=⟨gb249,0,none⟩) (Kd.R_types HO_7.out BK249.out (by decide)) (fun _ hk=>hk.2) (.int .i64 ((rd_T45 l0 x15_1).f0))) (fun _ hk=>hk.2) (.int .i64 ((rd_T45 l0 x15_1).f1))) (fun _ hk=>hk.2) (.int .i64 ((rd_T45 l0 x15_1).f2))) (fun _ hk=>hk.2) (.bool ((rd_T45 l0 x15_1).f3))) (fun _ hk=>trivial)⟩,⟨by repeat (first|(with_reducible first|exact HB.out|apply below_alloc|apply pw_below_drewN|apply below_drew1|refine below_set ?_ GE249.out)|exact HB.out)⟩⟩
      ·
       rw [if_neg c9] at H
       exact absurd H (by simp)
     ·
      rw [if_neg c8] at H
      exact absurd H (by simp)
    ·
     rw [if_neg c7] at H
     have c7b0:decide (x15_1<(l0.length:Int))=false:=decide_eq_false c7
     clear c7
     by_cases c22:x7_1.length<17592186044416
     ·
      rw [if_pos c22] at H
      have LMc22:=Aside0.mk c22
      clear c22
      obtain ⟨y254,hy254⟩:∃ y_:List Int,y_=(x7_1 ++ [a1]):=⟨_,rfl⟩
      replace H:(some y254)=some r:=by first|(rw [hy254];with_reducible exact H)|(have H2_:=(Option.bind_some _ _).symm.trans H;rw [hy254];with_reducible exact H2_)|(have H2_:=(Option.bind_some _ _).symm.trans H;with_reducible exact H2_)|with_reducible exact H|(rw [hy254];exact H)|exact H
      have Ny254:=Aside0.mk hy254
      clear hy254
      obtain rfl:=Option.some.inj H
      go_wp2_with (first|((with_reducible refine gate_builtin (b:=.append) (xs:=#[.tmp 34,.tmp 36]) rfl ?_);at_builtin;refine Kd.R_append (Kd.int .i64) (w0:=w) w.heap.size rfl (.tmp 34) (.tmp 36) 27 2 (.int .i64 0) 8 rfl Tryd.underlying27 info2 rfl (by decide) (by omega) u7 x7_1 a1 [.int .i64 a1] (fun _=>True) (fun _=>False) rfl rfl ?aP (fun _ hk=>hk.elim) ?aF ?aO ?aB ?aS ?aL ?_;(case aP=>exact rfl);(case aB=>exact (by repeat (first|(with_reducible first|exact HB.out|apply below_alloc|apply pw_below_drewN|apply below_drew1)|exact HB.out)));(case aF=>exact (fun _ _=>trivial));(case aO=>exact (by (with_reducible repeat (first|apply Kd.R_alloc|apply Kd.R_drewN|apply Kd.R_drew));exact HO_7.out));(case aS=>exact (below_size (by repeat (first|(with_reducible first|exact HB.out|apply below_alloc|apply pw_below_drewN|apply below_drew1)|exact HB.out))));(case aL=>have:=LMc22.out;omega);intro v255 w23 ho hb hg hat;rw [← Ny254.out] at ho;have n0_:=Aside0.mk (hb);have n1_:=Aside0.mk (ho);clear HB;clear HO_7;have HB:=n0_;have HO256:=n1_;clear n0_ n1_;clear ho hb hg hat))
      go_ret
      exact ⟨_,by first|rfl|(simp [errW_none,errW_some] <;> rfl)|(simp [*,errW_none,errW_some] <;> rfl),by (with_reducible repeat (first|apply Kd.R_alloc|apply Kd.R_drewN|apply Kd.R_drew));exact HO256.out,by repeat (first|(with_reducible first|exact HB.out|apply below_alloc|apply pw_below_drewN|apply below_drew1)|exact HB.out)⟩
     ·
      rw [if_neg c22] at H
      exact absurd H (by simp)
def impl_in.f (a0:Int) (a1:Int) (a2:Int):Option (Bool):=if a0≥a1 then (some (decide (a0≤a2))) else (some false)
set_option maxHeartbeats 8000000 in
set_option maxRecDepth 100000 in
theorem impl_in.calls (a0:Int) (a1:Int) (a2:Int) (r:Bool) (w:World) (h:impl_in.f a0 a1 a2=some r) :
  Calls Tryd.prog 33 #[.int .i64 a0,.int .i64 a1,.int .i64 a2] w fun e w'=>e = .returned (.bool r)∧Drawn0 w w':=by
 have H:(if a0≥a1 then (some (decide (a0≤a2))) else (some false))=some r:=h
 clear h
 by_cases c4:a0≥a1
 ·
  rw [if_pos c4] at H
  have c4b0:decide (a1≤a0)=true:=decide_eq_true c4
  clear c4
  obtain rfl:=Option.some.inj H
  go_enter Tryd.func33,Tryd.ntmps33
  go_wp2
  go_ret
  exact ⟨by first|rfl|(simp;done)|(simp [*];done),by repeat (first|exact Drawn0.refl _|apply Drawn0.step)⟩
 ·
  rw [if_neg c4] at H
  have c4b0:decide (a1≤a0)=false:=decide_eq_false c4
  clear c4
  obtain rfl:=Option.some.inj H
  go_enter Tryd.func33,Tryd.ntmps33
  go_wp2
  go_ret
  exact ⟨by first|rfl|(simp;done)|(simp [*];done),by repeat (first|exact Drawn0.refl _|apply Drawn0.step)⟩
def impl_block.f (a0:Int):Option (Int × Int):=if a0≥512 then (if a0<1280 then (some (Go.bits .andNot .i64 a0 255,Go.bits .and .i64 a0 255)) else (some (0,0))) else (some (0,0))
set_option maxHeartbeats 8000000 in
set_option maxRecDepth 100000 in
theorem impl_block.calls (a0:Int) (r1:Int) (r2:Int) (w:World) (h:impl_block.f a0=some (r1,r2)) :
  Calls Tryd.prog 74 #[.int .i64 a0] w fun e w'=>e = .returned (.tuple #[.int .i64 r1,.int .i64 r2])∧Drawn0 w w':=by
 have H:(if a0≥512 then (if a0<1280 then (some (Go.bits .andNot .i64 a0 255,Go.bits .and .i64 a0 255)) else (some (0,0))) else (some (0,0)))=some (r1,r2):=h
 clear h
 by_cases c2:a0≥512
 ·
  rw [if_pos c2] at H
  have c2b0:decide (512≤a0)=true:=decide_eq_true c2
  clear c2
  by_cases c3:a0<1280
  ·
   rw [if_pos c3] at H
   have c3b0:decide (a0<1280)=true:=decide_eq_true c3
   clear c3
   simp only [Option.some.injEq,Prod.mk.injEq] at H
   obtain ⟨rfl,rfl⟩:=H
   go_enter Tryd.func74,Tryd.ntmps74
   go_wp2
   go_ret2
   exact ⟨by first|rfl|(simp;done)|(simp [*];done),by repeat (first|exact Drawn0.refl _|apply Drawn0.step)⟩
  ·
   rw [if_neg c3] at H
   have c3b0:decide (a0<1280)=false:=decide_eq_false c3
   clear c3
   simp only [Option.some.injEq,Prod.mk.injEq] at H
   obtain ⟨rfl,rfl⟩:=H
   go_enter Tryd.func74,Tryd.ntmps74
   go_wp2
   go_ret2
   exact ⟨by first|rfl|(simp;done)|(simp [*];done),by repeat (first|exact Drawn0.refl _|apply Drawn0.step)⟩
 ·
  rw [if_neg c2] at H
  have c2b0:decide (512≤a0)=false:=decide_eq_false c2
  clear c2
  simp only [Option.some.injEq,Prod.mk.injEq] at H
  obtain ⟨rfl,rfl⟩:=H
  go_enter Tryd.func74,Tryd.ntmps74
  go_wp2
  go_ret2
  exact ⟨by first|rfl|(simp;done)|(simp [*];done),by repeat (first|exact Drawn0.refl _|apply Drawn0.step)⟩
end Go.Proofs.YtjppikolddklfaaDoor.PW
end
