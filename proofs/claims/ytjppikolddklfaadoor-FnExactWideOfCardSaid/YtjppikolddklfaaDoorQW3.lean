/- Part 3: words, walks of functions, and plain laws of what these compute. (printed by this session's own programs; Lean checks it.) -/
import Derived.Test.YtjppikolddklfaaDoorQW0
import Derived.Test.YtjppikolddklfaaDoorQW1
import Derived.Test.YtjppikolddklfaaDoorQW2
section
namespace Go.Proofs.YtjppikolddklfaaDoor.PW
open Go.RowKit Go.Proofs.YtjppikolddklfaaDoorW.PrintWords Go.Proofs.YtjppikolddklfaaDoorW.PrintLast Go.Proofs.YtjppikolddklfaaDoorW.PrintMore
attribute [local go_sem] max2_int min2_int max_two min_two max_three min_three max_four min_four   
set_option linter.unusedVariables false
set_option linter.unusedSimpArgs false
mutual
def impl_kind.j0:Nat→Int→Int→Bool→Option (Int × Int)
 | 0,_,_,_=>none
 | k+1,x5,x6,x16=>if x16=true then (some (4,x6)) else (if x5<64 then (impl_kind.j1 k x5 x6 true) else ((impl_in.f x5 72 75).bind fun t260=>(if t260=true then (impl_kind.j1 k x5 x6 true) else ((impl_in.f x5 96 97).bind fun t261=>(impl_kind.j1 k x5 x6 t261)))))
def impl_kind.j1:Nat→Int→Int→Bool→Option (Int × Int)
 | 0,_,_,_=>none
 | k+1,x5,x6,x24=>if x24=true then (some (5,x6)) else ((impl_in.f x5 68 71).bind fun t262=>(if t262=true then (some (6,x6)) else ((impl_in.f x5 80 89).bind fun t263=>(if t263=true then (some (8,x6)) else (some (0,0))))))
def impl_kind.j2:Nat→Int→Bool→Option (Int × Int)
 | 0,_,_=>none
 | k+1,x0,x44=>if x44=true then (some (1,0)) else (if x0=32 then (impl_kind.j3 k x0 true) else (if x0=160 then (impl_kind.j3 k x0 true) else (impl_kind.j3 k x0 (x0 == 8064))))
def impl_kind.j3:Nat→Int→Bool→Option (Int × Int)
 | 0,_,_=>none
 | k+1,x0,x51=>if x51=true then (some (2,0)) else ((impl_in.f x0 48 57).bind fun t266=>(if t266=true then (some (8,0)) else ((impl_in.f x0 65 90).bind fun t267=>(if t267=true then (some (4,1)) else ((impl_in.f x0 97 122).bind fun t268=>(if t268=true then (some (5,1)) else ((impl_in.f x0 33 126).bind fun t269=>(if t269=true then (some (9,0)) else (if x0=173 then (some (11,0)) else ((impl_in.f x0 161 191).bind fun t270=>(if t270=true then (some (10,0)) else ((impl_in.f x0 1280 1311).bind fun t271=>(if t271=true then (some (7,5)) else ((impl_in.f x0 1360 1369).bind fun t272=>(if t272=true then (some (8,5)) else ((impl_in.f x0 1536 1567).bind fun t273=>(if t273=true then (some (7,6)) else ((impl_in.f x0 1568 1579).bind fun t274=>(if t274=true then (impl_kind.j4 k x0 true) else (if x0=1584 then (impl_kind.j4 k x0 true) else (impl_kind.j4 k x0 (x0 == 1585))))))))))))))))))))))
def impl_kind.j4:Nat→Int→Bool→Option (Int × Int)
 | 0,_,_=>none
 | k+1,x0,x89=>if x89=true then (some (3,6)) else ((impl_in.f x0 1616 1625).bind fun t275=>(if t275=true then (some (8,6)) else ((impl_in.f x0 1792 1810).bind fun t276=>(if t276=true then (impl_kind.j5 k x0 true) else ((impl_in.f x0 1824 1844).bind fun t277=>(if t277=true then (impl_kind.j5 k x0 true) else ((impl_in.f x0 1857 1883).bind fun t278=>(if t278=true then (impl_kind.j5 k x0 true) else ((impl_in.f x0 12288 23459).bind fun t279=>(impl_kind.j5 k x0 t279))))))))))
def impl_kind.j5:Nat→Int→Bool→Option (Int × Int)
 | 0,_,_=>none
 | k+1,x0,x103=>if x103=true then (some (7,7)) else ((impl_in.f x0 2048 2095).bind fun t280=>(if t280=true then (some (7,8)) else ((impl_in.f x0 4096 4159).bind fun t281=>(if t281=true then (some (3,0)) else ((impl_in.f x0 7680 7748).bind fun t282=>(if t282=true then (impl_kind.j6 k x0 true) else ((impl_in.f x0 7760 7785).bind fun t283=>(impl_kind.j6 k x0 t283))))))))
def impl_kind.j6:Nat→Int→Bool→Option (Int × Int)
 | 0,_,_=>none
 | k+1,x0,x124=>if x124=true then (some (10,0)) else ((impl_in.f x0 7936 7947).bind fun t284=>(if t284=true then (impl_kind.j7 k x0 true) else (if x0=7953 then (impl_kind.j7 k x0 true) else (impl_kind.j7 k x0 (x0 == 7954)))))
def impl_kind.j7:Nat→Int→Bool→Option (Int × Int)
 | 0,_,_=>none
 | k+1,x0,x131=>if x131=true then (some (11,0)) else ((impl_in.f x0 8192 9631).bind fun t285=>(if t285=true then (impl_kind.j8 k x0 (decide ((Int.tmod (wrap64 (x0-8192)) 512)<416))) else (impl_kind.j8 k x0 false)))
def impl_kind.j8:Nat→Int→Bool→Option (Int × Int)
 | 0,_,_=>none
 | k+1,x0,x142=>if x142=true then (if (Int.tmod (wrap64 (x0-8192)) 512)<208 then (some (4,1)) else (some (5,1))) else ((impl_in.f x0 9728 9753).bind fun t286=>(if t286=true then (some (4,1)) else ((impl_in.f x0 9984 10009).bind fun t287=>(if t287=true then (impl_kind.j9 k x0 true) else ((impl_in.f x0 10032 10035).bind fun t288=>(impl_kind.j9 k x0 t288))))))
def impl_kind.j9:Nat→Int→Bool→Option (Int × Int)
 | 0,_,_=>none
 | k+1,x0,x158=>if x158=true then (some (10,0)) else ((impl_in.f x0 10016 10025).bind fun t289=>(if t289=true then (some (8,0)) else ((impl_in.f x0 24576 26623).bind fun t290=>(if t290=true then (some (7,9)) else (some (0,0))))))
end
def impl_kind.f (k:Nat) (a0:Int):Option (Int × Int):=(impl_block.f a0).bind fun bt257=>(if bt257.1>0 then (if bt257.2<32 then (impl_kind.j0 k bt257.2 (bt257.1 / 256) true) else ((impl_in.f bt257.2 64 67).bind fun t259=>(impl_kind.j0 k bt257.2 (bt257.1 / 256) t259))) else ((impl_in.f a0 0 31).bind fun t264=>(if t264=true then (impl_kind.j2 k a0 true) else ((impl_in.f a0 127 159).bind fun t265=>(impl_kind.j2 k a0 t265)))))
set_option maxHeartbeats 8000000 in
set_option maxRecDepth 100000 in
theorem impl_kind.calls (k:Nat) (a0:Int) (r1:Int) (r2:Int) (w:World) (h:impl_kind.f k a0=some (r1,r2)) :
  Calls Tryd.prog 52 #[.int .i64 a0] w fun e w'=>e = .returned (.tuple #[.int .i64 r1,.int .i64 r2])∧Drawn0 w w':=by
 have H:((impl_block.f a0).bind fun bt257=>(if bt257.1>0 then (if bt257.2<32 then (impl_kind.j0 k bt257.2 (bt257.1 / 256) true) else ((impl_in.f bt257.2 64 67).bind fun t259=>(impl_kind.j0 k bt257.2 (bt257.1 / 256) t259))) else ((impl_in.f a0 0 31).bind fun t264=>(if t264=true then (impl_kind.j2 k a0 true) else ((impl_in.f a0 127 159).bind fun t265=>(impl_kind.j2 k a0 t265))))))=some (r1,r2):=h
 clear h
 replace H:=Option.bind_eq_some_iff.mp H
 obtain ⟨⟨t257,t258⟩,A20,H⟩:=H
 replace H:(if t257>0 then (if t258<32 then (impl_kind.j0 k t258 (t257 / 256) true) else ((impl_in.f t258 64 67).bind fun t259=>(impl_kind.j0 k t258 (t257 / 256) t259))) else ((impl_in.f a0 0 31).bind fun t264=>(if t264=true then (impl_kind.j2 k a0 true) else ((impl_in.f a0 127 159).bind fun t265=>(impl_kind.j2 k a0 t265)))))=some (r1,r2):=H
 have A2:=Aside0.mk A20
 clear A20
 by_cases c3:t257>0
 ·
  rw [if_pos c3] at H
  have c3b0:decide (0<t257)=true:=decide_eq_true c3
  clear c3
  have HC4:=Aside0.mk H
  clear H
  go_enter Tryd.func52,Tryd.ntmps52
  go_upto_region 4 with (first|((with_reducible refine gate_callee (f:=74) rfl ?_);refine goesL_ (some 9) rfl rfl Tryd.func74 (by kernel_rfl) rfl #[.int .i64 a0] rfl (by (try simp only [List.map_toArray,List.map_cons,List.map_nil]);first|done|rfl|(simp only [List.length_drop,List.length_take];rfl)) ?_;(with_reducible refine (impl_block.calls a0 t257 t258 _ A2.out).mono ?_);rintro e w' ⟨rfl,⟨nd,rfl⟩⟩;refine ⟨_,rfl,?_⟩))
  (try simp only [Act.put,List.setIfInBounds_toArray,List.set_cons_zero,List.set_cons_succ])
  go_cut [16] (fun v16 wc=>∃ (kq:Nat) (x16_3:Bool),v16 = .bool x16_3∧Aside0 (impl_kind.j0 kq t258 (t257 / 256) x16_3=some (r1,r2))∧Aside0 (kq≤k)∧Drawn0 w wc)
  case first=>as_aux_lemma =>
   have H:=HC4.out
   clear HC4
   by_cases c5:t258<32
   ·
    rw [if_pos c5] at H
    have c5b0:decide (t258<32)=true:=decide_eq_true c5
    clear c5
    (first|rw [c5b0]|(simp only [i64_w,i32_w];rw [c5b0])|skip)
    have H':=Aside0.mk H
    clear H
    go_wp2
    go_meet
    case rel=>exact ⟨_,(true),(by first|rfl|(simp;done)|(simp [*];done)),H',⟨by first|omega|exact Nat.le_refl _⟩,by repeat (first|exact Drawn0.refl _|apply Drawn0.step)⟩
   ·
    rw [if_neg c5] at H
    have c5b0:decide (t258<32)=false:=decide_eq_false c5
    clear c5
    (first|rw [c5b0]|(simp only [i64_w,i32_w];rw [c5b0])|skip)
    replace H:=Option.bind_eq_some_iff.mp H
    obtain ⟨t259,A60,H⟩:=H
    replace H:(impl_kind.j0 k t258 (t257 / 256) t259)=some (r1,r2):=H
    have A6:=Aside0.mk A60
    clear A60
    have H':=Aside0.mk H
    clear H
    go_wp2_with (first|(go_at_call 33;(with_reducible refine (impl_in.calls t258 64 67 t259 _ A6.out).mono ?_);rintro e w' ⟨rfl,⟨nd,rfl⟩⟩))
    go_meet
    case rel=>exact ⟨_,(t259),(by first|rfl|(simp;done)|(simp [*];done)),H',⟨by first|omega|exact Nat.le_refl _⟩,by repeat (first|exact Drawn0.refl _|apply Drawn0.step)⟩
  case rest =>
   clear HC4
   try clear p2
   try clear c3
   try clear c3b0
   try clear c5
   try clear c5b0
   obtain ⟨kq,x16_3,rfl,HA,HJ3,⟨mc3,rfl⟩⟩:=hcut
   cases kq with
   | zero=>exact absurd HA.out (by simp [impl_kind.j0])
   | succ kj3 =>
    have H:=HA.out
    clear HA
    simp only [impl_kind.j0] at H
    by_cases c7:x16_3=true
    ·
     subst c7
     have H1:(some (4,(t257 / 256)))=some (r1,r2):=by rw [if_pos rfl] at H;exact H
     clear H
     have H:=H1
     clear H1
     simp only [Option.some.injEq,Prod.mk.injEq] at H
     obtain ⟨rfl,rfl⟩:=H
     go_wp2
     go_ret2
     exact ⟨by first|rfl|(simp;done)|(simp [*];done),by repeat (first|exact Drawn0.refl _|apply Drawn0.step)⟩
    ·
     replace c7:=Bool.eq_false_iff.mpr c7
     subst c7
     have H1:(if t258<64 then (impl_kind.j1 kj3 t258 (t257 / 256) true) else ((impl_in.f t258 72 75).bind fun t260=>(if t260=true then (impl_kind.j1 kj3 t258 (t257 / 256) true) else ((impl_in.f t258 96 97).bind fun t261=>(impl_kind.j1 kj3 t258 (t257 / 256) t261)))))=some (r1,r2):=by rw [if_neg (show ¬ (false=true) by decide)] at H;exact H
     clear H
     have H:=H1
     clear H1
     have HC8:=Aside0.mk H
     clear H
     go_upto_region 6 with (fail)
     go_cut [24] (fun v24 wc=>∃ (kq:Nat) (x24_7:Bool),v24 = .bool x24_7∧Aside0 (impl_kind.j1 kq t258 (t257 / 256) x24_7=some (r1,r2))∧Aside0 (kq≤kj3)∧Drawn0 w wc)
     case first=>as_aux_lemma =>
      have H:=HC8.out
      clear HC8
      by_cases c9:t258<64
      ·
       rw [if_pos c9] at H
       have c9b0:decide (t258<64)=true:=decide_eq_true c9
       clear c9
       (first|rw [c9b0]|(simp only [i64_w,i32_w];rw [c9b0])|skip)
       have H':=Aside0.mk H
       clear H
       go_wp2
       go_meet
       case rel=>exact ⟨_,(true),(by first|rfl|(simp;done)|(simp [*];done)),H',⟨by have:=HJ3.out;first|omega|exact Nat.le_refl _⟩,by repeat (first|exact Drawn0.refl _|apply Drawn0.step)⟩
      ·
       rw [if_neg c9] at H
       have c9b0:decide (t258<64)=false:=decide_eq_false c9
       clear c9
       (first|rw [c9b0]|(simp only [i64_w,i32_w];rw [c9b0])|skip)
       replace H:=Option.bind_eq_some_iff.mp H
       obtain ⟨t260,A100,H⟩:=H
       replace H:(if t260=true then (impl_kind.j1 kj3 t258 (t257 / 256) true) else ((impl_in.f t258 96 97).bind fun t261=>(impl_kind.j1 kj3 t258 (t257 / 256) t261)))=some (r1,r2):=H
       have A10:=Aside0.mk A100
       clear A100
       by_cases c11:t260=true
       ·
        subst c11
        have H1:(impl_kind.j1 kj3 t258 (t257 / 256) true)=some (r1,r2):=by rw [if_pos rfl] at H;exact H
        clear H
        have H:=H1
        clear H1
        have H':=Aside0.mk H
        clear H
        go_wp2_with (first|(go_at_call 33;(with_reducible refine (impl_in.calls t258 72 75 true _ A10.out).mono ?_);rintro e w' ⟨rfl,⟨nd,rfl⟩⟩))
        go_meet
        case rel=>exact ⟨_,(true),(by first|rfl|(simp;done)|(simp [*];done)),H',⟨by have:=HJ3.out;first|omega|exact Nat.le_refl _⟩,by repeat (first|exact Drawn0.refl _|apply Drawn0.step)⟩
       ·
        replace c11:=Bool.eq_false_iff.mpr c11
        subst c11
        have H1:((impl_in.f t258 96 97).bind fun t261=>(impl_kind.j1 kj3 t258 (t257 / 256) t261))=some (r1,r2):=by rw [if_neg (show ¬ (false=true) by decide)] at H;exact H
        clear H
        have H:=H1
        clear H1
        replace H:=Option.bind_eq_some_iff.mp H
        obtain ⟨t261,A120,H⟩:=H
        replace H:(impl_kind.j1 kj3 t258 (t257 / 256) t261)=some (r1,r2):=H
        have A12:=Aside0.mk A120
        clear A120
        have H':=Aside0.mk H
        clear H
        go_wp2_with (first|(go_at_call 33;(with_reducible refine (impl_in.calls t258 72 75 false _ A10.out).mono ?_);rintro e w' ⟨rfl,⟨nd,rfl⟩⟩)|(go_at_call 33;(with_reducible refine (impl_in.calls t258 96 97 t261 _ A12.out).mono ?_);rintro e w' ⟨rfl,⟨nd,rfl⟩⟩))
        go_meet
        case rel=>exact ⟨_,(t261),(by first|rfl|(simp;done)|(simp [*];done)),H',⟨by have:=HJ3.out;first|omega|exact Nat.le_refl _⟩,by repeat (first|exact Drawn0.refl _|apply Drawn0.step)⟩
     case rest =>
      clear HC8
      try clear c1
      try clear p2
      try clear c3
      try clear c3b0
      try clear c5
      try clear c5b0
      try clear c7
      try clear c9
      try clear c9b0
      try clear c11
      try clear p2
      obtain ⟨kq,x24_7,rfl,HA,HJ7,⟨mc7,rfl⟩⟩:=hcut
      cases kq with
      | zero=>exact absurd HA.out (by simp [impl_kind.j1])
      | succ kj7 =>
       have H:=HA.out
       clear HA
       simp only [impl_kind.j1] at H
       by_cases c13:x24_7=true
       ·
        subst c13
        have H1:(some (5,(t257 / 256)))=some (r1,r2):=by rw [if_pos rfl] at H;exact H
        clear H
        have H:=H1
        clear H1
        simp only [Option.some.injEq,Prod.mk.injEq] at H
        obtain ⟨rfl,rfl⟩:=H
        go_wp2
        go_ret2
        exact ⟨by first|rfl|(simp;done)|(simp [*];done),by repeat (first|exact Drawn0.refl _|apply Drawn0.step)⟩
       ·
        replace c13:=Bool.eq_false_iff.mpr c13
        subst c13
        have H1:((impl_in.f t258 68 71).bind fun t262=>(if t262=true then (some (6,(t257 / 256))) else ((impl_in.f t258 80 89).bind fun t263=>(if t263=true then (some (8,(t257 / 256))) else (some (0,0))))))=some (r1,r2):=by rw [if_neg (show ¬ (false=true) by decide)] at H;exact H
        clear H
        have H:=H1
        clear H1
        replace H:=Option.bind_eq_some_iff.mp H
        obtain ⟨t262,A140,H⟩:=H
        replace H:(if t262=true then (some (6,(t257 / 256))) else ((impl_in.f t258 80 89).bind fun t263=>(if t263=true then (some (8,(t257 / 256))) else (some (0,0)))))=some (r1,r2):=H
        have A14:=Aside0.mk A140
        clear A140
        by_cases c15:t262=true
        ·
         subst c15
         have H1:(some (6,(t257 / 256)))=some (r1,r2):=by rw [if_pos rfl] at H;exact H
         clear H
         have H:=H1
         clear H1
         simp only [Option.some.injEq,Prod.mk.injEq] at H
         obtain ⟨rfl,rfl⟩:=H
         go_wp2_with (first|((with_reducible refine gate_callee (f:=33) rfl ?_);refine goesL_ (some 38) rfl rfl Tryd.func33 (by kernel_rfl) rfl #[.int .i64 t258,.int .i64 68,.int .i64 71] rfl (by (try simp only [List.map_toArray,List.map_cons,List.map_nil]);first|done|rfl|(simp only [List.length_drop,List.length_take];rfl)) ?_;(with_reducible refine (impl_in.calls t258 68 71 true _ A14.out).mono ?_);rintro e w' ⟨rfl,⟨nd,rfl⟩⟩;refine ⟨_,rfl,?_⟩))
         go_ret2
         exact ⟨by first|rfl|(simp;done)|(simp [*];done),by repeat (first|exact Drawn0.refl _|apply Drawn0.step)⟩
        ·
         replace c15:=Bool.eq_false_iff.mpr c15
         subst c15
         have H1:((impl_in.f t258 80 89).bind fun t263=>(if t263=true then (some (8,(t257 / 256))) else (some (0,0))))=some (r1,r2):=by rw [if_neg (show ¬ (false=true) by decide)] at H;exact H
         clear H
         have H:=H1
         clear H1
         replace H:=Option.bind_eq_some_iff.mp H
         obtain ⟨t263,A160,H⟩:=H
         replace H:(if t263=true then (some (8,(t257 / 256))) else (some (0,0)))=some (r1,r2):=H
         have A16:=Aside0.mk A160
         clear A160
         by_cases c17:t263=true
         ·
          subst c17
          have H1:(some (8,(t257 / 256)))=some (r1,r2):=by rw [if_pos rfl] at H;exact H
          clear H
          have H:=H1
          clear H1
          simp only [Option.some.injEq,Prod.mk.injEq] at H
          obtain ⟨rfl,rfl⟩:=H
          go_wp2_with (first|((with_reducible refine gate_callee (f:=33) rfl ?_);refine goesL_ (some 38) rfl rfl Tryd.func33 (by kernel_rfl) rfl #[.int .i64 t258,.int .i64 68,.int .i64 71] rfl (by (try simp only [List.map_toArray,List.map_cons,List.map_nil]);first|done|rfl|(simp only [List.length_drop,List.length_take];rfl)) ?_;(with_reducible refine (impl_in.calls t258 68 71 false _ A14.out).mono ?_);rintro e w' ⟨rfl,⟨nd,rfl⟩⟩;refine ⟨_,rfl,?_⟩)|((with_reducible refine gate_callee (f:=33) rfl ?_);refine goesL_ (some 42) rfl rfl Tryd.func33 (by kernel_rfl) rfl #[.int .i64 t258,.int .i64 80,.int .i64 89] rfl (by (try simp only [List.map_toArray,List.map_cons,List.map_nil]);first|done|rfl|(simp only [List.length_drop,List.length_take];rfl)) ?_;(with_reducible refine (impl_in.calls t258 80 89 true _ A16.out).mono ?_);rintro e w' ⟨rfl,⟨nd,rfl⟩⟩;refine ⟨_,rfl,?_⟩))
          go_ret2
          exact ⟨by first|rfl|(simp;done)|(simp [*];done),by repeat (first|exact Drawn0.refl _|apply Drawn0.step)⟩
         ·
          replace c17:=Bool.eq_false_iff.mpr c17
          subst c17
          have H1:(some (0,0))=some (r1,r2):=by rw [if_neg (show ¬ (false=true) by decide)] at H;exact H
          clear H
          have H:=H1
          clear H1
          simp only [Option.some.injEq,Prod.mk.injEq] at H
          obtain ⟨rfl,rfl⟩:=H
          go_wp2_with (first|((with_reducible refine gate_callee (f:=33) rfl ?_);refine goesL_ (some 38) rfl rfl Tryd.func33 (by kernel_rfl) rfl #[.int .i64 t258,.int .i64 68,.int .i64 71] rfl (by (try simp only [List.map_toArray,List.map_cons,List.map_nil]);first|done|rfl|(simp only [List.length_drop,List.length_take];rfl)) ?_;(with_reducible refine (impl_in.calls t258 68 71 false _ A14.out).mono ?_);rintro e w' ⟨rfl,⟨nd,rfl⟩⟩;refine ⟨_,rfl,?_⟩)|((with_reducible refine gate_callee (f:=33) rfl ?_);refine goesL_ (some 42) rfl rfl Tryd.func33 (by kernel_rfl) rfl #[.int .i64 t258,.int .i64 80,.int .i64 89] rfl (by (try simp only [List.map_toArray,List.map_cons,List.map_nil]);first|done|rfl|(simp only [List.length_drop,List.length_take];rfl)) ?_;(with_reducible refine (impl_in.calls t258 80 89 false _ A16.out).mono ?_);rintro e w' ⟨rfl,⟨nd,rfl⟩⟩;refine ⟨_,rfl,?_⟩))
          go_ret2
          exact ⟨by first|rfl|(simp;done)|(simp [*];done),by repeat (first|exact Drawn0.refl _|apply Drawn0.step)⟩
 ·
  rw [if_neg c3] at H
  have c3b0:decide (0<t257)=false:=decide_eq_false c3
  clear c3
  have HC18:=Aside0.mk H
  clear H
  go_enter Tryd.func52,Tryd.ntmps52
  go_upto_region 13 with (first|((with_reducible refine gate_callee (f:=74) rfl ?_);refine goesL_ (some 9) rfl rfl Tryd.func74 (by kernel_rfl) rfl #[.int .i64 a0] rfl (by (try simp only [List.map_toArray,List.map_cons,List.map_nil]);first|done|rfl|(simp only [List.length_drop,List.length_take];rfl)) ?_;(with_reducible refine (impl_block.calls a0 t257 t258 _ A2.out).mono ?_);rintro e w' ⟨rfl,⟨nd,rfl⟩⟩;refine ⟨_,rfl,?_⟩))
  (try simp only [Act.put,List.setIfInBounds_toArray,List.set_cons_zero,List.set_cons_succ])
  go_cut [44] (fun v44 wc=>∃ (kq:Nat) (x44_17:Bool),v44 = .bool x44_17∧Aside0 (impl_kind.j2 kq a0 x44_17=some (r1,r2))∧Aside0 (kq≤k)∧Drawn0 w wc)
  case first=>as_aux_lemma =>
   have H:=HC18.out
   clear HC18
   replace H:=Option.bind_eq_some_iff.mp H
   obtain ⟨t264,A190,H⟩:=H
   replace H:(if t264=true then (impl_kind.j2 k a0 true) else ((impl_in.f a0 127 159).bind fun t265=>(impl_kind.j2 k a0 t265)))=some (r1,r2):=H
   have A19:=Aside0.mk A190
   clear A190
   by_cases c20:t264=true
   ·
    subst c20
    have H1:(impl_kind.j2 k a0 true)=some (r1,r2):=by rw [if_pos rfl] at H;exact H
    clear H
    have H:=H1
    clear H1
    have H':=Aside0.mk H
    clear H
    go_wp2_with (first|((with_reducible refine gate_callee (f:=33) rfl ?_);refine goesL_ (some 46) rfl rfl Tryd.func33 (by kernel_rfl) rfl #[.int .i64 a0,.int .i64 0,.int .i64 31] rfl (by (try simp only [List.map_toArray,List.map_cons,List.map_nil]);first|done|rfl|(simp only [List.length_drop,List.length_take];rfl)) ?_;(with_reducible refine (impl_in.calls a0 0 31 true _ A19.out).mono ?_);rintro e w' ⟨rfl,⟨nd,rfl⟩⟩;refine ⟨_,rfl,?_⟩))
    go_meet
    case rel=>exact ⟨_,(true),(by first|rfl|(simp;done)|(simp [*];done)),H',⟨by first|omega|exact Nat.le_refl _⟩,by repeat (first|exact Drawn0.refl _|apply Drawn0.step)⟩
   ·
    replace c20:=Bool.eq_false_iff.mpr c20
    subst c20
    have H1:((impl_in.f a0 127 159).bind fun t265=>(impl_kind.j2 k a0 t265))=some (r1,r2):=by rw [if_neg (show ¬ (false=true) by decide)] at H;exact H
    clear H
    have H:=H1
    clear H1
    replace H:=Option.bind_eq_some_iff.mp H
    obtain ⟨t265,A210,H⟩:=H
    replace H:(impl_kind.j2 k a0 t265)=some (r1,r2):=H
    have A21:=Aside0.mk A210
    clear A210
    have H':=Aside0.mk H
    clear H
    go_wp2_with (first|((with_reducible refine gate_callee (f:=33) rfl ?_);refine goesL_ (some 46) rfl rfl Tryd.func33 (by kernel_rfl) rfl #[.int .i64 a0,.int .i64 0,.int .i64 31] rfl (by (try simp only [List.map_toArray,List.map_cons,List.map_nil]);first|done|rfl|(simp only [List.length_drop,List.length_take];rfl)) ?_;(with_reducible refine (impl_in.calls a0 0 31 false _ A19.out).mono ?_);rintro e w' ⟨rfl,⟨nd,rfl⟩⟩;refine ⟨_,rfl,?_⟩)|(go_at_call 33;(with_reducible refine (impl_in.calls a0 127 159 t265 _ A21.out).mono ?_);rintro e w' ⟨rfl,⟨nd,rfl⟩⟩))
    go_meet
    case rel=>exact ⟨_,(t265),(by first|rfl|(simp;done)|(simp [*];done)),H',⟨by first|omega|exact Nat.le_refl _⟩,by repeat (first|exact Drawn0.refl _|apply Drawn0.step)⟩
  case rest =>
   clear HC18
   try clear c1
   try clear c2
   try clear p2
   try clear c3
   try clear c3b0
   try clear c5
   try clear c5b0
   try clear c7
   try clear c9
   try clear c9b0
   try clear c11
   try clear c13
   try clear c15
   try clear c17
   try clear c20
   try clear p2
   obtain ⟨kq,x44_17,rfl,HA,HJ17,⟨mc17,rfl⟩⟩:=hcut
   cases kq with
   | zero=>exact absurd HA.out (by simp [impl_kind.j2])
   | succ kj17 =>
    have H:=HA.out
    clear HA
    simp only [impl_kind.j2] at H
    by_cases c22:x44_17=true
    ·
     subst c22
     have H1:(some (1,0))=some (r1,r2):=by rw [if_pos rfl] at H;exact H
     clear H
     have H:=H1
     clear H1
     simp only [Option.some.injEq,Prod.mk.injEq] at H
     obtain ⟨rfl,rfl⟩:=H
     go_wp2
     go_ret2
     exact ⟨by first|rfl|(simp;done)|(simp [*];done),by repeat (first|exact Drawn0.refl _|apply Drawn0.step)⟩
    ·
     replace c22:=Bool.eq_false_iff.mpr c22
     subst c22
     have H1:(if a0=32 then (impl_kind.j3 kj17 a0 true) else (if a0=160 then (impl_kind.j3 kj17 a0 true) else (impl_kind.j3 kj17 a0 (a0 == 8064))))=some (r1,r2):=by rw [if_neg (show ¬ (false=true) by decide)] at H;exact H
     clear H
     have H:=H1
     clear H1
     have HC23:=Aside0.mk H
     clear H
     go_upto_region 15 with (fail)
     go_cut [51] (fun v51 wc=>∃ (kq:Nat) (x51_22:Bool),v51 = .bool x51_22∧Aside0 (impl_kind.j3 kq a0 x51_22=some (r1,r2))∧Aside0 (kq≤kj17)∧Drawn0 w wc)
     case first=>as_aux_lemma =>
      have H:=HC23.out
      clear HC23
      by_cases c24:a0=32
      ·
       rw [if_pos c24] at H
       have c24b0:(a0 == 32)=true:=beq_iff_eq.mpr c24
       have c24b1:(a0 != 32)=false:=bne_eq_false_iff_eq.mpr c24
       clear c24
       (first|rw [c24b0]|(simp only [i64_w,i32_w];rw [c24b0])|skip)
       have H':=Aside0.mk H
       clear H
       go_wp2
       go_meet
       case rel=>exact ⟨_,(true),(by first|rfl|(simp;done)|(simp [*];done)),H',⟨by have:=HJ17.out;first|omega|exact Nat.le_refl _⟩,by repeat (first|exact Drawn0.refl _|apply Drawn0.step)⟩
      ·
       rw [if_neg c24] at H
       have c24b0:(a0 == 32)=false:=beq_eq_false_iff_ne.mpr c24
       have c24b1:(a0 != 32)=true:=bne_iff_ne.mpr c24
       (first|rw [c24b0]|(simp only [i64_w,i32_w];rw [c24b0])|skip)
       by_cases c25:a0=160
       ·
        rw [if_pos c25] at H
        have c25b0:(a0 == 160)=true:=beq_iff_eq.mpr c25
        have c25b1:(a0 != 160)=false:=bne_eq_false_iff_eq.mpr c25
        clear c25
        have H':=Aside0.mk H
        clear H
        go_wp2
        go_meet
        case rel=>exact ⟨_,(true),(by first|rfl|(simp;done)|(simp [*];done)),H',⟨by have:=HJ17.out;first|omega|exact Nat.le_refl _⟩,by repeat (first|exact Drawn0.refl _|apply Drawn0.step)⟩
       ·
        rw [if_neg c25] at H
        have c25b0:(a0 == 160)=false:=beq_eq_false_iff_ne.mpr c25
        have c25b1:(a0 != 160)=true:=bne_iff_ne.mpr c25
        have H':=Aside0.mk H
        clear H
        go_wp2
        go_meet
        case rel=>exact ⟨_,((a0 == 8064)),(by first|rfl|(simp;done)|(simp [*];done)),H',⟨by have:=HJ17.out;first|omega|exact Nat.le_refl _⟩,by repeat (first|exact Drawn0.refl _|apply Drawn0.step)⟩
     case rest =>
      clear HC23
      try clear c1
      try clear c2
      try clear p2
      try clear c3
      try clear c3b0
      try clear c5
      try clear c5b0
      try clear c7
      try clear c9
      try clear c9b0
      try clear c11
      try clear c13
      try clear c15
      try clear c17
      try clear c20
      try clear c22
      try clear c24
      try clear c24b0
      try clear c24b1
      try clear c25
      try clear c25b0
      try clear c25b1
      try clear p2
      obtain ⟨kq,x51_22,rfl,HA,HJ22,⟨mc22,rfl⟩⟩:=hcut
      cases kq with
      | zero=>exact absurd HA.out (by simp [impl_kind.j3])
      | succ kj22 =>
       have H:=HA.out
       clear HA
       simp only [impl_kind.j3] at H
       by_cases c26:x51_22=true
       ·
        subst c26
        have H1:(some (2,0))=some (r1,r2):=by rw [if_pos rfl] at H;exact H
        clear H
        have H:=H1
        clear H1
        simp only [Option.some.injEq,Prod.mk.injEq] at H
        obtain ⟨rfl,rfl⟩:=H
        go_wp2
        go_ret2
        exact ⟨by first|rfl|(simp;done)|(simp [*];done),by repeat (first|exact Drawn0.refl _|apply Drawn0.step)⟩
       ·
        replace c26:=Bool.eq_false_iff.mpr c26
        subst c26
        have H1:((impl_in.f a0 48 57).bind fun t266=>(if t266=true then (some (8,0)) else ((impl_in.f a0 65 90).bind fun t267=>(if t267=true then (some (4,1)) else ((impl_in.f a0 97 122).bind fun t268=>(if t268=true then (some (5,1)) else ((impl_in.f a0 33 126).bind fun t269=>(if t269=true then (some (9,0)) else (if a0=173 then (some (11,0)) else ((impl_in.f a0 161 191).bind fun t270=>(if t270=true then (some (10,0)) else ((impl_in.f a0 1280 1311).bind fun t271=>(if t271=true then (some (7,5)) else ((impl_in.f a0 1360 1369).bind fun t272=>(if t272=true then (some (8,5)) else ((impl_in.f a0 1536 1567).bind fun t273=>(if t273=true then (some (7,6)) else ((impl_in.f a0 1568 1579).bind fun t274=>(if t274=true then (impl_kind.j4 kj22 a0 true) else (if a0=1584 then (impl_kind.j4 kj22 a0 true) else (impl_kind.j4 kj22 a0 (a0 == 1585))))))))))))))))))))))=some (r1,r2):=by rw [if_neg (show ¬ (false=true) by decide)] at H;exact H
        clear H
        have H:=H1
        clear H1
        replace H:=Option.bind_eq_some_iff.mp H
        obtain ⟨t266,A270,H⟩:=H
        replace H:(if t266=true then (some (8,0)) else ((impl_in.f a0 65 90).bind fun t267=>(if t267=true then (some (4,1)) else ((impl_in.f a0 97 122).bind fun t268=>(if t268=true then (some (5,1)) else ((impl_in.f a0 33 126).bind fun t269=>(if t269=true then (some (9,0)) else (if a0=173 then (some (11,0)) else ((impl_in.f a0 161 191).bind fun t270=>(if t270=true then (some (10,0)) else ((impl_in.f a0 1280 1311).bind fun t271=>(if t271=true then (some (7,5)) else ((impl_in.f a0 1360 1369).bind fun t272=>(if t272=true then (some (8,5)) else ((impl_in.f a0 1536 1567).bind fun t273=>(if t273=true then (some (7,6)) else ((impl_in.f a0 1568 1579).bind fun t274=>(if t274=true then (impl_kind.j4 kj22 a0 true) else (if a0=1584 then (impl_kind.j4 kj22 a0 true) else (impl_kind.j4 kj22 a0 (a0 == 1585)))))))))))))))))))))=some (r1,r2):=H
        have A27:=Aside0.mk A270
        clear A270
        by_cases c28:t266=true
        ·
         subst c28
         have H1:(some (8,0))=some (r1,r2):=by rw [if_pos rfl] at H;exact H
         clear H
         have H:=H1
         clear H1
         simp only [Option.some.injEq,Prod.mk.injEq] at H
         obtain ⟨rfl,rfl⟩:=H
         go_wp2_with (first|((with_reducible refine gate_callee (f:=33) rfl ?_);refine goesL_ (some 64) rfl rfl Tryd.func33 (by kernel_rfl) rfl #[.int .i64 a0,.int .i64 48,.int .i64 57] rfl (by (try simp only [List.map_toArray,List.map_cons,List.map_nil]);first|done|rfl|(simp only [List.length_drop,List.length_take];rfl)) ?_;(with_reducible refine (impl_in.calls a0 48 57 true _ A27.out).mono ?_);rintro e w' ⟨rfl,⟨nd,rfl⟩⟩;refine ⟨_,rfl,?_⟩))
         go_ret2
         exact ⟨by first|rfl|(simp;done)|(simp [*];done),by repeat (first|exact Drawn0.refl _|apply Drawn0.step)⟩
        ·
         replace c28:=Bool.eq_false_iff.mpr c28
         subst c28
         have H1:((impl_in.f a0 65 90).bind fun t267=>(if t267=true then (some (4,1)) else ((impl_in.f a0 97 122).bind fun t268=>(if t268=true then (some (5,1)) else ((impl_in.f a0 33 126).bind fun t269=>(if t269=true then (some (9,0)) else (if a0=173 then (some (11,0)) else ((impl_in.f a0 161 191).bind fun t270=>(if t270=true then (some (10,0)) else ((impl_in.f a0 1280 1311).bind fun t271=>(if t271=true then (some (7,5)) else ((impl_in.f a0 1360 1369).bind fun t272=>(if t272=true then (some (8,5)) else ((impl_in.f a0 1536 1567).bind fun t273=>(if t273=true then (some (7,6)) else ((impl_in.f a0 1568 1579).bind fun t274=>(if t274=true then (impl_kind.j4 kj22 a0 true) else (if a0=1584 then (impl_kind.j4 kj22 a0 true) else (impl_kind.j4 kj22 a0 (a0 == 1585))))))))))))))))))))=some (r1,r2):=by rw [if_neg (show ¬ (false=true) by decide)] at H;exact H
         clear H
         have H:=H1
         clear H1
         replace H:=Option.bind_eq_some_iff.mp H
         obtain ⟨t267,A290,H⟩:=H
         replace H:(if t267=true then (some (4,1)) else ((impl_in.f a0 97 122).bind fun t268=>(if t268=true then (some (5,1)) else ((impl_in.f a0 33 126).bind fun t269=>(if t269=true then (some (9,0)) else (if a0=173 then (some (11,0)) else ((impl_in.f a0 161 191).bind fun t270=>(if t270=true then (some (10,0)) else ((impl_in.f a0 1280 1311).bind fun t271=>(if t271=true then (some (7,5)) else ((impl_in.f a0 1360 1369).bind fun t272=>(if t272=true then (some (8,5)) else ((impl_in.f a0 1536 1567).bind fun t273=>(if t273=true then (some (7,6)) else ((impl_in.f a0 1568 1579).bind fun t274=>(if t274=true then (impl_kind.j4 kj22 a0 true) else (if a0=1584 then (impl_kind.j4 kj22 a0 true) else (impl_kind.j4 kj22 a0 (a0 == 1585)))))))))))))))))))=some (r1,r2):=H
         have A29:=Aside0.mk A290
         clear A290
         by_cases c30:t267=true
         ·
          subst c30
          have H1:(some (4,1))=some (r1,r2):=by rw [if_pos rfl] at H;exact H
          clear H
          have H:=H1
          clear H1
          simp only [Option.some.injEq,Prod.mk.injEq] at H
          obtain ⟨rfl,rfl⟩:=H
          go_wp2_with (first|((with_reducible refine gate_callee (f:=33) rfl ?_);refine goesL_ (some 64) rfl rfl Tryd.func33 (by kernel_rfl) rfl #[.int .i64 a0,.int .i64 48,.int .i64 57] rfl (by (try simp only [List.map_toArray,List.map_cons,List.map_nil]);first|done|rfl|(simp only [List.length_drop,List.length_take];rfl)) ?_;(with_reducible refine (impl_in.calls a0 48 57 false _ A27.out).mono ?_);rintro e w' ⟨rfl,⟨nd,rfl⟩⟩;refine ⟨_,rfl,?_⟩)|((with_reducible refine gate_callee (f:=33) rfl ?_);refine goesL_ (some 67) rfl rfl Tryd.func33 (by kernel_rfl) rfl #[.int .i64 a0,.int .i64 65,.int .i64 90] rfl (by (try simp only [List.map_toArray,List.map_cons,List.map_nil]);first|done|rfl|(simp only [List.length_drop,List.length_take];rfl)) ?_;(with_reducible refine (impl_in.calls a0 65 90 true _ A29.out).mono ?_);rintro e w' ⟨rfl,⟨nd,rfl⟩⟩;refine ⟨_,rfl,?_⟩))
          go_ret2
          exact ⟨by first|rfl|(simp;done)|(simp [*];done),by repeat (first|exact Drawn0.refl _|apply Drawn0.step)⟩
         ·
          replace c30:=Bool.eq_false_iff.mpr c30
          subst c30
          have H1:((impl_in.f a0 97 122).bind fun t268=>(if t268=true then (some (5,1)) else ((impl_in.f a0 33 126).bind fun t269=>(if t269=true then (some (9,0)) else (if a0=173 then (some (11,0)) else ((impl_in.f a0 161 191).bind fun t270=>(if t270=true then (some (10,0)) else ((impl_in.f a0 1280 1311).bind fun t271=>(if t271=true then (some (7,5)) else ((impl_in.f a0 1360 1369).bind fun t272=>(if t272=true then (some (8,5)) else ((impl_in.f a0 1536 1567).bind fun t273=>(if t273=true then (some (7,6)) else ((impl_in.f a0 1568 1579).bind fun t274=>(if t274=true then (impl_kind.j4 kj22 a0 true) else (if a0=1584 then (impl_kind.j4 kj22 a0 true) else (impl_kind.j4 kj22 a0 (a0 == 1585))))))))))))))))))=some (r1,r2):=by rw [if_neg (show ¬ (false=true) by decide)] at H;exact H
          clear H
          have H:=H1
          clear H1
          replace H:=Option.bind_eq_some_iff.mp H
          obtain ⟨t268,A310,H⟩:=H
          replace H:(if t268=true then (some (5,1)) else ((impl_in.f a0 33 126).bind fun t269=>(if t269=true then (some (9,0)) else (if a0=173 then (some (11,0)) else ((impl_in.f a0 161 191).bind fun t270=>(if t270=true then (some (10,0)) else ((impl_in.f a0 1280 1311).bind fun t271=>(if t271=true then (some (7,5)) else ((impl_in.f a0 1360 1369).bind fun t272=>(if t272=true then (some (8,5)) else ((impl_in.f a0 1536 1567).bind fun t273=>(if t273=true then (some (7,6)) else ((impl_in.f a0 1568 1579).bind fun t274=>(if t274=true then (impl_kind.j4 kj22 a0 true) else (if a0=1584 then (impl_kind.j4 kj22 a0 true) else (impl_kind.j4 kj22 a0 (a0 == 1585)))))))))))))))))=some (r1,r2):=H
          have A31:=Aside0.mk A310
          clear A310
          by_cases c32:t268=true
          ·
           subst c32
           have H1:(some (5,1))=some (r1,r2):=by rw [if_pos rfl] at H;exact H
           clear H
           have H:=H1
           clear H1
           simp only [Option.some.injEq,Prod.mk.injEq] at H
           obtain ⟨rfl,rfl⟩:=H
           go_wp2_with (first|((with_reducible refine gate_callee (f:=33) rfl ?_);refine goesL_ (some 64) rfl rfl Tryd.func33 (by kernel_rfl) rfl #[.int .i64 a0,.int .i64 48,.int .i64 57] rfl (by (try simp only [List.map_toArray,List.map_cons,List.map_nil]);first|done|rfl|(simp only [List.length_drop,List.length_take];rfl)) ?_;(with_reducible refine (impl_in.calls a0 48 57 false _ A27.out).mono ?_);rintro e w' ⟨rfl,⟨nd,rfl⟩⟩;refine ⟨_,rfl,?_⟩)|((with_reducible refine gate_callee (f:=33) rfl ?_);refine goesL_ (some 67) rfl rfl Tryd.func33 (by kernel_rfl) rfl #[.int .i64 a0,.int .i64 65,.int .i64 90] rfl (by (try simp only [List.map_toArray,List.map_cons,List.map_nil]);first|done|rfl|(simp only [List.length_drop,List.length_take];rfl)) ?_;(with_reducible refine (impl_in.calls a0 65 90 false _ A29.out).mono ?_);rintro e w' ⟨rfl,⟨nd,rfl⟩⟩;refine ⟨_,rfl,?_⟩)|((with_reducible refine gate_callee (f:=33) rfl ?_);refine goesL_ (some 70) rfl rfl Tryd.func33 (by kernel_rfl) rfl #[.int .i64 a0,.int .i64 97,.int .i64 122] rfl (by (try simp only [List.map_toArray,List.map_cons,List.map_nil]);first|done|rfl|(simp only [List.length_drop,List.length_take];rfl)) ?_;(with_reducible refine (impl_in.calls a0 97 122 true _ A31.out).mono ?_);rintro e w' ⟨rfl,⟨nd,rfl⟩⟩;refine ⟨_,rfl,?_⟩))
           go_ret2
           exact ⟨by first|rfl|(simp;done)|(simp [*];done),by repeat (first|exact Drawn0.refl _|apply Drawn0.step)⟩
          ·
           replace c32:=Bool.eq_false_iff.mpr c32
           subst c32
           have H1:((impl_in.f a0 33 126).bind fun t269=>(if t269=true then (some (9,0)) else (if a0=173 then (some (11,0)) else ((impl_in.f a0 161 191).bind fun t270=>(if t270=true then (some (10,0)) else ((impl_in.f a0 1280 1311).bind fun t271=>(if t271=true then (some (7,5)) else ((impl_in.f a0 1360 1369).bind fun t272=>(if t272=true then (some (8,5)) else ((impl_in.f a0 1536 1567).bind fun t273=>(if t273=true then (some (7,6)) else ((impl_in.f a0 1568 1579).bind fun t274=>(if t274=true then (impl_kind.j4 kj22 a0 true) else (if a0=1584 then (impl_kind.j4 kj22 a0 true) else (impl_kind.j4 kj22 a0 (a0 == 1585))))))))))))))))=some (r1,r2):=by rw [if_neg (show ¬ (false=true) by decide)] at H;exact H
           clear H
           have H:=H1
           clear H1
           replace H:=Option.bind_eq_some_iff.mp H
           obtain ⟨t269,A330,H⟩:=H
           replace H:(if t269=true then (some (9,0)) else (if a0=173 then (some (11,0)) else ((impl_in.f a0 161 191).bind fun t270=>(if t270=true then (some (10,0)) else ((impl_in.f a0 1280 1311).bind fun t271=>(if t271=true then (some (7,5)) else ((impl_in.f a0 1360 1369).bind fun t272=>(if t272=true then (some (8,5)) else ((impl_in.f a0 1536 1567).bind fun t273=>(if t273=true then (some (7,6)) else ((impl_in.f a0 1568 1579).bind fun t274=>(if t274=true then (impl_kind.j4 kj22 a0 true) else (if a0=1584 then (impl_kind.j4 kj22 a0 true) else (impl_kind.j4 kj22 a0 (a0 == 1585)))))))))))))))=some (r1,r2):=H
           have A33:=Aside0.mk A330
           clear A330
           by_cases c34:t269=true
           ·
            subst c34
            have H1:(some (9,0))=some (r1,r2):=by rw [if_pos rfl] at H;exact H
            clear H
            have H:=H1
            clear H1
            simp only [Option.some.injEq,Prod.mk.injEq] at H
            obtain ⟨rfl,rfl⟩:=H
            go_wp2_with (first|((with_reducible refine gate_callee (f:=33) rfl ?_);refine goesL_ (some 64) rfl rfl Tryd.func33 (by kernel_rfl) rfl #[.int .i64 a0,.int .i64 48,.int .i64 57] rfl (by (try simp only [List.map_toArray,List.map_cons,List.map_nil]);first|done|rfl|(simp only [List.length_drop,List.length_take];rfl)) ?_;(with_reducible refine (impl_in.calls a0 48 57 false _ A27.out).mono ?_);rintro e w' ⟨rfl,⟨nd,rfl⟩⟩;refine ⟨_,rfl,?_⟩)|((with_reducible refine gate_callee (f:=33) rfl ?_);refine goesL_ (some 67) rfl rfl Tryd.func33 (by kernel_rfl) rfl #[.int .i64 a0,.int .i64 65,.int .i64 90] rfl (by (try simp only [List.map_toArray,List.map_cons,List.map_nil]);first|done|rfl|(simp only [List.length_drop,List.length_take];rfl)) ?_;(with_reducible refine (impl_in.calls a0 65 90 false _ A29.out).mono ?_);rintro e w' ⟨rfl,⟨nd,rfl⟩⟩;refine ⟨_,rfl,?_⟩)|((with_reducible refine gate_callee (f:=33) rfl ?_);refine goesL_ (some 70) rfl rfl Tryd.func33 (by kernel_rfl) rfl #[.int .i64 a0,.int .i64 97,.int .i64 122] rfl (by (try simp only [List.map_toArray,List.map_cons,List.map_nil]);first|done|rfl|(simp only [List.length_drop,List.length_take];rfl)) ?_;(with_reducible refine (impl_in.calls a0 97 122 false _ A31.out).mono ?_);rintro e w' ⟨rfl,⟨nd,rfl⟩⟩;refine ⟨_,rfl,?_⟩)|((with_reducible refine gate_callee (f:=33) rfl ?_);refine goesL_ (some 73) rfl rfl Tryd.func33 (by kernel_rfl) rfl #[.int .i64 a0,.int .i64 33,.int .i64 126] rfl (by (try simp only [List.map_toArray,List.map_cons,List.map_nil]);first|done|rfl|(simp only [List.length_drop,List.length_take];rfl)) ?_;(with_reducible refine (impl_in.calls a0 33 126 true _ A33.out).mono ?_);rintro e w' ⟨rfl,⟨nd,rfl⟩⟩;refine ⟨_,rfl,?_⟩))
            go_ret2
            exact ⟨by first|rfl|(simp;done)|(simp [*];done),by repeat (first|exact Drawn0.refl _|apply Drawn0.step)⟩
           ·
            replace c34:=Bool.eq_false_iff.mpr c34
            subst c34
            have H1:(if a0=173 then (some (11,0)) else ((impl_in.f a0 161 191).bind fun t270=>(if t270=true then (some (10,0)) else ((impl_in.f a0 1280 1311).bind fun t271=>(if t271=true then (some (7,5)) else ((impl_in.f a0 1360 1369).bind fun t272=>(if t272=true then (some (8,5)) else ((impl_in.f a0 1536 1567).bind fun t273=>(if t273=true then (some (7,6)) else ((impl_in.f a0 1568 1579).bind fun t274=>(if t274=true then (impl_kind.j4 kj22 a0 true) else (if a0=1584 then (impl_kind.j4 kj22 a0 true) else (impl_kind.j4 kj22 a0 (a0 == 1585))))))))))))))=some (r1,r2):=by rw [if_neg (show ¬ (false=true) by decide)] at H;exact H
            clear H
            have H:=H1
            clear H1
            by_cases c35:a0=173
            ·
             rw [if_pos c35] at H
             have c35b0:(a0 == 173)=true:=beq_iff_eq.mpr c35
             have c35b1:(a0 != 173)=false:=bne_eq_false_iff_eq.mpr c35
             clear c35
             simp only [Option.some.injEq,Prod.mk.injEq] at H
             obtain ⟨rfl,rfl⟩:=H
             go_wp2_with (first|((with_reducible refine gate_callee (f:=33) rfl ?_);refine goesL_ (some 64) rfl rfl Tryd.func33 (by kernel_rfl) rfl #[.int .i64 a0,.int .i64 48,.int .i64 57] rfl (by (try simp only [List.map_toArray,List.map_cons,List.map_nil]);first|done|rfl|(simp only [List.length_drop,List.length_take];rfl)) ?_;(with_reducible refine (impl_in.calls a0 48 57 false _ A27.out).mono ?_);rintro e w' ⟨rfl,⟨nd,rfl⟩⟩;refine ⟨_,rfl,?_⟩)|((with_reducible refine gate_callee (f:=33) rfl ?_);refine goesL_ (some 67) rfl rfl Tryd.func33 (by kernel_rfl) rfl #[.int .i64 a0,.int .i64 65,.int .i64 90] rfl (by (try simp only [List.map_toArray,List.map_cons,List.map_nil]);first|done|rfl|(simp only [List.length_drop,List.length_take];rfl)) ?_;(with_reducible refine (impl_in.calls a0 65 90 false _ A29.out).mono ?_);rintro e w' ⟨rfl,⟨nd,rfl⟩⟩;refine ⟨_,rfl,?_⟩)|((with_reducible refine gate_callee (f:=33) rfl ?_);refine goesL_ (some 70) rfl rfl Tryd.func33 (by kernel_rfl) rfl #[.int .i64 a0,.int .i64 97,.int .i64 122] rfl (by (try simp only [List.map_toArray,List.map_cons,List.map_nil]);first|done|rfl|(simp only [List.length_drop,List.length_take];rfl)) ?_;(with_reducible refine (impl_in.calls a0 97 122 false _ A31.out).mono ?_);rintro e w' ⟨rfl,⟨nd,rfl⟩⟩;refine ⟨_,rfl,?_⟩)|((with_reducible refine gate_callee (f:=33) rfl ?_);refine goesL_ (some 73) rfl rfl Tryd.func33 (by kernel_rfl) rfl #[.int .i64 a0,.int .i64 33,.int .i64 126] rfl (by (try simp only [List.map_toArray,List.map_cons,List.map_nil]);first|done|rfl|(simp only [List.length_drop,List.length_take];rfl)) ?_;(with_reducible refine (impl_in.calls a0 33 126 false _ A33.out).mono ?_);rintro e w' ⟨rfl,⟨nd,rfl⟩⟩;refine ⟨_,rfl,?_⟩))
             go_ret2
             exact ⟨by first|rfl|(simp;done)|(simp [*];done),by repeat (first|exact Drawn0.refl _|apply Drawn0.step)⟩
            ·
             rw [if_neg c35] at H
             have c35b0:(a0 == 173)=false:=beq_eq_false_iff_ne.mpr c35
             have c35b1:(a0 != 173)=true:=bne_iff_ne.mpr c35
             replace H:=Option.bind_eq_some_iff.mp H
             obtain ⟨t270,A360,H⟩:=H
             replace H:(if t270=true then (some (10,0)) else ((impl_in.f a0 1280 1311).bind fun t271=>(if t271=true then (some (7,5)) else ((impl_in.f a0 1360 1369).bind fun t272=>(if t272=true then (some (8,5)) else ((impl_in.f a0 1536 1567).bind fun t273=>(if t273=true then (some (7,6)) else ((impl_in.f a0 1568 1579).bind fun t274=>(if t274=true then (impl_kind.j4 kj22 a0 true) else (if a0=1584 then (impl_kind.j4 kj22 a0 true) else (impl_kind.j4 kj22 a0 (a0 == 1585))))))))))))=some (r1,r2):=H
             have A36:=Aside0.mk A360
             clear A360
             by_cases c37:t270=true
             ·
              subst c37
              have H1:(some (10,0))=some (r1,r2):=by rw [if_pos rfl] at H;exact H
              clear H
              have H:=H1
              clear H1
              simp only [Option.some.injEq,Prod.mk.injEq] at H
              obtain ⟨rfl,rfl⟩:=H
              go_wp2_with (first|((with_reducible refine gate_callee (f:=33) rfl ?_);refine goesL_ (some 64) rfl rfl Tryd.func33 (by kernel_rfl) rfl #[.int .i64 a0,.int .i64 48,.int .i64 57] rfl (by (try simp only [List.map_toArray,List.map_cons,List.map_nil]);first|done|rfl|(simp only [List.length_drop,List.length_take];rfl)) ?_;(with_reducible refine (impl_in.calls a0 48 57 false _ A27.out).mono ?_);rintro e w' ⟨rfl,⟨nd,rfl⟩⟩;refine ⟨_,rfl,?_⟩)|((with_reducible refine gate_callee (f:=33) rfl ?_);refine goesL_ (some 67) rfl rfl Tryd.func33 (by kernel_rfl) rfl #[.int .i64 a0,.int .i64 65,.int .i64 90] rfl (by (try simp only [List.map_toArray,List.map_cons,List.map_nil]);first|done|rfl|(simp only [List.length_drop,List.length_take];rfl)) ?_;(with_reducible refine (impl_in.calls a0 65 90 false _ A29.out).mono ?_);rintro e w' ⟨rfl,⟨nd,rfl⟩⟩;refine ⟨_,rfl,?_⟩)|((with_reducible refine gate_callee (f:=33) rfl ?_);refine goesL_ (some 70) rfl rfl Tryd.func33 (by kernel_rfl) rfl #[.int .i64 a0,.int .i64 97,.int .i64 122] rfl (by (try simp only [List.map_toArray,List.map_cons,List.map_nil]);first|done|rfl|(simp only [List.length_drop,List.length_take];rfl)) ?_;(with_reducible refine (impl_in.calls a0 97 122 false _ A31.out).mono ?_);rintro e w' ⟨rfl,⟨nd,rfl⟩⟩;refine ⟨_,rfl,?_⟩)|((with_reducible refine gate_callee (f:=33) rfl ?_);refine goesL_ (some 73) rfl rfl Tryd.func33 (by kernel_rfl) rfl #[.int .i64 a0,.int .i64 33,.int .i64 126] rfl (by (try simp only [List.map_toArray,List.map_cons,List.map_nil]);first|done|rfl|(simp only [List.length_drop,List.length_take];rfl)) ?_;(with_reducible refine (impl_in.calls a0 33 126 false _ A33.out).mono ?_);rintro e w' ⟨rfl,⟨nd,rfl⟩⟩;refine ⟨_,rfl,?_⟩)|((with_reducible refine gate_callee (f:=33) rfl ?_);refine goesL_ (some 79) rfl rfl Tryd.func33 (by kernel_rfl) rfl #[.int .i64 a0,.int .i64 161,.int .i64 191] rfl (by (try simp only [List.map_toArray,List.map_cons,List.map_nil]);first|done|rfl|(simp only [List.length_drop,List.length_take];rfl)) ?_;(with_reducible refine (impl_in.calls a0 161 191 true _ A36.out).mono ?_);rintro e w' ⟨rfl,⟨nd,rfl⟩⟩;refine ⟨_,rfl,?_⟩))
              go_ret2
              exact ⟨by first|rfl|(simp;done)|(simp [*];done),by repeat (first|exact Drawn0.refl _|apply Drawn0.step)⟩
             ·
              replace c37:=Bool.eq_false_iff.mpr c37
              subst c37
              have H1:((impl_in.f a0 1280 1311).bind fun t271=>(if t271=true then (some (7,5)) else ((impl_in.f a0 1360 1369).bind fun t272=>(if t272=true then (some (8,5)) else ((impl_in.f a0 1536 1567).bind fun t273=>(if t273=true then (some (7,6)) else ((impl_in.f a0 1568 1579).bind fun t274=>(if t274=true then (impl_kind.j4 kj22 a0 true) else (if a0=1584 then (impl_kind.j4 kj22 a0 true) else (impl_kind.j4 kj22 a0 (a0 == 1585)))))))))))=some (r1,r2):=by rw [if_neg (show ¬ (false=true) by decide)] at H;exact H
              clear H
              have H:=H1
              clear H1
              replace H:=Option.bind_eq_some_iff.mp H
              obtain ⟨t271,A380,H⟩:=H
              replace H:(if t271=true then (some (7,5)) else ((impl_in.f a0 1360 1369).bind fun t272=>(if t272=true then (some (8,5)) else ((impl_in.f a0 1536 1567).bind fun t273=>(if t273=true then (some (7,6)) else ((impl_in.f a0 1568 1579).bind fun t274=>(if t274=true then (impl_kind.j4 kj22 a0 true) else (if a0=1584 then (impl_kind.j4 kj22 a0 true) else (impl_kind.j4 kj22 a0 (a0 == 1585))))))))))=some (r1,r2):=H
              have A38:=Aside0.mk A380
              clear A380
              by_cases c39:t271=true
              ·
               subst c39
               have H1:(some (7,5))=some (r1,r2):=by rw [if_pos rfl] at H;exact H
               clear H
               have H:=H1
               clear H1
               simp only [Option.some.injEq,Prod.mk.injEq] at H
               obtain ⟨rfl,rfl⟩:=H
               go_wp2_with (first|((with_reducible refine gate_callee (f:=33) rfl ?_);refine goesL_ (some 64) rfl rfl Tryd.func33 (by kernel_rfl) rfl #[.int .i64 a0,.int .i64 48,.int .i64 57] rfl (by (try simp only [List.map_toArray,List.map_cons,List.map_nil]);first|done|rfl|(simp only [List.length_drop,List.length_take];rfl)) ?_;(with_reducible refine (impl_in.calls a0 48 57 false _ A27.out).mono ?_);rintro e w' ⟨rfl,⟨nd,rfl⟩⟩;refine ⟨_,rfl,?_⟩)|((with_reducible refine gate_callee (f:=33) rfl ?_);refine goesL_ (some 67) rfl rfl Tryd.func33 (by kernel_rfl) rfl #[.int .i64 a0,.int .i64 65,.int .i64 90] rfl (by (try simp only [List.map_toArray,List.map_cons,List.map_nil]);first|done|rfl|(simp only [List.length_drop,List.length_take];rfl)) ?_;(with_reducible refine (impl_in.calls a0 65 90 false _ A29.out).mono ?_);rintro e w' ⟨rfl,⟨nd,rfl⟩⟩;refine ⟨_,rfl,?_⟩)|((with_reducible refine gate_callee (f:=33) rfl ?_);refine goesL_ (some 70) rfl rfl Tryd.func33 (by kernel_rfl) rfl #[.int .i64 a0,.int .i64 97,.int .i64 122] rfl (by (try simp only [List.map_toArray,List.map_cons,List.map_nil]);first|done|rfl|(simp only [List.length_drop,List.length_take];rfl)) ?_;(with_reducible refine (impl_in.calls a0 97 122 false _ A31.out).mono ?_);rintro e w' ⟨rfl,⟨nd,rfl⟩⟩;refine ⟨_,rfl,?_⟩)|((with_reducible refine gate_callee (f:=33) rfl ?_);refine goesL_ (some 73) rfl rfl Tryd.func33 (by kernel_rfl) rfl #[.int .i64 a0,.int .i64 33,.int .i64 126] rfl (by (try simp only [List.map_toArray,List.map_cons,List.map_nil]);first|done|rfl|(simp only [List.length_drop,List.length_take];rfl)) ?_;(with_reducible refine (impl_in.calls a0 33 126 false _ A33.out).mono ?_);rintro e w' ⟨rfl,⟨nd,rfl⟩⟩;refine ⟨_,rfl,?_⟩)|((with_reducible refine gate_callee (f:=33) rfl ?_);refine goesL_ (some 79) rfl rfl Tryd.func33 (by kernel_rfl) rfl #[.int .i64 a0,.int .i64 161,.int .i64 191] rfl (by (try simp only [List.map_toArray,List.map_cons,List.map_nil]);first|done|rfl|(simp only [List.length_drop,List.length_take];rfl)) ?_;(with_reducible refine (impl_in.calls a0 161 191 false _ A36.out).mono ?_);rintro e w' ⟨rfl,⟨nd,rfl⟩⟩;refine ⟨_,rfl,?_⟩)|((with_reducible refine gate_callee (f:=33) rfl ?_);refine goesL_ (some 82) rfl rfl Tryd.func33 (by kernel_rfl) rfl #[.int .i64 a0,.int .i64 1280,.int .i64 1311] rfl (by (try simp only [List.map_toArray,List.map_cons,List.map_nil]);first|done|rfl|(simp only [List.length_drop,List.length_take];rfl)) ?_;(with_reducible refine (impl_in.calls a0 1280 1311 true _ A38.out).mono ?_);rintro e w' ⟨rfl,⟨nd,rfl⟩⟩;refine ⟨_,rfl,?_⟩))
               go_ret2
               exact ⟨by first|rfl|(simp;done)|(simp [*];done),by repeat (first|exact Drawn0.refl _|apply Drawn0.step)⟩
              ·
               replace c39:=Bool.eq_false_iff.mpr c39
               subst c39
               have H1:((impl_in.f a0 1360 1369).bind fun t272=>(if t272=true then (some (8,5)) else ((impl_in.f a0 1536 1567).bind fun t273=>(if t273=true then (some (7,6)) else ((impl_in.f a0 1568 1579).bind fun t274=>(if t274=true then (impl_kind.j4 kj22 a0 true) else (if a0=1584 then (impl_kind.j4 kj22 a0 true) else (impl_kind.j4 kj22 a0 (a0 == 1585)))))))))=some (r1,r2):=by rw [if_neg (show ¬ (false=true) by decide)] at H;exact H
               clear H
               have H:=H1
               clear H1
               replace H:=Option.bind_eq_some_iff.mp H
               obtain ⟨t272,A400,H⟩:=H
               replace H:(if t272=true then (some (8,5)) else ((impl_in.f a0 1536 1567).bind fun t273=>(if t273=true then (some (7,6)) else ((impl_in.f a0 1568 1579).bind fun t274=>(if t274=true then (impl_kind.j4 kj22 a0 true) else (if a0=1584 then (impl_kind.j4 kj22 a0 true) else (impl_kind.j4 kj22 a0 (a0 == 1585))))))))=some (r1,r2):=H
               have A40:=Aside0.mk A400
               clear A400
               by_cases c41:t272=true
               ·
                subst c41
                have H1:(some (8,5))=some (r1,r2):=by rw [if_pos rfl] at H;exact H
                clear H
                have H:=H1
                clear H1
                simp only [Option.some.injEq,Prod.mk.injEq] at H
                obtain ⟨rfl,rfl⟩:=H
                go_wp2_with (first|((with_reducible refine gate_callee (f:=33) rfl ?_);refine goesL_ (some 64) rfl rfl Tryd.func33 (by kernel_rfl) rfl #[.int .i64 a0,.int .i64 48,.int .i64 57] rfl (by (try simp only [List.map_toArray,List.map_cons,List.map_nil]);first|done|rfl|(simp only [List.length_drop,List.length_take];rfl)) ?_;(with_reducible refine (impl_in.calls a0 48 57 false _ A27.out).mono ?_);rintro e w' ⟨rfl,⟨nd,rfl⟩⟩;refine ⟨_,rfl,?_⟩)|((with_reducible refine gate_callee (f:=33) rfl ?_);refine goesL_ (some 67) rfl rfl Tryd.func33 (by kernel_rfl) rfl #[.int .i64 a0,.int .i64 65,.int .i64 90] rfl (by (try simp only [List.map_toArray,List.map_cons,List.map_nil]);first|done|rfl|(simp only [List.length_drop,List.length_take];rfl)) ?_;(with_reducible refine (impl_in.calls a0 65 90 false _ A29.out).mono ?_);rintro e w' ⟨rfl,⟨nd,rfl⟩⟩;refine ⟨_,rfl,?_⟩)|((with_reducible refine gate_callee (f:=33) rfl ?_);refine goesL_ (some 70) rfl rfl Tryd.func33 (by kernel_rfl) rfl #[.int .i64 a0,.int .i64 97,.int .i64 122] rfl (by (try simp only [List.map_toArray,List.map_cons,List.map_nil]);first|done|rfl|(simp only [List.length_drop,List.length_take];rfl)) ?_;(with_reducible refine (impl_in.calls a0 97 122 false _ A31.out).mono ?_);rintro e w' ⟨rfl,⟨nd,rfl⟩⟩;refine ⟨_,rfl,?_⟩)|((with_reducible refine gate_callee (f:=33) rfl ?_);refine goesL_ (some 73) rfl rfl Tryd.func33 (by kernel_rfl) rfl #[.int .i64 a0,.int .i64 33,.int .i64 126] rfl (by (try simp only [List.map_toArray,List.map_cons,List.map_nil]);first|done|rfl|(simp only [List.length_drop,List.length_take];rfl)) ?_;(with_reducible refine (impl_in.calls a0 33 126 false _ A33.out).mono ?_);rintro e w' ⟨rfl,⟨nd,rfl⟩⟩;refine ⟨_,rfl,?_⟩)|((with_reducible refine gate_callee (f:=33) rfl ?_);refine goesL_ (some 79) rfl rfl Tryd.func33 (by kernel_rfl) rfl #[.int .i64 a0,.int .i64 161,.int .i64 191] rfl (by (try simp only [List.map_toArray,List.map_cons,List.map_nil]);first|done|rfl|(simp only [List.length_drop,List.length_take];rfl)) ?_;(with_reducible refine (impl_in.calls a0 161 191 false _ A36.out).mono ?_);rintro e w' ⟨rfl,⟨nd,rfl⟩⟩;refine ⟨_,rfl,?_⟩)|((with_reducible refine gate_callee (f:=33) rfl ?_);refine goesL_ (some 82) rfl rfl Tryd.func33 (by kernel_rfl) rfl #[.int .i64 a0,.int .i64 1280,.int .i64 1311] rfl (by (try simp only [List.map_toArray,List.map_cons,List.map_nil]);first|done|rfl|(simp only [List.length_drop,List.length_take];rfl)) ?_;(with_reducible refine (impl_in.calls a0 1280 1311 false _ A38.out).mono ?_);rintro e w' ⟨rfl,⟨nd,rfl⟩⟩;refine ⟨_,rfl,?_⟩)|((with_reducible refine gate_callee (f:=33) rfl ?_);refine goesL_ (some 85) rfl rfl Tryd.func33 (by kernel_rfl) rfl #[.int .i64 a0,.int .i64 1360,.int .i64 1369] rfl (by (try simp only [List.map_toArray,List.map_cons,List.map_nil]);first|done|rfl|(simp only [List.length_drop,List.length_take];rfl)) ?_;(with_reducible refine (impl_in.calls a0 1360 1369 true _ A40.out).mono ?_);rintro e w' ⟨rfl,⟨nd,rfl⟩⟩;refine ⟨_,rfl,?_⟩))
                go_ret2
                exact ⟨by first|rfl|(simp;done)|(simp [*];done),by repeat (first|exact Drawn0.refl _|apply Drawn0.step)⟩
               ·
                replace c41:=Bool.eq_false_iff.mpr c41
                subst c41
                have H1:((impl_in.f a0 1536 1567).bind fun t273=>(if t273=true then (some (7,6)) else ((impl_in.f a0 1568 1579).bind fun t274=>(if t274=true then (impl_kind.j4 kj22 a0 true) else (if a0=1584 then (impl_kind.j4 kj22 a0 true) else (impl_kind.j4 kj22 a0 (a0 == 1585)))))))=some (r1,r2):=by rw [if_neg (show ¬ (false=true) by decide)] at H;exact H
                clear H
                have H:=H1
                clear H1
                replace H:=Option.bind_eq_some_iff.mp H
                obtain ⟨t273,A420,H⟩:=H
                replace H:(if t273=true then (some (7,6)) else ((impl_in.f a0 1568 1579).bind fun t274=>(if t274=true then (impl_kind.j4 kj22 a0 true) else (if a0=1584 then (impl_kind.j4 kj22 a0 true) else (impl_kind.j4 kj22 a0 (a0 == 1585))))))=some (r1,r2):=H
                have A42:=Aside0.mk A420
                clear A420
                by_cases c43:t273=true
                ·
                 subst c43
                 have H1:(some (7,6))=some (r1,r2):=by rw [if_pos rfl] at H;exact H
                 clear H
                 have H:=H1
                 clear H1
                 simp only [Option.some.injEq,Prod.mk.injEq] at H
                 obtain ⟨rfl,rfl⟩:=H
                 go_wp2_with (first|((with_reducible refine gate_callee (f:=33) rfl ?_);refine goesL_ (some 64) rfl rfl Tryd.func33 (by kernel_rfl) rfl #[.int .i64 a0,.int .i64 48,.int .i64 57] rfl (by (try simp only [List.map_toArray,List.map_cons,List.map_nil]);first|done|rfl|(simp only [List.length_drop,List.length_take];rfl)) ?_;(with_reducible refine (impl_in.calls a0 48 57 false _ A27.out).mono ?_);rintro e w' ⟨rfl,⟨nd,rfl⟩⟩;refine ⟨_,rfl,?_⟩)|((with_reducible refine gate_callee (f:=33) rfl ?_);refine goesL_ (some 67) rfl rfl Tryd.func33 (by kernel_rfl) rfl #[.int .i64 a0,.int .i64 65,.int .i64 90] rfl (by (try simp only [List.map_toArray,List.map_cons,List.map_nil]);first|done|rfl|(simp only [List.length_drop,List.length_take];rfl)) ?_;(with_reducible refine (impl_in.calls a0 65 90 false _ A29.out).mono ?_);rintro e w' ⟨rfl,⟨nd,rfl⟩⟩;refine ⟨_,rfl,?_⟩)|((with_reducible refine gate_callee (f:=33) rfl ?_);refine goesL_ (some 70) rfl rfl Tryd.func33 (by kernel_rfl) rfl #[.int .i64 a0,.int .i64 97,.int .i64 122] rfl (by (try simp only [List.map_toArray,List.map_cons,List.map_nil]);first|done|rfl|(simp only [List.length_drop,List.length_take];rfl)) ?_;(with_reducible refine (impl_in.calls a0 97 122 false _ A31.out).mono ?_);rintro e w' ⟨rfl,⟨nd,rfl⟩⟩;refine ⟨_,rfl,?_⟩)|((with_reducible refine gate_callee (f:=33) rfl ?_);refine goesL_ (some 73) rfl rfl Tryd.func33 (by kernel_rfl) rfl #[.int .i64 a0,.int .i64 33,.int .i64 126] rfl (by (try simp only [List.map_toArray,List.map_cons,List.map_nil]);first|done|rfl|(simp only [List.length_drop,List.length_take];rfl)) ?_;(with_reducible refine (impl_in.calls a0 33 126 false _ A33.out).mono ?_);rintro e w' ⟨rfl,⟨nd,rfl⟩⟩;refine ⟨_,rfl,?_⟩)|((with_reducible refine gate_callee (f:=33) rfl ?_);refine goesL_ (some 79) rfl rfl Tryd.func33 (by kernel_rfl) rfl #[.int .i64 a0,.int .i64 161,.int .i64 191] rfl (by (try simp only [List.map_toArray,List.map_cons,List.map_nil]);first|done|rfl|(simp only [List.length_drop,List.length_take];rfl)) ?_;(with_reducible refine (impl_in.calls a0 161 191 false _ A36.out).mono ?_);rintro e w' ⟨rfl,⟨nd,rfl⟩⟩;refine ⟨_,rfl,?_⟩)|((with_reducible refine gate_callee (f:=33) rfl ?_);refine goesL_ (some 82) rfl rfl Tryd.func33 (by kernel_rfl) rfl #[.int .i64 a0,.int .i64 1280,.int .i64 1311] rfl (by (try simp only [List.map_toArray,List.map_cons,List.map_nil]);first|done|rfl|(simp only [List.length_drop,List.length_take];rfl)) ?_;(with_reducible refine (impl_in.calls a0 1280 1311 false _ A38.out).mono ?_);rintro e w' ⟨rfl,⟨nd,rfl⟩⟩;refine ⟨_,rfl,?_⟩)|((with_reducible refine gate_callee (f:=33) rfl ?_);refine goesL_ (some 85) rfl rfl Tryd.func33 (by kernel_rfl) rfl #[.int .i64 a0,.int .i64 1360,.int .i64 1369] rfl (by (try simp only [List.map_toArray,List.map_cons,List.map_nil]);first|done|rfl|(simp only [List.length_drop,List.length_take];rfl)) ?_;(with_reducible refine (impl_in.calls a0 1360 1369 false _ A40.out).mono ?_);rintro e w' ⟨rfl,⟨nd,rfl⟩⟩;refine ⟨_,rfl,?_⟩)|((with_reducible refine gate_callee (f:=33) rfl ?_);refine goesL_ (some 88) rfl rfl Tryd.func33 (by kernel_rfl) rfl #[.int .i64 a0,.int .i64 1536,.int .i64 1567] rfl (by (try simp only [List.map_toArray,List.map_cons,List.map_nil]);first|done|rfl|(simp only [List.length_drop,List.length_take];rfl)) ?_;(with_reducible refine (impl_in.calls a0 1536 1567 true _ A42.out).mono ?_);rintro e w' ⟨rfl,⟨nd,rfl⟩⟩;refine ⟨_,rfl,?_⟩))
                 go_ret2
                 exact ⟨by first|rfl|(simp;done)|(simp [*];done),by repeat (first|exact Drawn0.refl _|apply Drawn0.step)⟩
                ·
                 replace c43:=Bool.eq_false_iff.mpr c43
                 subst c43
                 have H1:((impl_in.f a0 1568 1579).bind fun t274=>(if t274=true then (impl_kind.j4 kj22 a0 true) else (if a0=1584 then (impl_kind.j4 kj22 a0 true) else (impl_kind.j4 kj22 a0 (a0 == 1585)))))=some (r1,r2):=by rw [if_neg (show ¬ (false=true) by decide)] at H;exact H
                 clear H
                 have H:=H1
                 clear H1
                 have HC44:=Aside0.mk H
                 clear H
                 go_upto_region 35 with (first|((with_reducible refine gate_callee (f:=33) rfl ?_);refine goesL_ (some 64) rfl rfl Tryd.func33 (by kernel_rfl) rfl #[.int .i64 a0,.int .i64 48,.int .i64 57] rfl (by (try simp only [List.map_toArray,List.map_cons,List.map_nil]);first|done|rfl|(simp only [List.length_drop,List.length_take];rfl)) ?_;(with_reducible refine (impl_in.calls a0 48 57 false _ A27.out).mono ?_);rintro e w' ⟨rfl,⟨nd,rfl⟩⟩;refine ⟨_,rfl,?_⟩)|((with_reducible refine gate_callee (f:=33) rfl ?_);refine goesL_ (some 67) rfl rfl Tryd.func33 (by kernel_rfl) rfl #[.int .i64 a0,.int .i64 65,.int .i64 90] rfl (by (try simp only [List.map_toArray,List.map_cons,List.map_nil]);first|done|rfl|(simp only [List.length_drop,List.length_take];rfl)) ?_;(with_reducible refine (impl_in.calls a0 65 90 false _ A29.out).mono ?_);rintro e w' ⟨rfl,⟨nd,rfl⟩⟩;refine ⟨_,rfl,?_⟩)|((with_reducible refine gate_callee (f:=33) rfl ?_);refine goesL_ (some 70) rfl rfl Tryd.func33 (by kernel_rfl) rfl #[.int .i64 a0,.int .i64 97,.int .i64 122] rfl (by (try simp only [List.map_toArray,List.map_cons,List.map_nil]);first|done|rfl|(simp only [List.length_drop,List.length_take];rfl)) ?_;(with_reducible refine (impl_in.calls a0 97 122 false _ A31.out).mono ?_);rintro e w' ⟨rfl,⟨nd,rfl⟩⟩;refine ⟨_,rfl,?_⟩)|((with_reducible refine gate_callee (f:=33) rfl ?_);refine goesL_ (some 73) rfl rfl Tryd.func33 (by kernel_rfl) rfl #[.int .i64 a0,.int .i64 33,.int .i64 126] rfl (by (try simp only [List.map_toArray,List.map_cons,List.map_nil]);first|done|rfl|(simp only [List.length_drop,List.length_take];rfl)) ?_;(with_reducible refine (impl_in.calls a0 33 126 false _ A33.out).mono ?_);rintro e w' ⟨rfl,⟨nd,rfl⟩⟩;refine ⟨_,rfl,?_⟩)|((with_reducible refine gate_callee (f:=33) rfl ?_);refine goesL_ (some 79) rfl rfl Tryd.func33 (by kernel_rfl) rfl #[.int .i64 a0,.int .i64 161,.int .i64 191] rfl (by (try simp only [List.map_toArray,List.map_cons,List.map_nil]);first|done|rfl|(simp only [List.length_drop,List.length_take];rfl)) ?_;(with_reducible refine (impl_in.calls a0 161 191 false _ A36.out).mono ?_);rintro e w' ⟨rfl,⟨nd,rfl⟩⟩;refine ⟨_,rfl,?_⟩)|((with_reducible refine gate_callee (f:=33) rfl ?_);refine goesL_ (some 82) rfl rfl Tryd.func33 (by kernel_rfl) rfl #[.int .i64 a0,.int .i64 1280,.int .i64 1311] rfl (by (try simp only [List.map_toArray,List.map_cons,List.map_nil]);first|done|rfl|(simp only [List.length_drop,List.length_take];rfl)) ?_;(with_reducible refine (impl_in.calls a0 1280 1311 false _ A38.out).mono ?_);rintro e w' ⟨rfl,⟨nd,rfl⟩⟩;refine ⟨_,rfl,?_⟩)|((with_reducible refine gate_callee (f:=33) rfl ?_);refine goesL_ (some 85) rfl rfl Tryd.func33 (by kernel_rfl) rfl #[.int .i64 a0,.int .i64 1360,.int .i64 1369] rfl (by (try simp only [List.map_toArray,List.map_cons,List.map_nil]);first|done|rfl|(simp only [List.length_drop,List.length_take];rfl)) ?_;(with_reducible refine (impl_in.calls a0 1360 1369 false _ A40.out).mono ?_);rintro e w' ⟨rfl,⟨nd,rfl⟩⟩;refine ⟨_,rfl,?_⟩)|((with_reducible refine gate_callee (f:=33) rfl ?_);refine goesL_ (some 88) rfl rfl Tryd.func33 (by kernel_rfl) rfl #[.int .i64 a0,.int .i64 1536,.int .i64 1567] rfl (by (try simp only [List.map_toArray,List.map_cons,List.map_nil]);first|done|rfl|(simp only [List.length_drop,List.length_take];rfl)) ?_;(with_reducible refine (impl_in.calls a0 1536 1567 false _ A42.out).mono ?_);rintro e w' ⟨rfl,⟨nd,rfl⟩⟩;refine ⟨_,rfl,?_⟩))
                 (try simp only [Act.put,List.setIfInBounds_toArray,List.set_cons_zero,List.set_cons_succ])
                 go_cut [89] (fun v89 wc=>∃ (kq:Nat) (x89_43:Bool),v89 = .bool x89_43∧Aside0 (impl_kind.j4 kq a0 x89_43=some (r1,r2))∧Aside0 (kq≤kj22)∧Drawn0 w wc)
                 case first=>as_aux_lemma =>
                  have H:=HC44.out
                  clear HC44
                  replace H:=Option.bind_eq_some_iff.mp H
                  obtain ⟨t274,A450,H⟩:=H
                  replace H:(if t274=true then (impl_kind.j4 kj22 a0 true) else (if a0=1584 then (impl_kind.j4 kj22 a0 true) else (impl_kind.j4 kj22 a0 (a0 == 1585))))=some (r1,r2):=H
                  have A45:=Aside0.mk A450
                  clear A450
                  by_cases c46:t274=true
                  ·
                   subst c46
                   have H1:(impl_kind.j4 kj22 a0 true)=some (r1,r2):=by rw [if_pos rfl] at H;exact H
                   clear H
                   have H:=H1
                   clear H1
                   have H':=Aside0.mk H
                   clear H
                   go_wp2_with (first|((with_reducible refine gate_callee (f:=33) rfl ?_);refine goesL_ (some 91) rfl rfl Tryd.func33 (by kernel_rfl) rfl #[.int .i64 a0,.int .i64 1568,.int .i64 1579] rfl (by (try simp only [List.map_toArray,List.map_cons,List.map_nil]);first|done|rfl|(simp only [List.length_drop,List.length_take];rfl)) ?_;(with_reducible refine (impl_in.calls a0 1568 1579 true _ A45.out).mono ?_);rintro e w' ⟨rfl,⟨nd,rfl⟩⟩;refine ⟨_,rfl,?_⟩))
                   go_meet
                   case rel=>exact ⟨_,(true),(by first|rfl|(simp;done)|(simp [*];done)),H',⟨by have:=HJ17.out;have:=HJ22.out;first|omega|exact Nat.le_refl _⟩,by repeat (first|exact Drawn0.refl _|apply Drawn0.step)⟩
                  ·
                   replace c46:=Bool.eq_false_iff.mpr c46
                   subst c46
                   have H1:(if a0=1584 then (impl_kind.j4 kj22 a0 true) else (impl_kind.j4 kj22 a0 (a0 == 1585)))=some (r1,r2):=by rw [if_neg (show ¬ (false=true) by decide)] at H;exact H
                   clear H
                   have H:=H1
                   clear H1
                   by_cases c47:a0=1584
                   ·
                    rw [if_pos c47] at H
                    have c47b0:(a0 == 1584)=true:=beq_iff_eq.mpr c47
                    have c47b1:(a0 != 1584)=false:=bne_eq_false_iff_eq.mpr c47
                    clear c47
                    (first|rw [c47b0]|(simp only [i64_w,i32_w];rw [c47b0])|skip)
                    have H':=Aside0.mk H
                    clear H
                    go_wp2_with (first|((with_reducible refine gate_callee (f:=33) rfl ?_);refine goesL_ (some 91) rfl rfl Tryd.func33 (by kernel_rfl) rfl #[.int .i64 a0,.int .i64 1568,.int .i64 1579] rfl (by (try simp only [List.map_toArray,List.map_cons,List.map_nil]);first|done|rfl|(simp only [List.length_drop,List.length_take];rfl)) ?_;(with_reducible refine (impl_in.calls a0 1568 1579 false _ A45.out).mono ?_);rintro e w' ⟨rfl,⟨nd,rfl⟩⟩;refine ⟨_,rfl,?_⟩))
                    go_meet
                    case rel=>exact ⟨_,(true),(by first|rfl|(simp;done)|(simp [*];done)),H',⟨by have:=HJ17.out;have:=HJ22.out;first|omega|exact Nat.le_refl _⟩,by repeat (first|exact Drawn0.refl _|apply Drawn0.step)⟩
                   ·
                    rw [if_neg c47] at H
                    have c47b0:(a0 == 1584)=false:=beq_eq_false_iff_ne.mpr c47
                    have c47b1:(a0 != 1584)=true:=bne_iff_ne.mpr c47
                    (first|rw [c47b0]|(simp only [i64_w,i32_w];rw [c47b0])|skip)
                    have H':=Aside0.mk H
                    clear H
                    go_wp2_with (first|((with_reducible refine gate_callee (f:=33) rfl ?_);refine goesL_ (some 91) rfl rfl Tryd.func33 (by kernel_rfl) rfl #[.int .i64 a0,.int .i64 1568,.int .i64 1579] rfl (by (try simp only [List.map_toArray,List.map_cons,List.map_nil]);first|done|rfl|(simp only [List.length_drop,List.length_take];rfl)) ?_;(with_reducible refine (impl_in.calls a0 1568 1579 false _ A45.out).mono ?_);rintro e w' ⟨rfl,⟨nd,rfl⟩⟩;refine ⟨_,rfl,?_⟩))
                    go_meet
                    case rel=>exact ⟨_,((a0 == 1585)),(by first|rfl|(simp;done)|(simp [*];done)),H',⟨by have:=HJ17.out;have:=HJ22.out;first|omega|exact Nat.le_refl _⟩,by repeat (first|exact Drawn0.refl _|apply Drawn0.step)⟩
                 case rest =>
                  clear HC44
                  try clear c1
                  try clear c2
                  try clear p2
                  try clear c3
                  try clear c3b0
                  try clear c4
                  try clear c5
                  try clear c5b0
                  try clear c7
                  try clear c9
                  try clear c9b0
                  try clear c11
                  try clear c13
                  try clear c15
                  try clear c17
                  try clear c20
                  try clear c22
                  try clear c24
                  try clear c24b0
                  try clear c24b1
                  try clear c25
                  try clear c25b0
                  try clear c25b1
                  try clear c26
                  try clear c28
                  try clear c30
                  try clear c32
                  try clear c33
                  try clear c34
                  try clear c35
                  try clear c35b0
                  try clear c35b1
                  try clear c37
                  try clear c39
                  try clear c41
                  try clear c43
                  try clear c46
                  try clear c47
                  try clear c47b0
                  try clear c47b1
                  try clear p2
                  obtain ⟨kq,x89_43,rfl,HA,HJ43,⟨mc43,rfl⟩⟩:=hcut
                  cases kq with
                  | zero=>exact absurd HA.out (by simp [impl_kind.j4])
                  | succ kj43 =>
                   have H:=HA.out
                   clear HA
                   simp only [impl_kind.j4] at H
                   by_cases c48:x89_43=true
                   ·
                    subst c48
                    have H1:(some (3,6))=some (r1,r2):=by rw [if_pos rfl] at H;exact H
                    clear H
                    have H:=H1
                    clear H1
                    simp only [Option.some.injEq,Prod.mk.injEq] at H
                    obtain ⟨rfl,rfl⟩:=H
                    go_wp2
                    go_ret2
                    exact ⟨by first|rfl|(simp;done)|(simp [*];done),by repeat (first|exact Drawn0.refl _|apply Drawn0.step)⟩
                   ·
                    replace c48:=Bool.eq_false_iff.mpr c48
                    subst c48
                    have H1:((impl_in.f a0 1616 1625).bind fun t275=>(if t275=true then (some (8,6)) else ((impl_in.f a0 1792 1810).bind fun t276=>(if t276=true then (impl_kind.j5 kj43 a0 true) else ((impl_in.f a0 1824 1844).bind fun t277=>(if t277=true then (impl_kind.j5 kj43 a0 true) else ((impl_in.f a0 1857 1883).bind fun t278=>(if t278=true then (impl_kind.j5 kj43 a0 true) else ((impl_in.f a0 12288 23459).bind fun t279=>(impl_kind.j5 kj43 a0 t279))))))))))=some (r1,r2):=by rw [if_neg (show ¬ (false=true) by decide)] at H;exact H
                    clear H
                    have H:=H1
                    clear H1
                    replace H:=Option.bind_eq_some_iff.mp H
                    obtain ⟨t275,A490,H⟩:=H
                    replace H:(if t275=true then (some (8,6)) else ((impl_in.f a0 1792 1810).bind fun t276=>(if t276=true then (impl_kind.j5 kj43 a0 true) else ((impl_in.f a0 1824 1844).bind fun t277=>(if t277=true then (impl_kind.j5 kj43 a0 true) else ((impl_in.f a0 1857 1883).bind fun t278=>(if t278=true then (impl_kind.j5 kj43 a0 true) else ((impl_in.f a0 12288 23459).bind fun t279=>(impl_kind.j5 kj43 a0 t279)))))))))=some (r1,r2):=H
                    have A49:=Aside0.mk A490
                    clear A490
                    by_cases c50:t275=true
                    ·
                     subst c50
                     have H1:(some (8,6))=some (r1,r2):=by rw [if_pos rfl] at H;exact H
                     clear H
                     have H:=H1
                     clear H1
                     simp only [Option.some.injEq,Prod.mk.injEq] at H
                     obtain ⟨rfl,rfl⟩:=H
                     go_wp2_with (first|((with_reducible refine gate_callee (f:=33) rfl ?_);refine goesL_ (some 102) rfl rfl Tryd.func33 (by kernel_rfl) rfl #[.int .i64 a0,.int .i64 1616,.int .i64 1625] rfl (by (try simp only [List.map_toArray,List.map_cons,List.map_nil]);first|done|rfl|(simp only [List.length_drop,List.length_take];rfl)) ?_;(with_reducible refine (impl_in.calls a0 1616 1625 true _ A49.out).mono ?_);rintro e w' ⟨rfl,⟨nd,rfl⟩⟩;refine ⟨_,rfl,?_⟩))
                     go_ret2
                     exact ⟨by first|rfl|(simp;done)|(simp [*];done),by repeat (first|exact Drawn0.refl _|apply Drawn0.step)⟩
                    ·
                     replace c50:=Bool.eq_false_iff.mpr c50
                     subst c50
                     have H1:((impl_in.f a0 1792 1810).bind fun t276=>(if t276=true then (impl_kind.j5 kj43 a0 true) else ((impl_in.f a0 1824 1844).bind fun t277=>(if t277=true then (impl_kind.j5 kj43 a0 true) else ((impl_in.f a0 1857 1883).bind fun t278=>(if t278=true then (impl_kind.j5 kj43 a0 true) else ((impl_in.f a0 12288 23459).bind fun t279=>(impl_kind.j5 kj43 a0 t279))))))))=some (r1,r2):=by rw [if_neg (show ¬ (false=true) by decide)] at H;exact H
                     clear H
                     have H:=H1
                     clear H1
                     have HC51:=Aside0.mk H
                     clear H
                     go_upto_region 39 with (first|((with_reducible refine gate_callee (f:=33) rfl ?_);refine goesL_ (some 102) rfl rfl Tryd.func33 (by kernel_rfl) rfl #[.int .i64 a0,.int .i64 1616,.int .i64 1625] rfl (by (try simp only [List.map_toArray,List.map_cons,List.map_nil]);first|done|rfl|(simp only [List.length_drop,List.length_take];rfl)) ?_;(with_reducible refine (impl_in.calls a0 1616 1625 false _ A49.out).mono ?_);rintro e w' ⟨rfl,⟨nd,rfl⟩⟩;refine ⟨_,rfl,?_⟩))
                     (try simp only [Act.put,List.setIfInBounds_toArray,List.set_cons_zero,List.set_cons_succ])
                     go_cut [103] (fun v103 wc=>∃ (kq:Nat) (x103_50:Bool),v103 = .bool x103_50∧Aside0 (impl_kind.j5 kq a0 x103_50=some (r1,r2))∧Aside0 (kq≤kj43)∧Drawn0 w wc)
                     case first=>as_aux_lemma =>
                      have H:=HC51.out
                      clear HC51
                      replace H:=Option.bind_eq_some_iff.mp H
                      obtain ⟨t276,A520,H⟩:=H
                      replace H:(if t276=true then (impl_kind.j5 kj43 a0 true) else ((impl_in.f a0 1824 1844).bind fun t277=>(if t277=true then (impl_kind.j5 kj43 a0 true) else ((impl_in.f a0 1857 1883).bind fun t278=>(if t278=true then (impl_kind.j5 kj43 a0 true) else ((impl_in.f a0 12288 23459).bind fun t279=>(impl_kind.j5 kj43 a0 t279)))))))=some (r1,r2):=H
                      have A52:=Aside0.mk A520
                      clear A520
                      by_cases c53:t276=true
                      ·
                       subst c53
                       have H1:(impl_kind.j5 kj43 a0 true)=some (r1,r2):=by rw [if_pos rfl] at H;exact H
                       clear H
                       have H:=H1
                       clear H1
                       have H':=Aside0.mk H
                       clear H
                       go_wp2_with (first|((with_reducible refine gate_callee (f:=33) rfl ?_);refine goesL_ (some 105) rfl rfl Tryd.func33 (by kernel_rfl) rfl #[.int .i64 a0,.int .i64 1792,.int .i64 1810] rfl (by (try simp only [List.map_toArray,List.map_cons,List.map_nil]);first|done|rfl|(simp only [List.length_drop,List.length_take];rfl)) ?_;(with_reducible refine (impl_in.calls a0 1792 1810 true _ A52.out).mono ?_);rintro e w' ⟨rfl,⟨nd,rfl⟩⟩;refine ⟨_,rfl,?_⟩))
                       go_meet
                       case rel=>exact ⟨_,(true),(by first|rfl|(simp;done)|(simp [*];done)),H',⟨by have:=HJ17.out;have:=HJ22.out;have:=HJ43.out;first|omega|exact Nat.le_refl _⟩,by repeat (first|exact Drawn0.refl _|apply Drawn0.step)⟩
                      ·
                       replace c53:=Bool.eq_false_iff.mpr c53
                       subst c53
                       have H1:((impl_in.f a0 1824 1844).bind fun t277=>(if t277=true then (impl_kind.j5 kj43 a0 true) else ((impl_in.f a0 1857 1883).bind fun t278=>(if t278=true then (impl_kind.j5 kj43 a0 true) else ((impl_in.f a0 12288 23459).bind fun t279=>(impl_kind.j5 kj43 a0 t279))))))=some (r1,r2):=by rw [if_neg (show ¬ (false=true) by decide)] at H;exact H
                       clear H
                       have H:=H1
                       clear H1
                       replace H:=Option.bind_eq_some_iff.mp H
                       obtain ⟨t277,A540,H⟩:=H
                       replace H:(if t277=true then (impl_kind.j5 kj43 a0 true) else ((impl_in.f a0 1857 1883).bind fun t278=>(if t278=true then (impl_kind.j5 kj43 a0 true) else ((impl_in.f a0 12288 23459).bind fun t279=>(impl_kind.j5 kj43 a0 t279)))))=some (r1,r2):=H
                       have A54:=Aside0.mk A540
                       clear A540
                       by_cases c55:t277=true
                       ·
                        subst c55
                        have H1:(impl_kind.j5 kj43 a0 true)=some (r1,r2):=by rw [if_pos rfl] at H;exact H
                        clear H
                        have H:=H1
                        clear H1
                        have H':=Aside0.mk H
                        clear H
                        go_wp2_with (first|((with_reducible refine gate_callee (f:=33) rfl ?_);refine goesL_ (some 105) rfl rfl Tryd.func33 (by kernel_rfl) rfl #[.int .i64 a0,.int .i64 1792,.int .i64 1810] rfl (by (try simp only [List.map_toArray,List.map_cons,List.map_nil]);first|done|rfl|(simp only [List.length_drop,List.length_take];rfl)) ?_;(with_reducible refine (impl_in.calls a0 1792 1810 false _ A52.out).mono ?_);rintro e w' ⟨rfl,⟨nd,rfl⟩⟩;refine ⟨_,rfl,?_⟩)|(go_at_call 33;(with_reducible refine (impl_in.calls a0 1824 1844 true _ A54.out).mono ?_);rintro e w' ⟨rfl,⟨nd,rfl⟩⟩))
                        go_meet
                        case rel=>exact ⟨_,(true),(by first|rfl|(simp;done)|(simp [*];done)),H',⟨by have:=HJ17.out;have:=HJ22.out;have:=HJ43.out;first|omega|exact Nat.le_refl _⟩,by repeat (first|exact Drawn0.refl _|apply Drawn0.step)⟩
                       ·
                        replace c55:=Bool.eq_false_iff.mpr c55
                        subst c55
                        have H1:((impl_in.f a0 1857 1883).bind fun t278=>(if t278=true then (impl_kind.j5 kj43 a0 true) else ((impl_in.f a0 12288 23459).bind fun t279=>(impl_kind.j5 kj43 a0 t279))))=some (r1,r2):=by rw [if_neg (show ¬ (false=true) by decide)] at H;exact H
                        clear H
                        have H:=H1
                        clear H1
                        replace H:=Option.bind_eq_some_iff.mp H
                        obtain ⟨t278,A560,H⟩:=H
                        replace H:(if t278=true then (impl_kind.j5 kj43 a0 true) else ((impl_in.f a0 12288 23459).bind fun t279=>(impl_kind.j5 kj43 a0 t279)))=some (r1,r2):=H
                        have A56:=Aside0.mk A560
                        clear A560
                        by_cases c57:t278=true
                        ·
                         subst c57
                         have H1:(impl_kind.j5 kj43 a0 true)=some (r1,r2):=by rw [if_pos rfl] at H;exact H
                         clear H
                         have H:=H1
                         clear H1
                         have H':=Aside0.mk H
                         clear H
                         go_wp2_with (first|((with_reducible refine gate_callee (f:=33) rfl ?_);refine goesL_ (some 105) rfl rfl Tryd.func33 (by kernel_rfl) rfl #[.int .i64 a0,.int .i64 1792,.int .i64 1810] rfl (by (try simp only [List.map_toArray,List.map_cons,List.map_nil]);first|done|rfl|(simp only [List.length_drop,List.length_take];rfl)) ?_;(with_reducible refine (impl_in.calls a0 1792 1810 false _ A52.out).mono ?_);rintro e w' ⟨rfl,⟨nd,rfl⟩⟩;refine ⟨_,rfl,?_⟩)|(go_at_call 33;(with_reducible refine (impl_in.calls a0 1824 1844 false _ A54.out).mono ?_);rintro e w' ⟨rfl,⟨nd,rfl⟩⟩)|(go_at_call 33;(with_reducible refine (impl_in.calls a0 1857 1883 true _ A56.out).mono ?_);rintro e w' ⟨rfl,⟨nd,rfl⟩⟩))
                         go_meet
                         case rel=>exact ⟨_,(true),(by first|rfl|(simp;done)|(simp [*];done)),H',⟨by have:=HJ17.out;have:=HJ22.out;have:=HJ43.out;first|omega|exact Nat.le_refl _⟩,by repeat (first|exact Drawn0.refl _|apply Drawn0.step)⟩
                        ·
                         replace c57:=Bool.eq_false_iff.mpr c57
                         subst c57
                         have H1:((impl_in.f a0 12288 23459).bind fun t279=>(impl_kind.j5 kj43 a0 t279))=some (r1,r2):=by rw [if_neg (show ¬ (false=true) by decide)] at H;exact H
                         clear H
                         have H:=H1
                         clear H1
                         replace H:=Option.bind_eq_some_iff.mp H
                         obtain ⟨t279,A580,H⟩:=H
                         replace H:(impl_kind.j5 kj43 a0 t279)=some (r1,r2):=H
                         have A58:=Aside0.mk A580
                         clear A580
                         have H':=Aside0.mk H
                         clear H
                         go_wp2_with (first|((with_reducible refine gate_callee (f:=33) rfl ?_);refine goesL_ (some 105) rfl rfl Tryd.func33 (by kernel_rfl) rfl #[.int .i64 a0,.int .i64 1792,.int .i64 1810] rfl (by (try simp only [List.map_toArray,List.map_cons,List.map_nil]);first|done|rfl|(simp only [List.length_drop,List.length_take];rfl)) ?_;(with_reducible refine (impl_in.calls a0 1792 1810 false _ A52.out).mono ?_);rintro e w' ⟨rfl,⟨nd,rfl⟩⟩;refine ⟨_,rfl,?_⟩)|(go_at_call 33;(with_reducible refine (impl_in.calls a0 1824 1844 false _ A54.out).mono ?_);rintro e w' ⟨rfl,⟨nd,rfl⟩⟩)|(go_at_call 33;(with_reducible refine (impl_in.calls a0 1857 1883 false _ A56.out).mono ?_);rintro e w' ⟨rfl,⟨nd,rfl⟩⟩)|(go_at_call 33;(with_reducible refine (impl_in.calls a0 12288 23459 t279 _ A58.out).mono ?_);rintro e w' ⟨rfl,⟨nd,rfl⟩⟩))
                         go_meet
                         case rel=>exact ⟨_,(t279),(by first|rfl|(simp;done)|(simp [*];done)),H',⟨by have:=HJ17.out;have:=HJ22.out;have:=HJ43.out;first|omega|exact Nat.le_refl _⟩,by repeat (first|exact Drawn0.refl _|apply Drawn0.step)⟩
                     case rest =>
                      clear HC51
                      try clear c1
                      try clear c2
                      try clear p2
                      try clear c3
                      try clear c3b0
                      try clear c4
                      try clear c5
                      try clear c5b0
                      try clear c7
                      try clear c9
                      try clear c9b0
                      try clear c11
                      try clear c13
                      try clear c15
                      try clear c17
                      try clear c20
                      try clear c22
                      try clear c24
                      try clear c24b0
                      try clear c24b1
                      try clear c25
                      try clear c25b0
                      try clear c25b1
                      try clear c26
                      try clear c28
                      try clear c30
                      try clear c32
                      try clear c33
                      try clear c34
                      try clear c35
                      try clear c35b0
                      try clear c35b1
                      try clear c37
                      try clear c39
                      try clear c41
                      try clear c43
                      try clear c46
                      try clear c47
                      try clear c47b0
                      try clear c47b1
                      try clear c48
                      try clear c50
                      try clear c52
                      try clear c53
                      try clear c55
                      try clear c57
                      try clear p2
                      obtain ⟨kq,x103_50,rfl,HA,HJ50,⟨mc50,rfl⟩⟩:=hcut
                      cases kq with
                      | zero=>exact absurd HA.out (by simp [impl_kind.j5])
                      | succ kj50 =>
                       have H:=HA.out
                       clear HA
                       simp only [impl_kind.j5] at H
                       by_cases c59:x103_50=true
                       ·
                        subst c59
                        have H1:(some (7,7))=some (r1,r2):=by rw [if_pos rfl] at H;exact H
                        clear H
                        have H:=H1
                        clear H1
                        simp only [Option.some.injEq,Prod.mk.injEq] at H
                        obtain ⟨rfl,rfl⟩:=H
                        go_wp2
                        go_ret2
                        exact ⟨by first|rfl|(simp;done)|(simp [*];done),by repeat (first|exact Drawn0.refl _|apply Drawn0.step)⟩
                       ·
                        replace c59:=Bool.eq_false_iff.mpr c59
                        subst c59
                        have H1:((impl_in.f a0 2048 2095).bind fun t280=>(if t280=true then (some (7,8)) else ((impl_in.f a0 4096 4159).bind fun t281=>(if t281=true then (some (3,0)) else ((impl_in.f a0 7680 7748).bind fun t282=>(if t282=true then (impl_kind.j6 kj50 a0 true) else ((impl_in.f a0 7760 7785).bind fun t283=>(impl_kind.j6 kj50 a0 t283))))))))=some (r1,r2):=by rw [if_neg (show ¬ (false=true) by decide)] at H;exact H
                        clear H
                        have H:=H1
                        clear H1
                        replace H:=Option.bind_eq_some_iff.mp H
                        obtain ⟨t280,A600,H⟩:=H
                        replace H:(if t280=true then (some (7,8)) else ((impl_in.f a0 4096 4159).bind fun t281=>(if t281=true then (some (3,0)) else ((impl_in.f a0 7680 7748).bind fun t282=>(if t282=true then (impl_kind.j6 kj50 a0 true) else ((impl_in.f a0 7760 7785).bind fun t283=>(impl_kind.j6 kj50 a0 t283)))))))=some (r1,r2):=H
                        have A60:=Aside0.mk A600
                        clear A600
                        by_cases c61:t280=true
                        ·
                         subst c61
                         have H1:(some (7,8))=some (r1,r2):=by rw [if_pos rfl] at H;exact H
                         clear H
                         have H:=H1
                         clear H1
                         simp only [Option.some.injEq,Prod.mk.injEq] at H
                         obtain ⟨rfl,rfl⟩:=H
                         go_wp2_with (first|((with_reducible refine gate_callee (f:=33) rfl ?_);refine goesL_ (some 120) rfl rfl Tryd.func33 (by kernel_rfl) rfl #[.int .i64 a0,.int .i64 2048,.int .i64 2095] rfl (by (try simp only [List.map_toArray,List.map_cons,List.map_nil]);first|done|rfl|(simp only [List.length_drop,List.length_take];rfl)) ?_;(with_reducible refine (impl_in.calls a0 2048 2095 true _ A60.out).mono ?_);rintro e w' ⟨rfl,⟨nd,rfl⟩⟩;refine ⟨_,rfl,?_⟩))
                         go_ret2
                         exact ⟨by first|rfl|(simp;done)|(simp [*];done),by repeat (first|exact Drawn0.refl _|apply Drawn0.step)⟩
                        ·
                         replace c61:=Bool.eq_false_iff.mpr c61
                         subst c61
                         have H1:((impl_in.f a0 4096 4159).bind fun t281=>(if t281=true then (some (3,0)) else ((impl_in.f a0 7680 7748).bind fun t282=>(if t282=true then (impl_kind.j6 kj50 a0 true) else ((impl_in.f a0 7760 7785).bind fun t283=>(impl_kind.j6 kj50 a0 t283))))))=some (r1,r2):=by rw [if_neg (show ¬ (false=true) by decide)] at H;exact H
                         clear H
                         have H:=H1
                         clear H1
                         replace H:=Option.bind_eq_some_iff.mp H
                         obtain ⟨t281,A620,H⟩:=H
                         replace H:(if t281=true then (some (3,0)) else ((impl_in.f a0 7680 7748).bind fun t282=>(if t282=true then (impl_kind.j6 kj50 a0 true) else ((impl_in.f a0 7760 7785).bind fun t283=>(impl_kind.j6 kj50 a0 t283)))))=some (r1,r2):=H
                         have A62:=Aside0.mk A620
                         clear A620
                         by_cases c63:t281=true
                         ·
                          subst c63
                          have H1:(some (3,0))=some (r1,r2):=by rw [if_pos rfl] at H;exact H
                          clear H
                          have H:=H1
                          clear H1
                          simp only [Option.some.injEq,Prod.mk.injEq] at H
                          obtain ⟨rfl,rfl⟩:=H
                          go_wp2_with (first|((with_reducible refine gate_callee (f:=33) rfl ?_);refine goesL_ (some 120) rfl rfl Tryd.func33 (by kernel_rfl) rfl #[.int .i64 a0,.int .i64 2048,.int .i64 2095] rfl (by (try simp only [List.map_toArray,List.map_cons,List.map_nil]);first|done|rfl|(simp only [List.length_drop,List.length_take];rfl)) ?_;(with_reducible refine (impl_in.calls a0 2048 2095 false _ A60.out).mono ?_);rintro e w' ⟨rfl,⟨nd,rfl⟩⟩;refine ⟨_,rfl,?_⟩)|((with_reducible refine gate_callee (f:=33) rfl ?_);refine goesL_ (some 123) rfl rfl Tryd.func33 (by kernel_rfl) rfl #[.int .i64 a0,.int .i64 4096,.int .i64 4159] rfl (by (try simp only [List.map_toArray,List.map_cons,List.map_nil]);first|done|rfl|(simp only [List.length_drop,List.length_take];rfl)) ?_;(with_reducible refine (impl_in.calls a0 4096 4159 true _ A62.out).mono ?_);rintro e w' ⟨rfl,⟨nd,rfl⟩⟩;refine ⟨_,rfl,?_⟩))
                          go_ret2
                          exact ⟨by first|rfl|(simp;done)|(simp [*];done),by repeat (first|exact Drawn0.refl _|apply Drawn0.step)⟩
                         ·
                          replace c63:=Bool.eq_false_iff.mpr c63
                          subst c63
                          have H1:((impl_in.f a0 7680 7748).bind fun t282=>(if t282=true then (impl_kind.j6 kj50 a0 true) else ((impl_in.f a0 7760 7785).bind fun t283=>(impl_kind.j6 kj50 a0 t283))))=some (r1,r2):=by rw [if_neg (show ¬ (false=true) by decide)] at H;exact H
                          clear H
                          have H:=H1
                          clear H1
                          have HC64:=Aside0.mk H
                          clear H
                          go_upto_region 45 with (first|((with_reducible refine gate_callee (f:=33) rfl ?_);refine goesL_ (some 120) rfl rfl Tryd.func33 (by kernel_rfl) rfl #[.int .i64 a0,.int .i64 2048,.int .i64 2095] rfl (by (try simp only [List.map_toArray,List.map_cons,List.map_nil]);first|done|rfl|(simp only [List.length_drop,List.length_take];rfl)) ?_;(with_reducible refine (impl_in.calls a0 2048 2095 false _ A60.out).mono ?_);rintro e w' ⟨rfl,⟨nd,rfl⟩⟩;refine ⟨_,rfl,?_⟩)|((with_reducible refine gate_callee (f:=33) rfl ?_);refine goesL_ (some 123) rfl rfl Tryd.func33 (by kernel_rfl) rfl #[.int .i64 a0,.int .i64 4096,.int .i64 4159] rfl (by (try simp only [List.map_toArray,List.map_cons,List.map_nil]);first|done|rfl|(simp only [List.length_drop,List.length_take];rfl)) ?_;(with_reducible refine (impl_in.calls a0 4096 4159 false _ A62.out).mono ?_);rintro e w' ⟨rfl,⟨nd,rfl⟩⟩;refine ⟨_,rfl,?_⟩))
                          (try simp only [Act.put,List.setIfInBounds_toArray,List.set_cons_zero,List.set_cons_succ])
                          go_cut [124] (fun v124 wc=>∃ (kq:Nat) (x124_63:Bool),v124 = .bool x124_63∧Aside0 (impl_kind.j6 kq a0 x124_63=some (r1,r2))∧Aside0 (kq≤kj50)∧Drawn0 w wc)
                          case first=>as_aux_lemma =>
                           have H:=HC64.out
                           clear HC64
                           replace H:=Option.bind_eq_some_iff.mp H
                           obtain ⟨t282,A650,H⟩:=H
                           replace H:(if t282=true then (impl_kind.j6 kj50 a0 true) else ((impl_in.f a0 7760 7785).bind fun t283=>(impl_kind.j6 kj50 a0 t283)))=some (r1,r2):=H
                           have A65:=Aside0.mk A650
                           clear A650
                           by_cases c66:t282=true
                           ·
                            subst c66
                            have H1:(impl_kind.j6 kj50 a0 true)=some (r1,r2):=by rw [if_pos rfl] at H;exact H
                            clear H
                            have H:=H1
                            clear H1
                            have H':=Aside0.mk H
                            clear H
                            go_wp2_with (first|((with_reducible refine gate_callee (f:=33) rfl ?_);refine goesL_ (some 126) rfl rfl Tryd.func33 (by kernel_rfl) rfl #[.int .i64 a0,.int .i64 7680,.int .i64 7748] rfl (by (try simp only [List.map_toArray,List.map_cons,List.map_nil]);first|done|rfl|(simp only [List.length_drop,List.length_take];rfl)) ?_;(with_reducible refine (impl_in.calls a0 7680 7748 true _ A65.out).mono ?_);rintro e w' ⟨rfl,⟨nd,rfl⟩⟩;refine ⟨_,rfl,?_⟩))
                            go_meet
                            case rel=>exact ⟨_,(true),(by first|rfl|(simp;done)|(simp [*];done)),H',⟨by have:=HJ17.out;have:=HJ22.out;have:=HJ43.out;have:=HJ50.out;first|omega|exact Nat.le_refl _⟩,by repeat (first|exact Drawn0.refl _|apply Drawn0.step)⟩
                           ·
                            replace c66:=Bool.eq_false_iff.mpr c66
                            subst c66
                            have H1:((impl_in.f a0 7760 7785).bind fun t283=>(impl_kind.j6 kj50 a0 t283))=some (r1,r2):=by rw [if_neg (show ¬ (false=true) by decide)] at H;exact H
                            clear H
                            have H:=H1
                            clear H1
                            replace H:=Option.bind_eq_some_iff.mp H
                            obtain ⟨t283,A670,H⟩:=H
                            replace H:(impl_kind.j6 kj50 a0 t283)=some (r1,r2):=H
                            have A67:=Aside0.mk A670
                            clear A670
                            have H':=Aside0.mk H
                            clear H
                            go_wp2_with (first|((with_reducible refine gate_callee (f:=33) rfl ?_);refine goesL_ (some 126) rfl rfl Tryd.func33 (by kernel_rfl) rfl #[.int .i64 a0,.int .i64 7680,.int .i64 7748] rfl (by (try simp only [List.map_toArray,List.map_cons,List.map_nil]);first|done|rfl|(simp only [List.length_drop,List.length_take];rfl)) ?_;(with_reducible refine (impl_in.calls a0 7680 7748 false _ A65.out).mono ?_);rintro e w' ⟨rfl,⟨nd,rfl⟩⟩;refine ⟨_,rfl,?_⟩)|(go_at_call 33;(with_reducible refine (impl_in.calls a0 7760 7785 t283 _ A67.out).mono ?_);rintro e w' ⟨rfl,⟨nd,rfl⟩⟩))
                            go_meet
                            case rel=>exact ⟨_,(t283),(by first|rfl|(simp;done)|(simp [*];done)),H',⟨by have:=HJ17.out;have:=HJ22.out;have:=HJ43.out;have:=HJ50.out;first|omega|exact Nat.le_refl _⟩,by repeat (first|exact Drawn0.refl _|apply Drawn0.step)⟩
                          case rest =>
                           clear HC64
                           try clear c1
                           try clear c2
                           try clear p2
                           try clear c3
                           try clear c3b0
                           try clear c4
                           try clear c5
                           try clear c5b0
                           try clear c6
                           try clear c7
                           try clear c9
                           try clear c9b0
                           try clear c11
                           try clear c13
                           try clear c15
                           try clear c17
                           try clear c20
                           try clear c22
                           try clear c24
                           try clear c24b0
                           try clear c24b1
                           try clear c25
                           try clear c25b0
                           try clear c25b1
                           try clear c26
                           try clear c28
                           try clear c30
                           try clear c32
                           try clear c33
                           try clear c34
                           try clear c35
                           try clear c35b0
                           try clear c35b1
                           try clear c37
                           try clear c39
                           try clear c41
                           try clear c43
                           try clear c46
                           try clear c47
                           try clear c47b0
                           try clear c47b1
                           try clear c48
                           try clear c50
                           try clear c52
                           try clear c53
                           try clear c55
                           try clear c57
                           try clear c59
                           try clear c61
                           try clear c63
                           try clear c66
                           try clear p2
                           obtain ⟨kq,x124_63,rfl,HA,HJ63,⟨mc63,rfl⟩⟩:=hcut
                           cases kq with
                           | zero=>exact absurd HA.out (by simp [impl_kind.j6])
                           | succ kj63 =>
                            have H:=HA.out
                            clear HA
                            simp only [impl_kind.j6] at H
                            by_cases c68:x124_63=true
                            ·
                             subst c68
                             have H1:(some (10,0))=some (r1,r2):=by rw [if_pos rfl] at H;exact H
                             clear H
                             have H:=H1
                             clear H1
                             simp only [Option.some.injEq,Prod.mk.injEq] at H
                             obtain ⟨rfl,rfl⟩:=H
                             go_wp2
                             go_ret2
                             exact ⟨by first|rfl|(simp;done)|(simp [*];done),by repeat (first|exact Drawn0.refl _|apply Drawn0.step)⟩
                            ·
                             replace c68:=Bool.eq_false_iff.mpr c68
                             subst c68
                             have H1:((impl_in.f a0 7936 7947).bind fun t284=>(if t284=true then (impl_kind.j7 kj63 a0 true) else (if a0=7953 then (impl_kind.j7 kj63 a0 true) else (impl_kind.j7 kj63 a0 (a0 == 7954)))))=some (r1,r2):=by rw [if_neg (show ¬ (false=true) by decide)] at H;exact H
                             clear H
                             have H:=H1
                             clear H1
                             have HC69:=Aside0.mk H
                             clear H
                             go_upto_region 47 with (fail)
                             go_cut [131] (fun v131 wc=>∃ (kq:Nat) (x131_68:Bool),v131 = .bool x131_68∧Aside0 (impl_kind.j7 kq a0 x131_68=some (r1,r2))∧Aside0 (kq≤kj63)∧Drawn0 w wc)
                             case first=>as_aux_lemma =>
                              have H:=HC69.out
                              clear HC69
                              replace H:=Option.bind_eq_some_iff.mp H
                              obtain ⟨t284,A700,H⟩:=H
                              replace H:(if t284=true then (impl_kind.j7 kj63 a0 true) else (if a0=7953 then (impl_kind.j7 kj63 a0 true) else (impl_kind.j7 kj63 a0 (a0 == 7954))))=some (r1,r2):=H
                              have A70:=Aside0.mk A700
                              clear A700
                              by_cases c71:t284=true
                              ·
                               subst c71
                               have H1:(impl_kind.j7 kj63 a0 true)=some (r1,r2):=by rw [if_pos rfl] at H;exact H
                               clear H
                               have H:=H1
                               clear H1
                               have H':=Aside0.mk H
                               clear H
                               go_wp2_with (first|((with_reducible refine gate_callee (f:=33) rfl ?_);refine goesL_ (some 133) rfl rfl Tryd.func33 (by kernel_rfl) rfl #[.int .i64 a0,.int .i64 7936,.int .i64 7947] rfl (by (try simp only [List.map_toArray,List.map_cons,List.map_nil]);first|done|rfl|(simp only [List.length_drop,List.length_take];rfl)) ?_;(with_reducible refine (impl_in.calls a0 7936 7947 true _ A70.out).mono ?_);rintro e w' ⟨rfl,⟨nd,rfl⟩⟩;refine ⟨_,rfl,?_⟩))
                               go_meet
                               case rel=>exact ⟨_,(true),(by first|rfl|(simp;done)|(simp [*];done)),H',⟨by have:=HJ17.out;have:=HJ22.out;have:=HJ43.out;have:=HJ50.out;have:=HJ63.out;first|omega|exact Nat.le_refl _⟩,by repeat (first|exact Drawn0.refl _|apply Drawn0.step)⟩
                              ·
                               replace c71:=Bool.eq_false_iff.mpr c71
                               subst c71
                               have H1:(if a0=7953 then (impl_kind.j7 kj63 a0 true) else (impl_kind.j7 kj63 a0 (a0 == 7954)))=some (r1,r2):=by rw [if_neg (show ¬ (false=true) by decide)] at H;exact H
                               clear H
                               have H:=H1
                               clear H1
                               by_cases c72:a0=7953
                               ·
                                rw [if_pos c72] at H
                                have c72b0:(a0 == 7953)=true:=beq_iff_eq.mpr c72
                                have c72b1:(a0 != 7953)=false:=bne_eq_false_iff_eq.mpr c72
                                clear c72
                                (first|rw [c72b0]|(simp only [i64_w,i32_w];rw [c72b0])|skip)
                                have H':=Aside0.mk H
                                clear H
                                go_wp2_with (first|((with_reducible refine gate_callee (f:=33) rfl ?_);refine goesL_ (some 133) rfl rfl Tryd.func33 (by kernel_rfl) rfl #[.int .i64 a0,.int .i64 7936,.int .i64 7947] rfl (by (try simp only [List.map_toArray,List.map_cons,List.map_nil]);first|done|rfl|(simp only [List.length_drop,List.length_take];rfl)) ?_;(with_reducible refine (impl_in.calls a0 7936 7947 false _ A70.out).mono ?_);rintro e w' ⟨rfl,⟨nd,rfl⟩⟩;refine ⟨_,rfl,?_⟩))
                                go_meet
                                case rel=>exact ⟨_,(true),(by first|rfl|(simp;done)|(simp [*];done)),H',⟨by have:=HJ17.out;have:=HJ22.out;have:=HJ43.out;have:=HJ50.out;have:=HJ63.out;first|omega|exact Nat.le_refl _⟩,by repeat (first|exact Drawn0.refl _|apply Drawn0.step)⟩
                               ·
                                rw [if_neg c72] at H
                                have c72b0:(a0 == 7953)=false:=beq_eq_false_iff_ne.mpr c72
                                have c72b1:(a0 != 7953)=true:=bne_iff_ne.mpr c72
                                (first|rw [c72b0]|(simp only [i64_w,i32_w];rw [c72b0])|skip)
                                have H':=Aside0.mk H
                                clear H
                                go_wp2_with (first|((with_reducible refine gate_callee (f:=33) rfl ?_);refine goesL_ (some 133) rfl rfl Tryd.func33 (by kernel_rfl) rfl #[.int .i64 a0,.int .i64 7936,.int .i64 7947] rfl (by (try simp only [List.map_toArray,List.map_cons,List.map_nil]);first|done|rfl|(simp only [List.length_drop,List.length_take];rfl)) ?_;(with_reducible refine (impl_in.calls a0 7936 7947 false _ A70.out).mono ?_);rintro e w' ⟨rfl,⟨nd,rfl⟩⟩;refine ⟨_,rfl,?_⟩))
                                go_meet
                                case rel=>exact ⟨_,((a0 == 7954)),(by first|rfl|(simp;done)|(simp [*];done)),H',⟨by have:=HJ17.out;have:=HJ22.out;have:=HJ43.out;have:=HJ50.out;have:=HJ63.out;first|omega|exact Nat.le_refl _⟩,by repeat (first|exact Drawn0.refl _|apply Drawn0.step)⟩
                             case rest =>
                              clear HC69
                              try clear c1
                              try clear c2
                              try clear p2
                              try clear c3
                              try clear c3b0
                              try clear c4
                              try clear c5
                              try clear c5b0
                              try clear c6
                              try clear c7
                              try clear c9
                              try clear c9b0
                              try clear c11
                              try clear c13
                              try clear c15
                              try clear c17
                              try clear c20
                              try clear c22
                              try clear c24
                              try clear c24b0
                              try clear c24b1
                              try clear c25
                              try clear c25b0
                              try clear c25b1
                              try clear c26
                              try clear c28
                              try clear c30
                              try clear c32
                              try clear c33
                              try clear c34
                              try clear c35
                              try clear c35b0
                              try clear c35b1
                              try clear c37
                              try clear c39
                              try clear c41
                              try clear c43
                              try clear c46
                              try clear c47
                              try clear c47b0
                              try clear c47b1
                              try clear c48
                              try clear c50
                              try clear c52
                              try clear c53
                              try clear c55
                              try clear c57
                              try clear c59
                              try clear c61
                              try clear c63
                              try clear c66
                              try clear c68
                              try clear c71
                              try clear c72
                              try clear c72b0
                              try clear c72b1
                              try clear p2
                              obtain ⟨kq,x131_68,rfl,HA,HJ68,⟨mc68,rfl⟩⟩:=hcut
                              cases kq with
                              | zero=>exact absurd HA.out (by simp [impl_kind.j7])
                              | succ kj68 =>
                               have H:=HA.out
                               clear HA
                               simp only [impl_kind.j7] at H
                               by_cases c73:x131_68=true
                               ·
                                subst c73
                                have H1:(some (11,0))=some (r1,r2):=by rw [if_pos rfl] at H;exact H
                                clear H
                                have H:=H1
                                clear H1
                                simp only [Option.some.injEq,Prod.mk.injEq] at H
                                obtain ⟨rfl,rfl⟩:=H
                                go_wp2
                                go_ret2
                                exact ⟨by first|rfl|(simp;done)|(simp [*];done),by repeat (first|exact Drawn0.refl _|apply Drawn0.step)⟩
                               ·
                                replace c73:=Bool.eq_false_iff.mpr c73
                                subst c73
                                have H1:((impl_in.f a0 8192 9631).bind fun t285=>(if t285=true then (impl_kind.j8 kj68 a0 (decide ((Int.tmod (wrap64 (a0-8192)) 512)<416))) else (impl_kind.j8 kj68 a0 false)))=some (r1,r2):=by rw [if_neg (show ¬ (false=true) by decide)] at H;exact H
                                clear H
                                have H:=H1
                                clear H1
                                have HC74:=Aside0.mk H
                                clear H
                                go_upto_region 49 with (fail)
                                go_cut [142] (fun v142 wc=>∃ (kq:Nat) (x142_73:Bool),v142 = .bool x142_73∧Aside0 (impl_kind.j8 kq a0 x142_73=some (r1,r2))∧Aside0 (kq≤kj68)∧Drawn0 w wc)
                                case first=>as_aux_lemma =>
                                 have H:=HC74.out
                                 clear HC74
                                 replace H:=Option.bind_eq_some_iff.mp H
                                 obtain ⟨t285,A750,H⟩:=H
                                 replace H:(if t285=true then (impl_kind.j8 kj68 a0 (decide ((Int.tmod (wrap64 (a0-8192)) 512)<416))) else (impl_kind.j8 kj68 a0 false))=some (r1,r2):=H
                                 have A75:=Aside0.mk A750
                                 clear A750
                                 by_cases c76:t285=true
                                 ·
                                  subst c76
                                  have H1:(impl_kind.j8 kj68 a0 (decide ((Int.tmod (wrap64 (a0-8192)) 512)<416)))=some (r1,r2):=by rw [if_pos rfl] at H;exact H
                                  clear H
                                  have H:=H1
                                  clear H1
                                  have H':=Aside0.mk H
                                  clear H
                                  go_wp2_with (first|((with_reducible refine gate_callee (f:=33) rfl ?_);refine goesL_ (some 144) rfl rfl Tryd.func33 (by kernel_rfl) rfl #[.int .i64 a0,.int .i64 8192,.int .i64 9631] rfl (by (try simp only [List.map_toArray,List.map_cons,List.map_nil]);first|done|rfl|(simp only [List.length_drop,List.length_take];rfl)) ?_;(with_reducible refine (impl_in.calls a0 8192 9631 true _ A75.out).mono ?_);rintro e w' ⟨rfl,⟨nd,rfl⟩⟩;refine ⟨_,rfl,?_⟩))
                                  go_meet
                                  case rel=>exact ⟨_,(decide ((Int.tmod (wrap64 (a0-8192)) 512)<416)),(by first|rfl|(simp;done)|(simp [*];done)),H',⟨by have:=HJ17.out;have:=HJ22.out;have:=HJ43.out;have:=HJ50.out;have:=HJ63.out;have:=HJ68.out;first|omega|exact Nat.le_refl _⟩,by repeat (first|exact Drawn0.refl _|apply Drawn0.step)⟩
                                 ·
                                  replace c76:=Bool.eq_false_iff.mpr c76
                                  subst c76
                                  have H1:(impl_kind.j8 kj68 a0 false)=some (r1,r2):=by rw [if_neg (show ¬ (false=true) by decide)] at H;exact H
                                  clear H
                                  have H:=H1
                                  clear H1
                                  have H':=Aside0.mk H
                                  clear H
                                  go_wp2_with (first|((with_reducible refine gate_callee (f:=33) rfl ?_);refine goesL_ (some 144) rfl rfl Tryd.func33 (by kernel_rfl) rfl #[.int .i64 a0,.int .i64 8192,.int .i64 9631] rfl (by (try simp only [List.map_toArray,List.map_cons,List.map_nil]);first|done|rfl|(simp only [List.length_drop,List.length_take];rfl)) ?_;(with_reducible refine (impl_in.calls a0 8192 9631 false _ A75.out).mono ?_);rintro e w' ⟨rfl,⟨nd,rfl⟩⟩;refine ⟨_,rfl,?_⟩))
                                  go_meet
                                  case rel=>exact ⟨_,(false),(by first|rfl|(simp;done)|(simp [*];done)),H',⟨by have:=HJ17.out;have:=HJ22.out;have:=HJ43.out;have:=HJ50.out;have:=HJ63.out;have:=HJ68.out;first|omega|exact Nat.le_refl _⟩,by repeat (first|exact Drawn0.refl _|apply Drawn0.step)⟩
                                case rest =>
                                 clear HC74
                                 try clear c1
                                 try clear c2
                                 try clear p2
                                 try clear c3
                                 try clear c3b0
                                 try clear c4
                                 try clear c5
                                 try clear c5b0
                                 try clear c6
                                 try clear p6
                                 try clear c7
                                 try clear c9
                                 try clear c9b0
                                 try clear c11
                                 try clear c13
                                 try clear c15
                                 try clear c17
                                 try clear c20
                                 try clear c22
                                 try clear c24
                                 try clear c24b0
                                 try clear c24b1
                                 try clear c25
                                 try clear c25b0
                                 try clear c25b1
                                 try clear c26
                                 try clear c28
                                 try clear c30
                                 try clear c32
                                 try clear c33
                                 try clear c34
                                 try clear c35
                                 try clear c35b0
                                 try clear c35b1
                                 try clear c37
                                 try clear c39
                                 try clear c41
                                 try clear c43
                                 try clear c46
                                 try clear c47
                                 try clear c47b0
                                 try clear c47b1
                                 try clear c48
                                 try clear c50
                                 try clear c52
                                 try clear c53
                                 try clear c55
                                 try clear c57
                                 try clear c59
                                 try clear c61
                                 try clear c63
                                 try clear p64
                                 try clear c66
                                 try clear c68
                                 try clear c71
                                 try clear c72
                                 try clear c72b0
                                 try clear c72b1
                                 try clear c73
                                 try clear c76
                                 try clear p2
                                 obtain ⟨kq,x142_73,rfl,HA,HJ73,⟨mc73,rfl⟩⟩:=hcut
                                 cases kq with
                                 | zero=>exact absurd HA.out (by simp [impl_kind.j8])
                                 | succ kj73 =>
                                  have H:=HA.out
                                  clear HA
                                  simp only [impl_kind.j8] at H
                                  by_cases c77:x142_73=true
                                  ·
                                   subst c77
                                   have H1:(if (Int.tmod (wrap64 (a0-8192)) 512)<208 then (some (4,1)) else (some (5,1)))=some (r1,r2):=by rw [if_pos rfl] at H;exact H
                                   clear H
                                   have H:=H1
                                   clear H1
                                   by_cases c78:(Int.tmod (wrap64 (a0-8192)) 512)<208
                                   ·
                                    rw [if_pos c78] at H
                                    have c78b0:decide ((Int.tmod (wrap64 (a0-8192)) 512)<208)=true:=decide_eq_true c78
                                    clear c78
                                    simp only [Option.some.injEq,Prod.mk.injEq] at H
                                    obtain ⟨rfl,rfl⟩:=H
                                    go_wp2
                                    go_ret2
                                    exact ⟨by first|rfl|(simp;done)|(simp [*];done),by repeat (first|exact Drawn0.refl _|apply Drawn0.step)⟩
                                   ·
                                    rw [if_neg c78] at H
                                    have c78b0:decide ((Int.tmod (wrap64 (a0-8192)) 512)<208)=false:=decide_eq_false c78
                                    clear c78
                                    simp only [Option.some.injEq,Prod.mk.injEq] at H
                                    obtain ⟨rfl,rfl⟩:=H
                                    go_wp2
                                    go_ret2
                                    exact ⟨by first|rfl|(simp;done)|(simp [*];done),by repeat (first|exact Drawn0.refl _|apply Drawn0.step)⟩
                                  ·
                                   replace c77:=Bool.eq_false_iff.mpr c77
                                   subst c77
                                   have H1:((impl_in.f a0 9728 9753).bind fun t286=>(if t286=true then (some (4,1)) else ((impl_in.f a0 9984 10009).bind fun t287=>(if t287=true then (impl_kind.j9 kj73 a0 true) else ((impl_in.f a0 10032 10035).bind fun t288=>(impl_kind.j9 kj73 a0 t288))))))=some (r1,r2):=by rw [if_neg (show ¬ (false=true) by decide)] at H;exact H
                                   clear H
                                   have H:=H1
                                   clear H1
                                   replace H:=Option.bind_eq_some_iff.mp H
                                   obtain ⟨t286,A790,H⟩:=H
                                   replace H:(if t286=true then (some (4,1)) else ((impl_in.f a0 9984 10009).bind fun t287=>(if t287=true then (impl_kind.j9 kj73 a0 true) else ((impl_in.f a0 10032 10035).bind fun t288=>(impl_kind.j9 kj73 a0 t288)))))=some (r1,r2):=H
                                   have A79:=Aside0.mk A790
                                   clear A790
                                   by_cases c80:t286=true
                                   ·
                                    subst c80
                                    have H1:(some (4,1))=some (r1,r2):=by rw [if_pos rfl] at H;exact H
                                    clear H
                                    have H:=H1
                                    clear H1
                                    simp only [Option.some.injEq,Prod.mk.injEq] at H
                                    obtain ⟨rfl,rfl⟩:=H
                                    go_wp2_with (first|((with_reducible refine gate_callee (f:=33) rfl ?_);refine goesL_ (some 157) rfl rfl Tryd.func33 (by kernel_rfl) rfl #[.int .i64 a0,.int .i64 9728,.int .i64 9753] rfl (by (try simp only [List.map_toArray,List.map_cons,List.map_nil]);first|done|rfl|(simp only [List.length_drop,List.length_take];rfl)) ?_;(with_reducible refine (impl_in.calls a0 9728 9753 true _ A79.out).mono ?_);rintro e w' ⟨rfl,⟨nd,rfl⟩⟩;refine ⟨_,rfl,?_⟩))
                                    go_ret2
                                    exact ⟨by first|rfl|(simp;done)|(simp [*];done),by repeat (first|exact Drawn0.refl _|apply Drawn0.step)⟩
                                   ·
                                    replace c80:=Bool.eq_false_iff.mpr c80
                                    subst c80
                                    have H1:((impl_in.f a0 9984 10009).bind fun t287=>(if t287=true then (impl_kind.j9 kj73 a0 true) else ((impl_in.f a0 10032 10035).bind fun t288=>(impl_kind.j9 kj73 a0 t288))))=some (r1,r2):=by rw [if_neg (show ¬ (false=true) by decide)] at H;exact H
                                    clear H
                                    have H:=H1
                                    clear H1
                                    have HC81:=Aside0.mk H
                                    clear H
                                    go_upto_region 55 with (first|((with_reducible refine gate_callee (f:=33) rfl ?_);refine goesL_ (some 157) rfl rfl Tryd.func33 (by kernel_rfl) rfl #[.int .i64 a0,.int .i64 9728,.int .i64 9753] rfl (by (try simp only [List.map_toArray,List.map_cons,List.map_nil]);first|done|rfl|(simp only [List.length_drop,List.length_take];rfl)) ?_;(with_reducible refine (impl_in.calls a0 9728 9753 false _ A79.out).mono ?_);rintro e w' ⟨rfl,⟨nd,rfl⟩⟩;refine ⟨_,rfl,?_⟩))
                                    (try simp only [Act.put,List.setIfInBounds_toArray,List.set_cons_zero,List.set_cons_succ])
                                    go_cut [158] (fun v158 wc=>∃ (kq:Nat) (x158_80:Bool),v158 = .bool x158_80∧Aside0 (impl_kind.j9 kq a0 x158_80=some (r1,r2))∧Aside0 (kq≤kj73)∧Drawn0 w wc)
                                    case first=>as_aux_lemma =>
                                     have H:=HC81.out
                                     clear HC81
                                     replace H:=Option.bind_eq_some_iff.mp H
                                     obtain ⟨t287,A820,H⟩:=H
                                     replace H:(if t287=true then (impl_kind.j9 kj73 a0 true) else ((impl_in.f a0 10032 10035).bind fun t288=>(impl_kind.j9 kj73 a0 t288)))=some (r1,r2):=H
                                     have A82:=Aside0.mk A820
                                     clear A820
                                     by_cases c83:t287=true
                                     ·
                                      subst c83
                                      have H1:(impl_kind.j9 kj73 a0 true)=some (r1,r2):=by rw [if_pos rfl] at H;exact H
                                      clear H
                                      have H:=H1
                                      clear H1
                                      have H':=Aside0.mk H
                                      clear H
                                      go_wp2_with (first|((with_reducible refine gate_callee (f:=33) rfl ?_);refine goesL_ (some 160) rfl rfl Tryd.func33 (by kernel_rfl) rfl #[.int .i64 a0,.int .i64 9984,.int .i64 10009] rfl (by (try simp only [List.map_toArray,List.map_cons,List.map_nil]);first|done|rfl|(simp only [List.length_drop,List.length_take];rfl)) ?_;(with_reducible refine (impl_in.calls a0 9984 10009 true _ A82.out).mono ?_);rintro e w' ⟨rfl,⟨nd,rfl⟩⟩;refine ⟨_,rfl,?_⟩))
                                      go_meet
                                      case rel=>exact ⟨_,(true),(by first|rfl|(simp;done)|(simp [*];done)),H',⟨by have:=HJ17.out;have:=HJ22.out;have:=HJ43.out;have:=HJ50.out;have:=HJ63.out;have:=HJ68.out;have:=HJ73.out;first|omega|exact Nat.le_refl _⟩,by repeat (first|exact Drawn0.refl _|apply Drawn0.step)⟩
                                     ·
                                      replace c83:=Bool.eq_false_iff.mpr c83
                                      subst c83
                                      have H1:((impl_in.f a0 10032 10035).bind fun t288=>(impl_kind.j9 kj73 a0 t288))=some (r1,r2):=by rw [if_neg (show ¬ (false=true) by decide)] at H;exact H
                                      clear H
                                      have H:=H1
                                      clear H1
                                      replace H:=Option.bind_eq_some_iff.mp H
                                      obtain ⟨t288,A840,H⟩:=H
                                      replace H:(impl_kind.j9 kj73 a0 t288)=some (r1,r2):=H
                                      have A84:=Aside0.mk A840
                                      clear A840
                                      have H':=Aside0.mk H
                                      clear H
                                      go_wp2_with (first|((with_reducible refine gate_callee (f:=33) rfl ?_);refine goesL_ (some 160) rfl rfl Tryd.func33 (by kernel_rfl) rfl #[.int .i64 a0,.int .i64 9984,.int .i64 10009] rfl (by (try simp only [List.map_toArray,List.map_cons,List.map_nil]);first|done|rfl|(simp only [List.length_drop,List.length_take];rfl)) ?_;(with_reducible refine (impl_in.calls a0 9984 10009 false _ A82.out).mono ?_);rintro e w' ⟨rfl,⟨nd,rfl⟩⟩;refine ⟨_,rfl,?_⟩)|(go_at_call 33;(with_reducible refine (impl_in.calls a0 10032 10035 t288 _ A84.out).mono ?_);rintro e w' ⟨rfl,⟨nd,rfl⟩⟩))
                                      go_meet
                                      case rel=>exact ⟨_,(t288),(by first|rfl|(simp;done)|(simp [*];done)),H',⟨by have:=HJ17.out;have:=HJ22.out;have:=HJ43.out;have:=HJ50.out;have:=HJ63.out;have:=HJ68.out;have:=HJ73.out;first|omega|exact Nat.le_refl _⟩,by repeat (first|exact Drawn0.refl _|apply Drawn0.step)⟩
                                    case rest =>
                                     clear HC81
                                     try clear c1
                                     try clear c2
                                     try clear p2
                                     try clear c3
                                     try clear c3b0
                                     try clear c4
                                     try clear c5
                                     try clear c5b0
                                     try clear c6
                                     try clear p6
                                     try clear c7
                                     try clear c8
                                     try clear c9
                                     try clear c9b0
                                     try clear c11
                                     try clear c13
                                     try clear c15
                                     try clear c17
                                     try clear c20
                                     try clear c22
                                     try clear c24
                                     try clear c24b0
                                     try clear c24b1
                                     try clear c25
                                     try clear c25b0
                                     try clear c25b1
                                     try clear c26
                                     try clear c28
                                     try clear c30
                                     try clear c32
                                     try clear c33
                                     try clear c34
                                     try clear c35
                                     try clear c35b0
                                     try clear c35b1
                                     try clear c37
                                     try clear c39
                                     try clear c41
                                     try clear c43
                                     try clear c46
                                     try clear c47
                                     try clear c47b0
                                     try clear c47b1
                                     try clear c48
                                     try clear c50
                                     try clear c52
                                     try clear c53
                                     try clear c55
                                     try clear c57
                                     try clear c59
                                     try clear c61
                                     try clear c63
                                     try clear p64
                                     try clear c66
                                     try clear c68
                                     try clear c71
                                     try clear c72
                                     try clear c72b0
                                     try clear c72b1
                                     try clear c73
                                     try clear c76
                                     try clear c77
                                     try clear c78
                                     try clear c78b0
                                     try clear c80
                                     try clear c83
                                     try clear p2
                                     try clear p6
                                     try clear p64
                                     obtain ⟨kq,x158_80,rfl,HA,HJ80,⟨mc80,rfl⟩⟩:=hcut
                                     cases kq with
                                     | zero=>exact absurd HA.out (by simp [impl_kind.j9])
                                     | succ kj80 =>
                                      have H:=HA.out
                                      clear HA
                                      simp only [impl_kind.j9] at H
                                      by_cases c85:x158_80=true
                                      ·
                                       subst c85
                                       have H1:(some (10,0))=some (r1,r2):=by rw [if_pos rfl] at H;exact H
                                       clear H
                                       have H:=H1
                                       clear H1
                                       simp only [Option.some.injEq,Prod.mk.injEq] at H
                                       obtain ⟨rfl,rfl⟩:=H
                                       go_wp2
                                       go_ret2
                                       exact ⟨by first|rfl|(simp;done)|(simp [*];done),by repeat (first|exact Drawn0.refl _|apply Drawn0.step)⟩
                                      ·
                                       replace c85:=Bool.eq_false_iff.mpr c85
                                       subst c85
                                       have H1:((impl_in.f a0 10016 10025).bind fun t289=>(if t289=true then (some (8,0)) else ((impl_in.f a0 24576 26623).bind fun t290=>(if t290=true then (some (7,9)) else (some (0,0))))))=some (r1,r2):=by rw [if_neg (show ¬ (false=true) by decide)] at H;exact H
                                       clear H
                                       have H:=H1
                                       clear H1
                                       replace H:=Option.bind_eq_some_iff.mp H
                                       obtain ⟨t289,A860,H⟩:=H
                                       replace H:(if t289=true then (some (8,0)) else ((impl_in.f a0 24576 26623).bind fun t290=>(if t290=true then (some (7,9)) else (some (0,0)))))=some (r1,r2):=H
                                       have A86:=Aside0.mk A860
                                       clear A860
                                       by_cases c87:t289=true
                                       ·
                                        subst c87
                                        have H1:(some (8,0))=some (r1,r2):=by rw [if_pos rfl] at H;exact H
                                        clear H
                                        have H:=H1
                                        clear H1
                                        simp only [Option.some.injEq,Prod.mk.injEq] at H
                                        obtain ⟨rfl,rfl⟩:=H
                                        go_wp2_with (first|((with_reducible refine gate_callee (f:=33) rfl ?_);refine goesL_ (some 167) rfl rfl Tryd.func33 (by kernel_rfl) rfl #[.int .i64 a0,.int .i64 10016,.int .i64 10025] rfl (by (try simp only [List.map_toArray,List.map_cons,List.map_nil]);first|done|rfl|(simp only [List.length_drop,List.length_take];rfl)) ?_;(with_reducible refine (impl_in.calls a0 10016 10025 true _ A86.out).mono ?_);rintro e w' ⟨rfl,⟨nd,rfl⟩⟩;refine ⟨_,rfl,?_⟩))
                                        go_ret2
                                        exact ⟨by first|rfl|(simp;done)|(simp [*];done),by repeat (first|exact Drawn0.refl _|apply Drawn0.step)⟩
                                       ·
                                        replace c87:=Bool.eq_false_iff.mpr c87
                                        subst c87
                                        have H1:((impl_in.f a0 24576 26623).bind fun t290=>(if t290=true then (some (7,9)) else (some (0,0))))=some (r1,r2):=by rw [if_neg (show ¬ (false=true) by decide)] at H;exact H
                                        clear H
                                        have H:=H1
                                        clear H1
                                        replace H:=Option.bind_eq_some_iff.mp H
                                        obtain ⟨t290,A880,H⟩:=H
                                        replace H:(if t290=true then (some (7,9)) else (some (0,0)))=some (r1,r2):=H
                                        have A88:=Aside0.mk A880
                                        clear A880
                                        by_cases c89:t290=true
                                        ·
                                         subst c89
                                         have H1:(some (7,9))=some (r1,r2):=by rw [if_pos rfl] at H;exact H
                                         clear H
                                         have H:=H1
                                         clear H1
                                         simp only [Option.some.injEq,Prod.mk.injEq] at H
                                         obtain ⟨rfl,rfl⟩:=H
                                         go_wp2_with (first|((with_reducible refine gate_callee (f:=33) rfl ?_);refine goesL_ (some 167) rfl rfl Tryd.func33 (by kernel_rfl) rfl #[.int .i64 a0,.int .i64 10016,.int .i64 10025] rfl (by (try simp only [List.map_toArray,List.map_cons,List.map_nil]);first|done|rfl|(simp only [List.length_drop,List.length_take];rfl)) ?_;(with_reducible refine (impl_in.calls a0 10016 10025 false _ A86.out).mono ?_);rintro e w' ⟨rfl,⟨nd,rfl⟩⟩;refine ⟨_,rfl,?_⟩)|((with_reducible refine gate_callee (f:=33) rfl ?_);refine goesL_ (some 170) rfl rfl Tryd.func33 (by kernel_rfl) rfl #[.int .i64 a0,.int .i64 24576,.int .i64 26623] rfl (by (try simp only [List.map_toArray,List.map_cons,List.map_nil]);first|done|rfl|(simp only [List.length_drop,List.length_take];rfl)) ?_;(with_reducible refine (impl_in.calls a0 24576 26623 true _ A88.out).mono ?_);rintro e w' ⟨rfl,⟨nd,rfl⟩⟩;refine ⟨_,rfl,?_⟩))
                                         go_ret2
                                         exact ⟨by first|rfl|(simp;done)|(simp [*];done),by repeat (first|exact Drawn0.refl _|apply Drawn0.step)⟩
                                        ·
                                         replace c89:=Bool.eq_false_iff.mpr c89
                                         subst c89
                                         have H1:(some (0,0))=some (r1,r2):=by rw [if_neg (show ¬ (false=true) by decide)] at H;exact H
                                         clear H
                                         have H:=H1
                                         clear H1
                                         simp only [Option.some.injEq,Prod.mk.injEq] at H
                                         obtain ⟨rfl,rfl⟩:=H
                                         go_wp2_with (first|((with_reducible refine gate_callee (f:=33) rfl ?_);refine goesL_ (some 167) rfl rfl Tryd.func33 (by kernel_rfl) rfl #[.int .i64 a0,.int .i64 10016,.int .i64 10025] rfl (by (try simp only [List.map_toArray,List.map_cons,List.map_nil]);first|done|rfl|(simp only [List.length_drop,List.length_take];rfl)) ?_;(with_reducible refine (impl_in.calls a0 10016 10025 false _ A86.out).mono ?_);rintro e w' ⟨rfl,⟨nd,rfl⟩⟩;refine ⟨_,rfl,?_⟩)|((with_reducible refine gate_callee (f:=33) rfl ?_);refine goesL_ (some 170) rfl rfl Tryd.func33 (by kernel_rfl) rfl #[.int .i64 a0,.int .i64 24576,.int .i64 26623] rfl (by (try simp only [List.map_toArray,List.map_cons,List.map_nil]);first|done|rfl|(simp only [List.length_drop,List.length_take];rfl)) ?_;(with_reducible refine (impl_in.calls a0 24576 26623 false _ A88.out).mono ?_);rintro e w' ⟨rfl,⟨nd,rfl⟩⟩;refine ⟨_,rfl,?_⟩))
                                         go_ret2
                                         exact ⟨by first|rfl|(simp;done)|(simp [*];done),by repeat (first|exact Drawn0.refl _|apply Drawn0.step)⟩
def impl_Category.f (k:Nat) (a0:Int):Option (Int):=(impl_kind.f k a0).bind fun bt291=>(some bt291.1)
set_option maxHeartbeats 8000000 in
set_option maxRecDepth 100000 in
theorem impl_Category.calls (k:Nat) (a0:Int) (r:Int) (w:World) (h:impl_Category.f k a0=some r) :
  Calls Tryd.prog 31 #[.int .i64 a0] w fun e w'=>e = .returned (.int .i64 r)∧Drawn0 w w':=by
 have H:((impl_kind.f k a0).bind fun bt291=>(some bt291.1))=some r:=h
 clear h
 replace H:=Option.bind_eq_some_iff.mp H
 obtain ⟨⟨t291,t292⟩,A20,H⟩:=H
 replace H:(some t291)=some r:=H
 have A2:=Aside0.mk A20
 clear A20
 obtain rfl:=Option.some.inj H
 go_enter Tryd.func31,Tryd.ntmps31
 go_wp2_with (first|((with_reducible refine gate_callee (f:=52) rfl ?_);refine goesL_ (some 7) rfl rfl Tryd.func52 (by kernel_rfl) rfl #[.int .i64 a0] rfl (by (try simp only [List.map_toArray,List.map_cons,List.map_nil]);first|done|rfl|(simp only [List.length_drop,List.length_take];rfl)) ?_;(with_reducible refine (impl_kind.calls k a0 t291 t292 _ A2.out).mono ?_);rintro e w' ⟨rfl,⟨nd,rfl⟩⟩;refine ⟨_,rfl,?_⟩))
 go_ret
 exact ⟨by first|rfl|(simp;done)|(simp [*];done),by repeat (first|exact Drawn0.refl _|apply Drawn0.step)⟩
def impl_isMark.f (k:Nat) (a0:Int):Option (Bool):=(impl_Category.f k a0).bind fun t293=>(some (t293 == 3))
set_option maxHeartbeats 8000000 in
set_option maxRecDepth 100000 in
theorem impl_isMark.calls (k:Nat) (a0:Int) (r:Bool) (w:World) (h:impl_isMark.f k a0=some r) :
  Calls Tryd.prog 22 #[.int .i64 a0] w fun e w'=>e = .returned (.bool r)∧Drawn0 w w':=by
 have H:((impl_Category.f k a0).bind fun t293=>(some (t293 == 3)))=some r:=h
 clear h
 replace H:=Option.bind_eq_some_iff.mp H
 obtain ⟨t293,A20,H⟩:=H
 replace H:(some (t293 == 3))=some r:=H
 have A2:=Aside0.mk A20
 clear A20
 obtain rfl:=Option.some.inj H
 go_enter Tryd.func22,Tryd.ntmps22
 go_wp2_with (first|((with_reducible refine gate_callee (f:=31) rfl ?_);refine goesL_ (some 4) rfl rfl Tryd.func31 (by kernel_rfl) rfl #[.int .i64 a0] rfl (by (try simp only [List.map_toArray,List.map_cons,List.map_nil]);first|done|rfl|(simp only [List.length_drop,List.length_take];rfl)) ?_;(with_reducible refine (impl_Category.calls k a0 t293 _ A2.out).mono ?_);rintro e w' ⟨rfl,⟨nd,rfl⟩⟩;refine ⟨_,rfl,?_⟩))
 go_ret
 exact ⟨by first|rfl|(simp;done)|(simp [*];done),by repeat (first|exact Drawn0.refl _|apply Drawn0.step)⟩
def impl_isSyllable.f (a0:Int):Option (Bool):=(impl_in.f a0 12288 23459).bind fun t294=>(some t294)
set_option maxHeartbeats 8000000 in
set_option maxRecDepth 100000 in
theorem impl_isSyllable.calls (a0:Int) (r:Bool) (w:World) (h:impl_isSyllable.f a0=some r) :
  Calls Tryd.prog 32 #[.int .i64 a0] w fun e w'=>e = .returned (.bool r)∧Drawn0 w w':=by
 have H:((impl_in.f a0 12288 23459).bind fun t294=>(some t294))=some r:=h
 clear h
 replace H:=Option.bind_eq_some_iff.mp H
 obtain ⟨t294,A20,H⟩:=H
 replace H:(some t294)=some r:=H
 have A2:=Aside0.mk A20
 clear A20
 obtain rfl:=Option.some.inj H
 go_enter Tryd.func32,Tryd.ntmps32
 go_wp2_with (first|((with_reducible refine gate_callee (f:=33) rfl ?_);refine goesL_ (some 4) rfl rfl Tryd.func33 (by kernel_rfl) rfl #[.int .i64 a0,.int .i64 12288,.int .i64 23459] rfl (by (try simp only [List.map_toArray,List.map_cons,List.map_nil]);first|done|rfl|(simp only [List.length_drop,List.length_take];rfl)) ?_;(with_reducible refine (impl_in.calls a0 12288 23459 t294 _ A2.out).mono ?_);rintro e w' ⟨rfl,⟨nd,rfl⟩⟩;refine ⟨_,rfl,?_⟩))
 go_ret
 exact ⟨by first|rfl|(simp;done)|(simp [*];done),by repeat (first|exact Drawn0.refl _|apply Drawn0.step)⟩
def impl_isPicture.f (a0:Int):Option (Bool):=(impl_in.f a0 7680 7743).bind fun t295=>(some t295)
set_option maxHeartbeats 8000000 in
set_option maxRecDepth 100000 in
theorem impl_isPicture.calls (a0:Int) (r:Bool) (w:World) (h:impl_isPicture.f a0=some r) :
  Calls Tryd.prog 34 #[.int .i64 a0] w fun e w'=>e = .returned (.bool r)∧Drawn0 w w':=by
 have H:((impl_in.f a0 7680 7743).bind fun t295=>(some t295))=some r:=h
 clear h
 replace H:=Option.bind_eq_some_iff.mp H
 obtain ⟨t295,A20,H⟩:=H
 replace H:(some t295)=some r:=H
 have A2:=Aside0.mk A20
 clear A20
 obtain rfl:=Option.some.inj H
 go_enter Tryd.func34,Tryd.ntmps34
 go_wp2_with (first|((with_reducible refine gate_callee (f:=33) rfl ?_);refine goesL_ (some 4) rfl rfl Tryd.func33 (by kernel_rfl) rfl #[.int .i64 a0,.int .i64 7680,.int .i64 7743] rfl (by (try simp only [List.map_toArray,List.map_cons,List.map_nil]);first|done|rfl|(simp only [List.length_drop,List.length_take];rfl)) ?_;(with_reducible refine (impl_in.calls a0 7680 7743 t295 _ A2.out).mono ?_);rintro e w' ⟨rfl,⟨nd,rfl⟩⟩;refine ⟨_,rfl,?_⟩))
 go_ret
 exact ⟨by first|rfl|(simp;done)|(simp [*];done),by repeat (first|exact Drawn0.refl _|apply Drawn0.step)⟩
def impl_isOpen.f (a0:Int):Option (Bool):=(impl_isSyllable.f a0).bind fun t296=>(if t296=true then (some ((Int.tmod (wrap64 (a0-12288)) 28) == 0)) else (some false))
set_option maxHeartbeats 8000000 in
set_option maxRecDepth 100000 in
theorem impl_isOpen.calls (a0:Int) (r:Bool) (w:World) (h:impl_isOpen.f a0=some r) :
  Calls Tryd.prog 91 #[.int .i64 a0] w fun e w'=>e = .returned (.bool r)∧Drawn0 w w':=by
 have H:((impl_isSyllable.f a0).bind fun t296=>(if t296=true then (some ((Int.tmod (wrap64 (a0-12288)) 28) == 0)) else (some false)))=some r:=h
 clear h
 replace H:=Option.bind_eq_some_iff.mp H
 obtain ⟨t296,A20,H⟩:=H
 replace H:(if t296=true then (some ((Int.tmod (wrap64 (a0-12288)) 28) == 0)) else (some false))=some r:=H
 have A2:=Aside0.mk A20
 clear A20
 by_cases c3:t296=true
 ·
  subst c3
  have H1:(some ((Int.tmod (wrap64 (a0-12288)) 28) == 0))=some r:=by rw [if_pos rfl] at H;exact H
  clear H
  have H:=H1
  clear H1
  obtain rfl:=Option.some.inj H
  go_enter Tryd.func91,Tryd.ntmps91
  go_wp2_with (first|((with_reducible refine gate_callee (f:=32) rfl ?_);refine goesL_ (some 4) rfl rfl Tryd.func32 (by kernel_rfl) rfl #[.int .i64 a0] rfl (by (try simp only [List.map_toArray,List.map_cons,List.map_nil]);first|done|rfl|(simp only [List.length_drop,List.length_take];rfl)) ?_;(with_reducible refine (impl_isSyllable.calls a0 true _ A2.out).mono ?_);rintro e w' ⟨rfl,⟨nd,rfl⟩⟩;refine ⟨_,rfl,?_⟩))
  go_ret
  exact ⟨by first|rfl|(simp;done)|(simp [*];done),by repeat (first|exact Drawn0.refl _|apply Drawn0.step)⟩
 ·
  replace c3:=Bool.eq_false_iff.mpr c3
  subst c3
  have H1:(some false)=some r:=by rw [if_neg (show ¬ (false=true) by decide)] at H;exact H
  clear H
  have H:=H1
  clear H1
  obtain rfl:=Option.some.inj H
  go_enter Tryd.func91,Tryd.ntmps91
  go_wp2_with (first|((with_reducible refine gate_callee (f:=32) rfl ?_);refine goesL_ (some 4) rfl rfl Tryd.func32 (by kernel_rfl) rfl #[.int .i64 a0] rfl (by (try simp only [List.map_toArray,List.map_cons,List.map_nil]);first|done|rfl|(simp only [List.length_drop,List.length_take];rfl)) ?_;(with_reducible refine (impl_isSyllable.calls a0 false _ A2.out).mono ?_);rintro e w' ⟨rfl,⟨nd,rfl⟩⟩;refine ⟨_,rfl,?_⟩))
  go_ret
  exact ⟨by first|rfl|(simp;done)|(simp [*];done),by repeat (first|exact Drawn0.refl _|apply Drawn0.step)⟩
mutual
def impl_charClass.j0:Nat→Int→Bool→Option (Int)
 | 0,_,_=>none
 | k+1,x0,x3=>if x3=true then (some 1) else ((impl_isMark.f k x0).bind fun t298=>(if t298=true then (impl_charClass.j1 k x0 true) else (if x0=7936 then (impl_charClass.j1 k x0 true) else ((impl_in.f x0 7744 7748).bind fun t299=>(impl_charClass.j1 k x0 t299)))))
def impl_charClass.j1:Nat→Int→Bool→Option (Int)
 | 0,_,_=>none
 | k+1,x0,x11=>if x11=true then (some 2) else ((impl_in.f x0 1792 1810).bind fun t300=>(if t300=true then (some 3) else ((impl_in.f x0 1824 1844).bind fun t301=>(if t301=true then (some 4) else ((impl_in.f x0 1857 1883).bind fun t302=>(if t302=true then (some 5) else ((impl_isOpen.f x0).bind fun t303=>(if t303=true then (some 6) else ((impl_isSyllable.f x0).bind fun t304=>(if t304=true then (some 7) else ((impl_isPicture.f x0).bind fun t305=>(if t305=true then (some 8) else ((impl_in.f x0 7760 7785).bind fun t306=>(if t306=true then (some 9) else (some 0)))))))))))))))
end
def impl_charClass.f (k:Nat) (a0:Int):Option (Int):=(impl_Category.f k a0).bind fun t297=>(if t297=1 then (impl_charClass.j0 k a0 true) else (impl_charClass.j0 k a0 (a0 == 7954)))
set_option maxHeartbeats 8000000 in
set_option maxRecDepth 100000 in
theorem impl_charClass.calls (k:Nat) (a0:Int) (r:Int) (w:World) (h:impl_charClass.f k a0=some r) :
  Calls Tryd.prog 98 #[.int .i64 a0] w fun e w'=>e = .returned (.int .i64 r)∧Drawn0 w w':=by
 have H:((impl_Category.f k a0).bind fun t297=>(if t297=1 then (impl_charClass.j0 k a0 true) else (impl_charClass.j0 k a0 (a0 == 7954))))=some r:=h
 clear h
 have HC2:=Aside0.mk H
 clear H
 go_enter Tryd.func98,Tryd.ntmps98
 go_upto_region 1 with (fail)
 go_cut [3] (fun v3 wc=>∃ (kq:Nat) (x3_1:Bool),v3 = .bool x3_1∧Aside0 (impl_charClass.j0 kq a0 x3_1=some r)∧Aside0 (kq≤k)∧Drawn0 w wc)
 case first =>
  have H:=HC2.out
  clear HC2
  replace H:=Option.bind_eq_some_iff.mp H
  obtain ⟨t297,A30,H⟩:=H
  replace H:(if t297=1 then (impl_charClass.j0 k a0 true) else (impl_charClass.j0 k a0 (a0 == 7954)))=some r:=H
  have A3:=Aside0.mk A30
  clear A30
  by_cases c4:t297=1
  ·
   rw [if_pos c4] at H
   have c4b0:(t297 == 1)=true:=beq_iff_eq.mpr c4
   have c4b1:(t297 != 1)=false:=bne_eq_false_iff_eq.mpr c4
   clear c4
   (first|rw [c4b0]|(simp only [i64_w,i32_w];rw [c4b0])|skip)
   have H':=Aside0.mk H
   clear H
   go_wp2_with (first|((with_reducible refine gate_callee (f:=31) rfl ?_);refine goesL_ (some 5) rfl rfl Tryd.func31 (by kernel_rfl) rfl #[.int .i64 a0] rfl (by (try simp only [List.map_toArray,List.map_cons,List.map_nil]);first|done|rfl|(simp only [List.length_drop,List.length_take];rfl)) ?_;(with_reducible refine (impl_Category.calls k a0 t297 _ A3.out).mono ?_);rintro e w' ⟨rfl,⟨nd,rfl⟩⟩;refine ⟨_,rfl,?_⟩))
   go_meet
   case rel=>exact ⟨_,(true),(by first|rfl|(simp;done)|(simp [*];done)),H',⟨by first|omega|exact Nat.le_refl _⟩,by repeat (first|exact Drawn0.refl _|apply Drawn0.step)⟩
  ·
   rw [if_neg c4] at H
   have c4b0:(t297 == 1)=false:=beq_eq_false_iff_ne.mpr c4
   have c4b1:(t297 != 1)=true:=bne_iff_ne.mpr c4
   (first|rw [c4b0]|(simp only [i64_w,i32_w];rw [c4b0])|skip)
   have H':=Aside0.mk H
   clear H
   go_wp2_with (first|((with_reducible refine gate_callee (f:=31) rfl ?_);refine goesL_ (some 5) rfl rfl Tryd.func31 (by kernel_rfl) rfl #[.int .i64 a0] rfl (by (try simp only [List.map_toArray,List.map_cons,List.map_nil]);first|done|rfl|(simp only [List.length_drop,List.length_take];rfl)) ?_;(with_reducible refine (impl_Category.calls k a0 t297 _ A3.out).mono ?_);rintro e w' ⟨rfl,⟨nd,rfl⟩⟩;refine ⟨_,rfl,?_⟩))
   go_meet
   case rel=>exact ⟨_,((a0 == 7954)),(by first|rfl|(simp;done)|(simp [*];done)),H',⟨by first|omega|exact Nat.le_refl _⟩,by repeat (first|exact Drawn0.refl _|apply Drawn0.step)⟩
 case rest =>
  clear HC2
  try clear p2
  try clear c3
  try clear c4
  try clear c4b0
  try clear c4b1
  obtain ⟨kq,x3_1,rfl,HA,HJ1,⟨mc1,rfl⟩⟩:=hcut
  cases kq with
  | zero=>exact absurd HA.out (by simp [impl_charClass.j0])
  | succ kj1 =>
   have H:=HA.out
   clear HA
   simp only [impl_charClass.j0] at H
   by_cases c5:x3_1=true
   ·
    subst c5
    have H1:(some 1)=some r:=by rw [if_pos rfl] at H;exact H
    clear H
    have H:=H1
    clear H1
    obtain rfl:=Option.some.inj H
    go_wp2
    go_ret
    exact ⟨by first|rfl|(simp;done)|(simp [*];done),by repeat (first|exact Drawn0.refl _|apply Drawn0.step)⟩
   ·
    replace c5:=Bool.eq_false_iff.mpr c5
    subst c5
    have H1:((impl_isMark.f kj1 a0).bind fun t298=>(if t298=true then (impl_charClass.j1 kj1 a0 true) else (if a0=7936 then (impl_charClass.j1 kj1 a0 true) else ((impl_in.f a0 7744 7748).bind fun t299=>(impl_charClass.j1 kj1 a0 t299)))))=some r:=by rw [if_neg (show ¬ (false=true) by decide)] at H;exact H
    clear H
    have H:=H1
    clear H1
    have HC6:=Aside0.mk H
    clear H
    go_upto_region 3 with (fail)
    go_cut [11] (fun v11 wc=>∃ (kq:Nat) (x11_5:Bool),v11 = .bool x11_5∧Aside0 (impl_charClass.j1 kq a0 x11_5=some r)∧Aside0 (kq≤kj1)∧Drawn0 w wc)
    case first =>
     have H:=HC6.out
     clear HC6
     replace H:=Option.bind_eq_some_iff.mp H
     obtain ⟨t298,A70,H⟩:=H
     replace H:(if t298=true then (impl_charClass.j1 kj1 a0 true) else (if a0=7936 then (impl_charClass.j1 kj1 a0 true) else ((impl_in.f a0 7744 7748).bind fun t299=>(impl_charClass.j1 kj1 a0 t299))))=some r:=H
     have A7:=Aside0.mk A70
     clear A70
     by_cases c8:t298=true
     ·
      subst c8
      have H1:(impl_charClass.j1 kj1 a0 true)=some r:=by rw [if_pos rfl] at H;exact H
      clear H
      have H:=H1
      clear H1
      have H':=Aside0.mk H
      clear H
      go_wp2_with (first|((with_reducible refine gate_callee (f:=22) rfl ?_);refine goesL_ (some 13) rfl rfl Tryd.func22 (by kernel_rfl) rfl #[.int .i64 a0] rfl (by (try simp only [List.map_toArray,List.map_cons,List.map_nil]);first|done|rfl|(simp only [List.length_drop,List.length_take];rfl)) ?_;(with_reducible refine (impl_isMark.calls kj1 a0 true _ A7.out).mono ?_);rintro e w' ⟨rfl,⟨nd,rfl⟩⟩;refine ⟨_,rfl,?_⟩))
      go_meet
      case rel=>exact ⟨_,(true),(by first|rfl|(simp;done)|(simp [*];done)),H',⟨by have:=HJ1.out;first|omega|exact Nat.le_refl _⟩,by repeat (first|exact Drawn0.refl _|apply Drawn0.step)⟩
     ·
      replace c8:=Bool.eq_false_iff.mpr c8
      subst c8
      have H1:(if a0=7936 then (impl_charClass.j1 kj1 a0 true) else ((impl_in.f a0 7744 7748).bind fun t299=>(impl_charClass.j1 kj1 a0 t299)))=some r:=by rw [if_neg (show ¬ (false=true) by decide)] at H;exact H
      clear H
      have H:=H1
      clear H1
      by_cases c9:a0=7936
      ·
       rw [if_pos c9] at H
       have c9b0:(a0 == 7936)=true:=beq_iff_eq.mpr c9
       have c9b1:(a0 != 7936)=false:=bne_eq_false_iff_eq.mpr c9
       clear c9
       (first|rw [c9b0]|(simp only [i64_w,i32_w];rw [c9b0])|skip)
       have H':=Aside0.mk H
       clear H
       go_wp2_with (first|((with_reducible refine gate_callee (f:=22) rfl ?_);refine goesL_ (some 13) rfl rfl Tryd.func22 (by kernel_rfl) rfl #[.int .i64 a0] rfl (by (try simp only [List.map_toArray,List.map_cons,List.map_nil]);first|done|rfl|(simp only [List.length_drop,List.length_take];rfl)) ?_;(with_reducible refine (impl_isMark.calls kj1 a0 false _ A7.out).mono ?_);rintro e w' ⟨rfl,⟨nd,rfl⟩⟩;refine ⟨_,rfl,?_⟩))
       go_meet
       case rel=>exact ⟨_,(true),(by first|rfl|(simp;done)|(simp [*];done)),H',⟨by have:=HJ1.out;first|omega|exact Nat.le_refl _⟩,by repeat (first|exact Drawn0.refl _|apply Drawn0.step)⟩
      ·
       rw [if_neg c9] at H
       have c9b0:(a0 == 7936)=false:=beq_eq_false_iff_ne.mpr c9
       have c9b1:(a0 != 7936)=true:=bne_iff_ne.mpr c9
       (first|rw [c9b0]|(simp only [i64_w,i32_w];rw [c9b0])|skip)
       replace H:=Option.bind_eq_some_iff.mp H
       obtain ⟨t299,A100,H⟩:=H
       replace H:(impl_charClass.j1 kj1 a0 t299)=some r:=H
       have A10:=Aside0.mk A100
       clear A100
       have H':=Aside0.mk H
       clear H
       go_wp2_with (first|((with_reducible refine gate_callee (f:=22) rfl ?_);refine goesL_ (some 13) rfl rfl Tryd.func22 (by kernel_rfl) rfl #[.int .i64 a0] rfl (by (try simp only [List.map_toArray,List.map_cons,List.map_nil]);first|done|rfl|(simp only [List.length_drop,List.length_take];rfl)) ?_;(with_reducible refine (impl_isMark.calls kj1 a0 false _ A7.out).mono ?_);rintro e w' ⟨rfl,⟨nd,rfl⟩⟩;refine ⟨_,rfl,?_⟩)|(go_at_call 33;(with_reducible refine (impl_in.calls a0 7744 7748 t299 _ A10.out).mono ?_);rintro e w' ⟨rfl,⟨nd,rfl⟩⟩))
       go_meet
       case rel=>exact ⟨_,(t299),(by first|rfl|(simp;done)|(simp [*];done)),H',⟨by have:=HJ1.out;first|omega|exact Nat.le_refl _⟩,by repeat (first|exact Drawn0.refl _|apply Drawn0.step)⟩
    case rest =>
     clear HC6
     try clear c1
     try clear c2
     try clear p2
     try clear c3
     try clear c4
     try clear c4b0
     try clear c4b1
     try clear c5
     try clear c8
     try clear c9
     try clear c9b0
     try clear c9b1
     try clear p2
     obtain ⟨kq,x11_5,rfl,HA,HJ5,⟨mc5,rfl⟩⟩:=hcut
     cases kq with
     | zero=>exact absurd HA.out (by simp [impl_charClass.j1])
     | succ kj5 =>
      have H:=HA.out
      clear HA
      simp only [impl_charClass.j1] at H
      by_cases c11:x11_5=true
      ·
       subst c11
       have H1:(some 2)=some r:=by rw [if_pos rfl] at H;exact H
       clear H
       have H:=H1
       clear H1
       obtain rfl:=Option.some.inj H
       go_wp2
       go_ret
       exact ⟨by first|rfl|(simp;done)|(simp [*];done),by repeat (first|exact Drawn0.refl _|apply Drawn0.step)⟩
      ·
       replace c11:=Bool.eq_false_iff.mpr c11
       subst c11
       have H1:((impl_in.f a0 1792 1810).bind fun t300=>(if t300=true then (some 3) else ((impl_in.f a0 1824 1844).bind fun t301=>(if t301=true then (some 4) else ((impl_in.f a0 1857 1883).bind fun t302=>(if t302=true then (some 5) else ((impl_isOpen.f a0).bind fun t303=>(if t303=true then (some 6) else ((impl_isSyllable.f a0).bind fun t304=>(if t304=true then (some 7) else ((impl_isPicture.f a0).bind fun t305=>(if t305=true then (some 8) else ((impl_in.f a0 7760 7785).bind fun t306=>(if t306=true then (some 9) else (some 0)))))))))))))))=some r:=by rw [if_neg (show ¬ (false=true) by decide)] at H;exact H
       clear H
       have H:=H1
       clear H1
       replace H:=Option.bind_eq_some_iff.mp H
       obtain ⟨t300,A120,H⟩:=H
       replace H:(if t300=true then (some 3) else ((impl_in.f a0 1824 1844).bind fun t301=>(if t301=true then (some 4) else ((impl_in.f a0 1857 1883).bind fun t302=>(if t302=true then (some 5) else ((impl_isOpen.f a0).bind fun t303=>(if t303=true then (some 6) else ((impl_isSyllable.f a0).bind fun t304=>(if t304=true then (some 7) else ((impl_isPicture.f a0).bind fun t305=>(if t305=true then (some 8) else ((impl_in.f a0 7760 7785).bind fun t306=>(if t306=true then (some 9) else (some 0))))))))))))))=some r:=H
       have A12:=Aside0.mk A120
       clear A120
       by_cases c13:t300=true
       ·
        subst c13
        have H1:(some 3)=some r:=by rw [if_pos rfl] at H;exact H
        clear H
        have H:=H1
        clear H1
        obtain rfl:=Option.some.inj H
        go_wp2_with (first|((with_reducible refine gate_callee (f:=33) rfl ?_);refine goesL_ (some 24) rfl rfl Tryd.func33 (by kernel_rfl) rfl #[.int .i64 a0,.int .i64 1792,.int .i64 1810] rfl (by (try simp only [List.map_toArray,List.map_cons,List.map_nil]);first|done|rfl|(simp only [List.length_drop,List.length_take];rfl)) ?_;(with_reducible refine (impl_in.calls a0 1792 1810 true _ A12.out).mono ?_);rintro e w' ⟨rfl,⟨nd,rfl⟩⟩;refine ⟨_,rfl,?_⟩))
        go_ret
        exact ⟨by first|rfl|(simp;done)|(simp [*];done),by repeat (first|exact Drawn0.refl _|apply Drawn0.step)⟩
       ·
        replace c13:=Bool.eq_false_iff.mpr c13
        subst c13
        have H1:((impl_in.f a0 1824 1844).bind fun t301=>(if t301=true then (some 4) else ((impl_in.f a0 1857 1883).bind fun t302=>(if t302=true then (some 5) else ((impl_isOpen.f a0).bind fun t303=>(if t303=true then (some 6) else ((impl_isSyllable.f a0).bind fun t304=>(if t304=true then (some 7) else ((impl_isPicture.f a0).bind fun t305=>(if t305=true then (some 8) else ((impl_in.f a0 7760 7785).bind fun t306=>(if t306=true then (some 9) else (some 0)))))))))))))=some r:=by rw [if_neg (show ¬ (false=true) by decide)] at H;exact H
        clear H
        have H:=H1
        clear H1
        replace H:=Option.bind_eq_some_iff.mp H
        obtain ⟨t301,A140,H⟩:=H
        replace H:(if t301=true then (some 4) else ((impl_in.f a0 1857 1883).bind fun t302=>(if t302=true then (some 5) else ((impl_isOpen.f a0).bind fun t303=>(if t303=true then (some 6) else ((impl_isSyllable.f a0).bind fun t304=>(if t304=true then (some 7) else ((impl_isPicture.f a0).bind fun t305=>(if t305=true then (some 8) else ((impl_in.f a0 7760 7785).bind fun t306=>(if t306=true then (some 9) else (some 0))))))))))))=some r:=H
        have A14:=Aside0.mk A140
        clear A140
        by_cases c15:t301=true
        ·
         subst c15
         have H1:(some 4)=some r:=by rw [if_pos rfl] at H;exact H
         clear H
         have H:=H1
         clear H1
         obtain rfl:=Option.some.inj H
         go_wp2_with (first|((with_reducible refine gate_callee (f:=33) rfl ?_);refine goesL_ (some 24) rfl rfl Tryd.func33 (by kernel_rfl) rfl #[.int .i64 a0,.int .i64 1792,.int .i64 1810] rfl (by (try simp only [List.map_toArray,List.map_cons,List.map_nil]);first|done|rfl|(simp only [List.length_drop,List.length_take];rfl)) ?_;(with_reducible refine (impl_in.calls a0 1792 1810 false _ A12.out).mono ?_);rintro e w' ⟨rfl,⟨nd,rfl⟩⟩;refine ⟨_,rfl,?_⟩)|((with_reducible refine gate_callee (f:=33) rfl ?_);refine goesL_ (some 27) rfl rfl Tryd.func33 (by kernel_rfl) rfl #[.int .i64 a0,.int .i64 1824,.int .i64 1844] rfl (by (try simp only [List.map_toArray,List.map_cons,List.map_nil]);first|done|rfl|(simp only [List.length_drop,List.length_take];rfl)) ?_;(with_reducible refine (impl_in.calls a0 1824 1844 true _ A14.out).mono ?_);rintro e w' ⟨rfl,⟨nd,rfl⟩⟩;refine ⟨_,rfl,?_⟩))
         go_ret
         exact ⟨by first|rfl|(simp;done)|(simp [*];done),by repeat (first|exact Drawn0.refl _|apply Drawn0.step)⟩
        ·
         replace c15:=Bool.eq_false_iff.mpr c15
         subst c15
         have H1:((impl_in.f a0 1857 1883).bind fun t302=>(if t302=true then (some 5) else ((impl_isOpen.f a0).bind fun t303=>(if t303=true then (some 6) else ((impl_isSyllable.f a0).bind fun t304=>(if t304=true then (some 7) else ((impl_isPicture.f a0).bind fun t305=>(if t305=true then (some 8) else ((impl_in.f a0 7760 7785).bind fun t306=>(if t306=true then (some 9) else (some 0)))))))))))=some r:=by rw [if_neg (show ¬ (false=true) by decide)] at H;exact H
         clear H
         have H:=H1
         clear H1
         replace H:=Option.bind_eq_some_iff.mp H
         obtain ⟨t302,A160,H⟩:=H
         replace H:(if t302=true then (some 5) else ((impl_isOpen.f a0).bind fun t303=>(if t303=true then (some 6) else ((impl_isSyllable.f a0).bind fun t304=>(if t304=true then (some 7) else ((impl_isPicture.f a0).bind fun t305=>(if t305=true then (some 8) else ((impl_in.f a0 7760 7785).bind fun t306=>(if t306=true then (some 9) else (some 0))))))))))=some r:=H
         have A16:=Aside0.mk A160
         clear A160
         by_cases c17:t302=true
         ·
          subst c17
          have H1:(some 5)=some r:=by rw [if_pos rfl] at H;exact H
          clear H
          have H:=H1
          clear H1
          obtain rfl:=Option.some.inj H
          go_wp2_with (first|((with_reducible refine gate_callee (f:=33) rfl ?_);refine goesL_ (some 24) rfl rfl Tryd.func33 (by kernel_rfl) rfl #[.int .i64 a0,.int .i64 1792,.int .i64 1810] rfl (by (try simp only [List.map_toArray,List.map_cons,List.map_nil]);first|done|rfl|(simp only [List.length_drop,List.length_take];rfl)) ?_;(with_reducible refine (impl_in.calls a0 1792 1810 false _ A12.out).mono ?_);rintro e w' ⟨rfl,⟨nd,rfl⟩⟩;refine ⟨_,rfl,?_⟩)|((with_reducible refine gate_callee (f:=33) rfl ?_);refine goesL_ (some 27) rfl rfl Tryd.func33 (by kernel_rfl) rfl #[.int .i64 a0,.int .i64 1824,.int .i64 1844] rfl (by (try simp only [List.map_toArray,List.map_cons,List.map_nil]);first|done|rfl|(simp only [List.length_drop,List.length_take];rfl)) ?_;(with_reducible refine (impl_in.calls a0 1824 1844 false _ A14.out).mono ?_);rintro e w' ⟨rfl,⟨nd,rfl⟩⟩;refine ⟨_,rfl,?_⟩)|((with_reducible refine gate_callee (f:=33) rfl ?_);refine goesL_ (some 30) rfl rfl Tryd.func33 (by kernel_rfl) rfl #[.int .i64 a0,.int .i64 1857,.int .i64 1883] rfl (by (try simp only [List.map_toArray,List.map_cons,List.map_nil]);first|done|rfl|(simp only [List.length_drop,List.length_take];rfl)) ?_;(with_reducible refine (impl_in.calls a0 1857 1883 true _ A16.out).mono ?_);rintro e w' ⟨rfl,⟨nd,rfl⟩⟩;refine ⟨_,rfl,?_⟩))
          go_ret
          exact ⟨by first|rfl|(simp;done)|(simp [*];done),by repeat (first|exact Drawn0.refl _|apply Drawn0.step)⟩
         ·
          replace c17:=Bool.eq_false_iff.mpr c17
          subst c17
          have H1:((impl_isOpen.f a0).bind fun t303=>(if t303=true then (some 6) else ((impl_isSyllable.f a0).bind fun t304=>(if t304=true then (some 7) else ((impl_isPicture.f a0).bind fun t305=>(if t305=true then (some 8) else ((impl_in.f a0 7760 7785).bind fun t306=>(if t306=true then (some 9) else (some 0)))))))))=some r:=by rw [if_neg (show ¬ (false=true) by decide)] at H;exact H
          clear H
          have H:=H1
          clear H1
          replace H:=Option.bind_eq_some_iff.mp H
          obtain ⟨t303,A180,H⟩:=H
          replace H:(if t303=true then (some 6) else ((impl_isSyllable.f a0).bind fun t304=>(if t304=true then (some 7) else ((impl_isPicture.f a0).bind fun t305=>(if t305=true then (some 8) else ((impl_in.f a0 7760 7785).bind fun t306=>(if t306=true then (some 9) else (some 0))))))))=some r:=H
          have A18:=Aside0.mk A180
          clear A180
          by_cases c19:t303=true
          ·
           subst c19
           have H1:(some 6)=some r:=by rw [if_pos rfl] at H;exact H
           clear H
           have H:=H1
           clear H1
           obtain rfl:=Option.some.inj H
           go_wp2_with (first|((with_reducible refine gate_callee (f:=33) rfl ?_);refine goesL_ (some 24) rfl rfl Tryd.func33 (by kernel_rfl) rfl #[.int .i64 a0,.int .i64 1792,.int .i64 1810] rfl (by (try simp only [List.map_toArray,List.map_cons,List.map_nil]);first|done|rfl|(simp only [List.length_drop,List.length_take];rfl)) ?_;(with_reducible refine (impl_in.calls a0 1792 1810 false _ A12.out).mono ?_);rintro e w' ⟨rfl,⟨nd,rfl⟩⟩;refine ⟨_,rfl,?_⟩)|((with_reducible refine gate_callee (f:=33) rfl ?_);refine goesL_ (some 27) rfl rfl Tryd.func33 (by kernel_rfl) rfl #[.int .i64 a0,.int .i64 1824,.int .i64 1844] rfl (by (try simp only [List.map_toArray,List.map_cons,List.map_nil]);first|done|rfl|(simp only [List.length_drop,List.length_take];rfl)) ?_;(with_reducible refine (impl_in.calls a0 1824 1844 false _ A14.out).mono ?_);rintro e w' ⟨rfl,⟨nd,rfl⟩⟩;refine ⟨_,rfl,?_⟩)|((with_reducible refine gate_callee (f:=33) rfl ?_);refine goesL_ (some 30) rfl rfl Tryd.func33 (by kernel_rfl) rfl #[.int .i64 a0,.int .i64 1857,.int .i64 1883] rfl (by (try simp only [List.map_toArray,List.map_cons,List.map_nil]);first|done|rfl|(simp only [List.length_drop,List.length_take];rfl)) ?_;(with_reducible refine (impl_in.calls a0 1857 1883 false _ A16.out).mono ?_);rintro e w' ⟨rfl,⟨nd,rfl⟩⟩;refine ⟨_,rfl,?_⟩)|((with_reducible refine gate_callee (f:=91) rfl ?_);refine goesL_ (some 33) rfl rfl Tryd.func91 (by kernel_rfl) rfl #[.int .i64 a0] rfl (by (try simp only [List.map_toArray,List.map_cons,List.map_nil]);first|done|rfl|(simp only [List.length_drop,List.length_take];rfl)) ?_;(with_reducible refine (impl_isOpen.calls a0 true _ A18.out).mono ?_);rintro e w' ⟨rfl,⟨nd,rfl⟩⟩;refine ⟨_,rfl,?_⟩))
           go_ret
           exact ⟨by first|rfl|(simp;done)|(simp [*];done),by repeat (first|exact Drawn0.refl _|apply Drawn0.step)⟩
          ·
           replace c19:=Bool.eq_false_iff.mpr c19
           subst c19
           have H1:((impl_isSyllable.f a0).bind fun t304=>(if t304=true then (some 7) else ((impl_isPicture.f a0).bind fun t305=>(if t305=true then (some 8) else ((impl_in.f a0 7760 7785).bind fun t306=>(if t306=true then (some 9) else (some 0)))))))=some r:=by rw [if_neg (show ¬ (false=true) by decide)] at H;exact H
           clear H
           have H:=H1
           clear H1
           replace H:=Option.bind_eq_some_iff.mp H
           obtain ⟨t304,A200,H⟩:=H
           replace H:(if t304=true then (some 7) else ((impl_isPicture.f a0).bind fun t305=>(if t305=true then (some 8) else ((impl_in.f a0 7760 7785).bind fun t306=>(if t306=true then (some 9) else (some 0))))))=some r:=H
           have A20:=Aside0.mk A200
           clear A200
           by_cases c21:t304=true
           ·
            subst c21
            have H1:(some 7)=some r:=by rw [if_pos rfl] at H;exact H
            clear H
            have H:=H1
            clear H1
            obtain rfl:=Option.some.inj H
            go_wp2_with (first|((with_reducible refine gate_callee (f:=33) rfl ?_);refine goesL_ (some 24) rfl rfl Tryd.func33 (by kernel_rfl) rfl #[.int .i64 a0,.int .i64 1792,.int .i64 1810] rfl (by (try simp only [List.map_toArray,List.map_cons,List.map_nil]);first|done|rfl|(simp only [List.length_drop,List.length_take];rfl)) ?_;(with_reducible refine (impl_in.calls a0 1792 1810 false _ A12.out).mono ?_);rintro e w' ⟨rfl,⟨nd,rfl⟩⟩;refine ⟨_,rfl,?_⟩)|((with_reducible refine gate_callee (f:=33) rfl ?_);refine goesL_ (some 27) rfl rfl Tryd.func33 (by kernel_rfl) rfl #[.int .i64 a0,.int .i64 1824,.int .i64 1844] rfl (by (try simp only [List.map_toArray,List.map_cons,List.map_nil]);first|done|rfl|(simp only [List.length_drop,List.length_take];rfl)) ?_;(with_reducible refine (impl_in.calls a0 1824 1844 false _ A14.out).mono ?_);rintro e w' ⟨rfl,⟨nd,rfl⟩⟩;refine ⟨_,rfl,?_⟩)|((with_reducible refine gate_callee (f:=33) rfl ?_);refine goesL_ (some 30) rfl rfl Tryd.func33 (by kernel_rfl) rfl #[.int .i64 a0,.int .i64 1857,.int .i64 1883] rfl (by (try simp only [List.map_toArray,List.map_cons,List.map_nil]);first|done|rfl|(simp only [List.length_drop,List.length_take];rfl)) ?_;(with_reducible refine (impl_in.calls a0 1857 1883 false _ A16.out).mono ?_);rintro e w' ⟨rfl,⟨nd,rfl⟩⟩;refine ⟨_,rfl,?_⟩)|((with_reducible refine gate_callee (f:=91) rfl ?_);refine goesL_ (some 33) rfl rfl Tryd.func91 (by kernel_rfl) rfl #[.int .i64 a0] rfl (by (try simp only [List.map_toArray,List.map_cons,List.map_nil]);first|done|rfl|(simp only [List.length_drop,List.length_take];rfl)) ?_;(with_reducible refine (impl_isOpen.calls a0 false _ A18.out).mono ?_);rintro e w' ⟨rfl,⟨nd,rfl⟩⟩;refine ⟨_,rfl,?_⟩)|((with_reducible refine gate_callee (f:=32) rfl ?_);refine goesL_ (some 36) rfl rfl Tryd.func32 (by kernel_rfl) rfl #[.int .i64 a0] rfl (by (try simp only [List.map_toArray,List.map_cons,List.map_nil]);first|done|rfl|(simp only [List.length_drop,List.length_take];rfl)) ?_;(with_reducible refine (impl_isSyllable.calls a0 true _ A20.out).mono ?_);rintro e w' ⟨rfl,⟨nd,rfl⟩⟩;refine ⟨_,rfl,?_⟩))
            go_ret
            exact ⟨by first|rfl|(simp;done)|(simp [*];done),by repeat (first|exact Drawn0.refl _|apply Drawn0.step)⟩
           ·
            replace c21:=Bool.eq_false_iff.mpr c21
            subst c21
            have H1:((impl_isPicture.f a0).bind fun t305=>(if t305=true then (some 8) else ((impl_in.f a0 7760 7785).bind fun t306=>(if t306=true then (some 9) else (some 0)))))=some r:=by rw [if_neg (show ¬ (false=true) by decide)] at H;exact H
            clear H
            have H:=H1
            clear H1
            replace H:=Option.bind_eq_some_iff.mp H
            obtain ⟨t305,A220,H⟩:=H
            replace H:(if t305=true then (some 8) else ((impl_in.f a0 7760 7785).bind fun t306=>(if t306=true then (some 9) else (some 0))))=some r:=H
            have A22:=Aside0.mk A220
            clear A220
            by_cases c23:t305=true
            ·
             subst c23
             have H1:(some 8)=some r:=by rw [if_pos rfl] at H;exact H
             clear H
             have H:=H1
             clear H1
             obtain rfl:=Option.some.inj H
             go_wp2_with (first|((with_reducible refine gate_callee (f:=33) rfl ?_);refine goesL_ (some 24) rfl rfl Tryd.func33 (by kernel_rfl) rfl #[.int .i64 a0,.int .i64 1792,.int .i64 1810] rfl (by (try simp only [List.map_toArray,List.map_cons,List.map_nil]);first|done|rfl|(simp only [List.length_drop,List.length_take];rfl)) ?_;(with_reducible refine (impl_in.calls a0 1792 1810 false _ A12.out).mono ?_);rintro e w' ⟨rfl,⟨nd,rfl⟩⟩;refine ⟨_,rfl,?_⟩)|((with_reducible refine gate_callee (f:=33) rfl ?_);refine goesL_ (some 27) rfl rfl Tryd.func33 (by kernel_rfl) rfl #[.int .i64 a0,.int .i64 1824,.int .i64 1844] rfl (by (try simp only [List.map_toArray,List.map_cons,List.map_nil]);first|done|rfl|(simp only [List.length_drop,List.length_take];rfl)) ?_;(with_reducible refine (impl_in.calls a0 1824 1844 false _ A14.out).mono ?_);rintro e w' ⟨rfl,⟨nd,rfl⟩⟩;refine ⟨_,rfl,?_⟩)|((with_reducible refine gate_callee (f:=33) rfl ?_);refine goesL_ (some 30) rfl rfl Tryd.func33 (by kernel_rfl) rfl #[.int .i64 a0,.int .i64 1857,.int .i64 1883] rfl (by (try simp only [List.map_toArray,List.map_cons,List.map_nil]);first|done|rfl|(simp only [List.length_drop,List.length_take];rfl)) ?_;(with_reducible refine (impl_in.calls a0 1857 1883 false _ A16.out).mono ?_);rintro e w' ⟨rfl,⟨nd,rfl⟩⟩;refine ⟨_,rfl,?_⟩)|((with_reducible refine gate_callee (f:=91) rfl ?_);refine goesL_ (some 33) rfl rfl Tryd.func91 (by kernel_rfl) rfl #[.int .i64 a0] rfl (by (try simp only [List.map_toArray,List.map_cons,List.map_nil]);first|done|rfl|(simp only [List.length_drop,List.length_take];rfl)) ?_;(with_reducible refine (impl_isOpen.calls a0 false _ A18.out).mono ?_);rintro e w' ⟨rfl,⟨nd,rfl⟩⟩;refine ⟨_,rfl,?_⟩)|((with_reducible refine gate_callee (f:=32) rfl ?_);refine goesL_ (some 36) rfl rfl Tryd.func32 (by kernel_rfl) rfl #[.int .i64 a0] rfl (by (try simp only [List.map_toArray,List.map_cons,List.map_nil]);first|done|rfl|(simp only [List.length_drop,List.length_take];rfl)) ?_;(with_reducible refine (impl_isSyllable.calls a0 false _ A20.out).mono ?_);rintro e w' ⟨rfl,⟨nd,rfl⟩⟩;refine ⟨_,rfl,?_⟩)|((with_reducible refine gate_callee (f:=34) rfl ?_);refine goesL_ (some 39) rfl rfl Tryd.func34 (by kernel_rfl) rfl #[.int .i64 a0] rfl (by (try simp only [List.map_toArray,List.map_cons,List.map_nil]);first|done|rfl|(simp only [List.length_drop,List.length_take];rfl)) ?_;(with_reducible refine (impl_isPicture.calls a0 true _ A22.out).mono ?_);rintro e w' ⟨rfl,⟨nd,rfl⟩⟩;refine ⟨_,rfl,?_⟩))
             go_ret
             exact ⟨by first|rfl|(simp;done)|(simp [*];done),by repeat (first|exact Drawn0.refl _|apply Drawn0.step)⟩
            ·
             replace c23:=Bool.eq_false_iff.mpr c23
             subst c23
             have H1:((impl_in.f a0 7760 7785).bind fun t306=>(if t306=true then (some 9) else (some 0)))=some r:=by rw [if_neg (show ¬ (false=true) by decide)] at H;exact H
             clear H
             have H:=H1
             clear H1
             replace H:=Option.bind_eq_some_iff.mp H
             obtain ⟨t306,A240,H⟩:=H
             replace H:(if t306=true then (some 9) else (some 0))=some r:=H
             have A24:=Aside0.mk A240
             clear A240
             by_cases c25:t306=true
             ·
              subst c25
              have H1:(some 9)=some r:=by rw [if_pos rfl] at H;exact H
              clear H
              have H:=H1
              clear H1
              obtain rfl:=Option.some.inj H
              go_wp2_with (first|((with_reducible refine gate_callee (f:=33) rfl ?_);refine goesL_ (some 24) rfl rfl Tryd.func33 (by kernel_rfl) rfl #[.int .i64 a0,.int .i64 1792,.int .i64 1810] rfl (by (try simp only [List.map_toArray,List.map_cons,List.map_nil]);first|done|rfl|(simp only [List.length_drop,List.length_take];rfl)) ?_;(with_reducible refine (impl_in.calls a0 1792 1810 false _ A12.out).mono ?_);rintro e w' ⟨rfl,⟨nd,rfl⟩⟩;refine ⟨_,rfl,?_⟩)|((with_reducible refine gate_callee (f:=33) rfl ?_);refine goesL_ (some 27) rfl rfl Tryd.func33 (by kernel_rfl) rfl #[.int .i64 a0,.int .i64 1824,.int .i64 1844] rfl (by (try simp only [List.map_toArray,List.map_cons,List.map_nil]);first|done|rfl|(simp only [List.length_drop,List.length_take];rfl)) ?_;(with_reducible refine (impl_in.calls a0 1824 1844 false _ A14.out).mono ?_);rintro e w' ⟨rfl,⟨nd,rfl⟩⟩;refine ⟨_,rfl,?_⟩)|((with_reducible refine gate_callee (f:=33) rfl ?_);refine goesL_ (some 30) rfl rfl Tryd.func33 (by kernel_rfl) rfl #[.int .i64 a0,.int .i64 1857,.int .i64 1883] rfl (by (try simp only [List.map_toArray,List.map_cons,List.map_nil]);first|done|rfl|(simp only [List.length_drop,List.length_take];rfl)) ?_;(with_reducible refine (impl_in.calls a0 1857 1883 false _ A16.out).mono ?_);rintro e w' ⟨rfl,⟨nd,rfl⟩⟩;refine ⟨_,rfl,?_⟩)|((with_reducible refine gate_callee (f:=91) rfl ?_);refine goesL_ (some 33) rfl rfl Tryd.func91 (by kernel_rfl) rfl #[.int .i64 a0] rfl (by (try simp only [List.map_toArray,List.map_cons,List.map_nil]);first|done|rfl|(simp only [List.length_drop,List.length_take];rfl)) ?_;(with_reducible refine (impl_isOpen.calls a0 false _ A18.out).mono ?_);rintro e w' ⟨rfl,⟨nd,rfl⟩⟩;refine ⟨_,rfl,?_⟩)|((with_reducible refine gate_callee (f:=32) rfl ?_);refine goesL_ (some 36) rfl rfl Tryd.func32 (by kernel_rfl) rfl #[.int .i64 a0] rfl (by (try simp only [List.map_toArray,List.map_cons,List.map_nil]);first|done|rfl|(simp only [List.length_drop,List.length_take];rfl)) ?_;(with_reducible refine (impl_isSyllable.calls a0 false _ A20.out).mono ?_);rintro e w' ⟨rfl,⟨nd,rfl⟩⟩;refine ⟨_,rfl,?_⟩)|((with_reducible refine gate_callee (f:=34) rfl ?_);refine goesL_ (some 39) rfl rfl Tryd.func34 (by kernel_rfl) rfl #[.int .i64 a0] rfl (by (try simp only [List.map_toArray,List.map_cons,List.map_nil]);first|done|rfl|(simp only [List.length_drop,List.length_take];rfl)) ?_;(with_reducible refine (impl_isPicture.calls a0 false _ A22.out).mono ?_);rintro e w' ⟨rfl,⟨nd,rfl⟩⟩;refine ⟨_,rfl,?_⟩)|((with_reducible refine gate_callee (f:=33) rfl ?_);refine goesL_ (some 42) rfl rfl Tryd.func33 (by kernel_rfl) rfl #[.int .i64 a0,.int .i64 7760,.int .i64 7785] rfl (by (try simp only [List.map_toArray,List.map_cons,List.map_nil]);first|done|rfl|(simp only [List.length_drop,List.length_take];rfl)) ?_;(with_reducible refine (impl_in.calls a0 7760 7785 true _ A24.out).mono ?_);rintro e w' ⟨rfl,⟨nd,rfl⟩⟩;refine ⟨_,rfl,?_⟩))
              go_ret
              exact ⟨by first|rfl|(simp;done)|(simp [*];done),by repeat (first|exact Drawn0.refl _|apply Drawn0.step)⟩
             ·
              replace c25:=Bool.eq_false_iff.mpr c25
              subst c25
              have H1:(some 0)=some r:=by rw [if_neg (show ¬ (false=true) by decide)] at H;exact H
              clear H
              have H:=H1
              clear H1
              obtain rfl:=Option.some.inj H
              go_wp2_with (first|((with_reducible refine gate_callee (f:=33) rfl ?_);refine goesL_ (some 24) rfl rfl Tryd.func33 (by kernel_rfl) rfl #[.int .i64 a0,.int .i64 1792,.int .i64 1810] rfl (by (try simp only [List.map_toArray,List.map_cons,List.map_nil]);first|done|rfl|(simp only [List.length_drop,List.length_take];rfl)) ?_;(with_reducible refine (impl_in.calls a0 1792 1810 false _ A12.out).mono ?_);rintro e w' ⟨rfl,⟨nd,rfl⟩⟩;refine ⟨_,rfl,?_⟩)|((with_reducible refine gate_callee (f:=33) rfl ?_);refine goesL_ (some 27) rfl rfl Tryd.func33 (by kernel_rfl) rfl #[.int .i64 a0,.int .i64 1824,.int .i64 1844] rfl (by (try simp only [List.map_toArray,List.map_cons,List.map_nil]);first|done|rfl|(simp only [List.length_drop,List.length_take];rfl)) ?_;(with_reducible refine (impl_in.calls a0 1824 1844 false _ A14.out).mono ?_);rintro e w' ⟨rfl,⟨nd,rfl⟩⟩;refine ⟨_,rfl,?_⟩)|((with_reducible refine gate_callee (f:=33) rfl ?_);refine goesL_ (some 30) rfl rfl Tryd.func33 (by kernel_rfl) rfl #[.int .i64 a0,.int .i64 1857,.int .i64 1883] rfl (by (try simp only [List.map_toArray,List.map_cons,List.map_nil]);first|done|rfl|(simp only [List.length_drop,List.length_take];rfl)) ?_;(with_reducible refine (impl_in.calls a0 1857 1883 false _ A16.out).mono ?_);rintro e w' ⟨rfl,⟨nd,rfl⟩⟩;refine ⟨_,rfl,?_⟩)|((with_reducible refine gate_callee (f:=91) rfl ?_);refine goesL_ (some 33) rfl rfl Tryd.func91 (by kernel_rfl) rfl #[.int .i64 a0] rfl (by (try simp only [List.map_toArray,List.map_cons,List.map_nil]);first|done|rfl|(simp only [List.length_drop,List.length_take];rfl)) ?_;(with_reducible refine (impl_isOpen.calls a0 false _ A18.out).mono ?_);rintro e w' ⟨rfl,⟨nd,rfl⟩⟩;refine ⟨_,rfl,?_⟩)|((with_reducible refine gate_callee (f:=32) rfl ?_);refine goesL_ (some 36) rfl rfl Tryd.func32 (by kernel_rfl) rfl #[.int .i64 a0] rfl (by (try simp only [List.map_toArray,List.map_cons,List.map_nil]);first|done|rfl|(simp only [List.length_drop,List.length_take];rfl)) ?_;(with_reducible refine (impl_isSyllable.calls a0 false _ A20.out).mono ?_);rintro e w' ⟨rfl,⟨nd,rfl⟩⟩;refine ⟨_,rfl,?_⟩)|((with_reducible refine gate_callee (f:=34) rfl ?_);refine goesL_ (some 39) rfl rfl Tryd.func34 (by kernel_rfl) rfl #[.int .i64 a0] rfl (by (try simp only [List.map_toArray,List.map_cons,List.map_nil]);first|done|rfl|(simp only [List.length_drop,List.length_take];rfl)) ?_;(with_reducible refine (impl_isPicture.calls a0 false _ A22.out).mono ?_);rintro e w' ⟨rfl,⟨nd,rfl⟩⟩;refine ⟨_,rfl,?_⟩)|((with_reducible refine gate_callee (f:=33) rfl ?_);refine goesL_ (some 42) rfl rfl Tryd.func33 (by kernel_rfl) rfl #[.int .i64 a0,.int .i64 7760,.int .i64 7785] rfl (by (try simp only [List.map_toArray,List.map_cons,List.map_nil]);first|done|rfl|(simp only [List.length_drop,List.length_take];rfl)) ?_;(with_reducible refine (impl_in.calls a0 7760 7785 false _ A24.out).mono ?_);rintro e w' ⟨rfl,⟨nd,rfl⟩⟩;refine ⟨_,rfl,?_⟩))
              go_ret
              exact ⟨by first|rfl|(simp;done)|(simp [*];done),by repeat (first|exact Drawn0.refl _|apply Drawn0.step)⟩
end Go.Proofs.YtjppikolddklfaaDoor.PW
end
