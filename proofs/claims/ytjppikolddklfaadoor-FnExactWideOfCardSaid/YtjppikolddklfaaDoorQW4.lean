/- Part 4: words, walks of functions, and plain laws of what these compute. (printed by this session's own programs; Lean checks it.) -/
import Derived.Test.YtjppikolddklfaaDoorQW0
import Derived.Test.YtjppikolddklfaaDoorQW1
import Derived.Test.YtjppikolddklfaaDoorQW2
import Derived.Test.YtjppikolddklfaaDoorQW3
import Derived.Lib.Hide
import Derived.Deep.LoopGhost
import Derived.Deep.DeepCutAuto
import Derived.Deep.CutBlock
import Derived.OwnWalk
import Derived.Lib.DecodeN
import Derived.Shelf.Unicode.DecodeSlow
section
namespace Go.Proofs.YtjppikolddklfaaDoor.PW
open Go.RowKit Go.Proofs.YtjppikolddklfaaDoorW.PrintWords Go.Proofs.YtjppikolddklfaaDoorW.PrintLast Go.Proofs.YtjppikolddklfaaDoorW.PrintMore
attribute [local go_sem] max2_int min2_int max_two min_two max_three min_three max_four min_four   
set_option linter.unusedVariables false
set_option linter.unusedSimpArgs false
def cc_cutB (q p c d:Int) (bind pic:Bool) (fl:Int) (inb:Bool):Bool :=
 if (q == 13 && p == 10)=true then false
 else if (c == 1 || d == 1)=true then true
 else if (d == 3 && (c == 3 || c == 4 || c == 6 || c == 7))=true then false
 else if ((d == 4 || d == 6) && (c == 4 || c == 5))=true then false
 else if ((d == 5 || d == 7) && c == 5)=true then false
 else if (c == 2)=true then false
 else if (inb && bind)=true then false
 else if (q == 7936 && c == 8 && pic)=true then false
 else if (c == 9 && d == 9 && Int.tmod fl 2 == 1)=true then false
 else true
def impl_charCuts.l0:Nat→List Int→List Bool→Int→Bool→Bool→Int→Option (List Bool)
 | 0,_,_,_,_,_,_=>none
 | k+1,l,out,i,pic,bnd,fl=>if i<(l.length:Int) then (if 0≤i then ((impl_charClass.f k (rd l i)).bind fun c=>(if i>0 then ((impl_charClass.f k (rd l (i-1))).bind fun d=>(if i<(out.length:Int) then (impl_charCuts.l0 k l (out.set i.toNat (cc_cutB (rd l (i-1)) (rd l i) c d bnd pic fl (decide (1536≤rd l i) && decide (rd l i≤1567)))) (i+1) (if c=2 then pic else (c == 8)) ((rd l i == 1584) || ((rd l i == 1585) && bnd)) (if c=9 then wrap64 (fl+1) else 0)) else (none))) else (impl_charCuts.l0 k l out (i+1) (if c=2 then pic else (c == 8)) ((rd l i == 1584) || ((rd l i == 1585) && bnd)) (if c=9 then wrap64 (fl+1) else 0)))) else (none)) else (some out)
def impl_charCuts.f (k:Nat) (l0:List Int):Option (List Bool):=if l0.length≤35184372088832 then (impl_charCuts.l0 k l0 (List.replicate l0.length false) 0 false false 0) else none
structure cc_Ctx (w0 W:World) (v:Value) (out:List Bool) (bl:List (Nat × TypeId × Value)):Prop where
 R:Kd.R Kd.bool 4 W w0.heap.size (fun k=>∀ x ∈ bl,k≠x.1) v out
 B:Below w0.heap.size w0 W
 c:∀ x ∈ bl,W.heap[x.1]? = some (.cells #[x.2.2] x.2.1 (0,0))
 g:∀ x ∈ bl,w0.heap.size≤x.1
 d:bl.Pairwise (fun x y=>x.1≠y.1)
namespace cc_Ctx
variable {w0 W W1:World} {v:Value} {out:List Bool} {bl bl' : List (Nat × TypeId × Value)}
theorem start (hR:Kd.R Kd.bool 4 W w0.heap.size (fun _=>True) v out) (hB:Below w0.heap.size w0 W):cc_Ctx w0 W v out [] :=
 ⟨Kd.R_mono hR (fun _ _ x hx=>absurd hx (by simp)),hB,by simp,by simp,List.Pairwise.nil⟩
theorem alloc (h:cc_Ctx w0 W v out bl) (t:TypeId) (z:Value):cc_Ctx w0 (W.alloc (.cells #[z] t (0,0))) v out ((W.heap.size,t,z) :: bl) where
 R:=Kd.R_alloc (Kd.R_mono (Kd.R_bound h.R) (fun k hk x hx=>by
  rcases List.mem_cons.1 hx with rfl|hx
  ·
   exact Nat.ne_of_lt hk.2.2.1
  ·
   exact hk.1 x hx)) _
 B:=below_alloc h.B _
 c:=fun x hx=>by
  rcases List.mem_cons.1 hx with rfl|hx
  ·
   exact blk_new W _
  ·
   exact blk_alloc (h.c x hx) _
 g:=fun x hx=>by
  rcases List.mem_cons.1 hx with rfl|hx
  ·
   exact h.B.size
  ·
   exact h.g x hx
 d:=List.Pairwise.cons (fun y hy=>Nat.ne_of_gt (blk_lt (h.c y hy))) h.d
theorem drew (h:cc_Ctx w0 W v out bl) (n:Nat):cc_Ctx w0 (W.drewN n) v out bl :=
 ⟨Kd.R_below h.R (pw_below_drewN (Below.refl _ _) n),pw_below_drewN h.B n,fun x hx=>h.c x hx,h.g,h.d⟩
theorem set {l1 l2:List (Nat × TypeId × Value)} {g:Nat} {t:TypeId} {z:Value} (h:cc_Ctx w0 W v out (l1 ++ (g,t,z) :: l2)) (u:Value):cc_Ctx w0 (W.setCell ⟨g,0,none⟩ u) v out (l1 ++ (g,t,u) :: l2) where
 R:=Kd.R_mono (Kd.R_far h.R (p:=⟨g,0,none⟩) (fun k hk=>hk (g,t,z) (by simp)) u) (fun k hk x hx=>by
  rcases List.mem_append.1 hx with hx|hx
  ·
   exact hk x (List.mem_append.2 (.inl hx))
  ·
   rcases List.mem_cons.1 hx with rfl|hx
   ·
    exact hk (g,t,z) (by simp)
   ·
    exact hk x (by simp [hx]))
 B:=h.B.setCell (p:=⟨g,0,none⟩) (h.g (g,t,z) (by simp)) u
 c:=fun x hx=>by
  have hp:=List.pairwise_append.1 h.d
  rcases List.mem_append.1 hx with hx|hx
  ·
   have hne:x.1≠g:=hp.2.2 x hx (g,t,z) (by simp)
   exact (Below.heap_setCell W ⟨g,0,none⟩ u x.1 hne).trans (h.c x (List.mem_append.2 (.inl hx)))
  ·
   rcases List.mem_cons.1 hx with rfl|hx
   ·
    exact blk_put (h.c (g,t,z) (by simp)) 0 u rfl
   ·
    have hne:x.1≠g:=Ne.symm ((List.pairwise_cons.1 hp.2.1).1 x hx)
    exact (Below.heap_setCell W ⟨g,0,none⟩ u x.1 hne).trans (h.c x (by simp [hx]))
 g:=fun x hx=>by
  rcases List.mem_append.1 hx with hx|hx
  ·
   exact h.g x (List.mem_append.2 (.inl hx))
  ·
   rcases List.mem_cons.1 hx with rfl|hx
   ·
    exact h.g (g,t,z) (by simp)
   ·
    exact h.g x (by simp [hx])
 d:=by
  have hp:=List.pairwise_append.1 h.d
  refine List.pairwise_append.2 ⟨hp.1,List.Pairwise.cons (List.pairwise_cons.1 hp.2.1).1 (List.pairwise_cons.1 hp.2.1).2,fun x hx y hy=>?_⟩
  rcases List.mem_cons.1 hy with rfl|hy
  ·
   exact hp.2.2 x hx (g,t,z) (by simp)
  ·
   exact hp.2.2 x hx y (by simp [hy])
theorem put {go n cap:Nat} (h:cc_Ctx w0 W (.slice (some ⟨go,0,none⟩) n cap) out bl) (i:Int) (b:Bool):cc_Ctx w0 (W.setCell ⟨go,i.toNat,none⟩ (.bool b)) (.slice (some ⟨go,0,none⟩) n cap) (out.set i.toNat b) bl:=by
 have hb:w0.heap.size≤go:=Kd.R_base h.R go rfl
 have hn:=(Kd.R_reads' h.R).1
 subst hn
 exact ⟨(Kd.R_put h.R i b).1,h.B.setCell (p:=⟨go,i.toNat,none⟩) hb _,fun x hx=>(Below.heap_setCell W ⟨go,i.toNat,none⟩ _ x.1 (Ne.symm (h.R.1 go rfl x hx))).trans (h.c x hx),h.g,h.d⟩
theorem less (h:cc_Ctx w0 W v out bl) (hs:bl'.Sublist bl):cc_Ctx w0 W v out bl' :=
 ⟨Kd.R_mono h.R (fun k hk x hx=>hk x (hs.subset hx)),h.B,fun x hx=>h.c x (hs.subset hx),fun x hx=>h.g x (hs.subset hx),h.d.sublist hs⟩
theorem lessn (n:Nat) (h:cc_Ctx w0 W v out bl):cc_Ctx w0 W v out (bl.drop n):=h.less (List.drop_sublist n bl)
theorem cell {g:Nat} {t:TypeId} {z:Value} (h:cc_Ctx w0 W v out bl) (hx:(g,t,z) ∈ bl):W.cell? ⟨g,0,none⟩=some z:=(blk_cell (h.c _ hx) 0).trans rfl
theorem frozen {g:Nat} {t:TypeId} {z:Value} (h:cc_Ctx w0 W v out bl) (hx:(g,t,z) ∈ bl):W.frozen? ⟨g,0,none⟩=false:=blk_frozen (h.c _ hx) 0
end cc_Ctx
section
variable {P:Program} {ops:Array Oper} {rest:List Oper} {o:Oper} {a:Act} {Q:Exit→Act→World→Prop} {w0 W:World} {v:Value} {out:List Bool} {bl:List (Nat × TypeId × Value)}
theorem cc_evA (hC:cc_Ctx w0 W v out bl) (hgd:o.guard=none) {N:Tmp} (_hd:o.dst=some N) (t:TypeId) (z:Value) (hrun:(execOp a.eval o).run P W = .ok (.value (.pointer (some ⟨W.heap.size,0,none⟩))) (W.alloc (.cells #[z] t (0,0))))
  (h:∀ g W1,cc_Ctx w0 W1 v out ((g,t,z) :: bl)→wpList P ops Q rest (a.put o.dst (.pointer (some ⟨g,0,none⟩))) W1):wpList P ops Q (o :: rest) a W :=
 Kd.event_run hgd hrun (h _ _ (hC.alloc t z))
theorem cc_evS {W1:World} (hgd:o.guard=none) {t:TypeId} {p:Tmp} {x:Operand} (_ho:o.op = .store t (.tmp p) x) (hN:o.dst=none) (hrun:(execOp a.eval o).run P W = .ok .skip W1) (h:wpList P ops Q rest a W1):wpList P ops Q (o :: rest) a W:=by
 refine wpList_plain hgd fun K hK=>?_
 unfold Oper.wp
 rw [hrun]
 show K (a.put o.dst undef) W1
 rw [hN]
 exact hK _ _ h
end
set_option maxHeartbeats 4000000 in
set_option maxRecDepth 100000 in
theorem cc_cut99 (q p c d fl:Int) (bind pic:Bool) (aq ap ac ad ab ai af:Addr) (w:World)
  (hq:w.cell? aq=some (.int .i64 q)) (hp:w.cell? ap=some (.int .i64 p)) (hc:w.cell? ac=some (.int .i64 c)) (hd:w.cell? ad=some (.int .i64 d))
  (hb:w.cell? ab=some (.bool bind)) (hi:w.cell? ai=some (.bool pic)) (hf:w.cell? af=some (.int .i64 fl)) (inb:Bool)
  (hin:∀ w,Calls Tryd.prog 33 #[.int .i64 p,.int .i64 1536,.int .i64 1567] w fun e w'=>e = .returned (.bool inb)∧w' = w) :
  Calls Tryd.prog 99 #[.pointer (some aq),.pointer (some ap),.pointer (some ac),.pointer (some ad),.pointer (some ab),.pointer (some ai),.pointer (some af)] w fun e w'=>e = .returned (.bool (cc_cutB q p c d bind pic fl inb))∧w' = w:=by
 go_enter Tryd.func99,Tryd.ntmps99
 go_upto_region 1 with (fail)
 go_cut [8] from 8 to 14 (fun v wc=>v = .bool (q == 13 && p == 10)∧w=wc)
 case first =>
  by_cases h0:(q == 13)=true
  all_goals by_cases h1:(p == 10)=true
  all_goals (go_wp2_with (fail))
  all_goals (go_meet;refine ⟨?_,rfl⟩;first|rfl|(simp_all;done))
 case rest =>
  obtain ⟨rfl,rfl⟩:=hcut
  generalize hx:(q == 13 && p == 10)=x
  have HX0:=Lib.hid hx
  clear hx
  cases x with
  | true =>
   go_wp2
   go_ret
   exact ⟨by unfold cc_cutB;rw [HX0.out,if_pos rfl];rfl,rfl⟩
  | false =>
   go_upto_region 3 with (fail)
   go_cut [15] from 15 to 21 (fun v wc=>v = .bool (c == 1 || d == 1)∧w=wc)
   case first =>
    by_cases h0:(c == 1)=true
    all_goals by_cases h1:(d == 1)=true
    all_goals (go_wp2_with (fail))
    all_goals (go_meet;refine ⟨?_,rfl⟩;first|rfl|(simp_all;done))
   case rest =>
    obtain ⟨rfl,rfl⟩:=hcut
    generalize hx:(c == 1 || d == 1)=x
    have HX1:=Lib.hid hx
    clear hx
    cases x with
    | true =>
     go_wp2
     go_ret
     exact ⟨by unfold cc_cutB;rw [HX0.out,if_neg (by decide)];rw [HX1.out,if_pos rfl];rfl,rfl⟩
    | false =>
     go_upto_region 5 with (fail)
     go_cut [22] from 22 to 40 (fun v wc=>v = .bool (d == 3 && (c == 3 || c == 4 || c == 6 || c == 7))∧w=wc)
     case first =>
      by_cases h0:(d == 3)=true
      all_goals by_cases h1:(c == 3)=true
      all_goals by_cases h2:(c == 4)=true
      all_goals by_cases h3:(c == 6)=true
      all_goals by_cases h4:(c == 7)=true
      all_goals (go_wp2_with (fail))
      all_goals (go_meet;refine ⟨?_,rfl⟩;first|rfl|(simp_all;done))
     case rest =>
      obtain ⟨rfl,rfl⟩:=hcut
      generalize hx:(d == 3 && (c == 3 || c == 4 || c == 6 || c == 7))=x
      have HX2:=Lib.hid hx
      clear hx
      cases x with
      | true =>
       go_wp2
       go_ret
       exact ⟨by unfold cc_cutB;rw [HX0.out,if_neg (by decide)];rw [HX1.out,if_neg (by decide)];rw [HX2.out,if_pos rfl];rfl,rfl⟩
      | false =>
       go_upto_region 7 with (fail)
       go_cut [41] from 41 to 55 (fun v wc=>v = .bool ((d == 4 || d == 6) && (c == 4 || c == 5))∧w=wc)
       case first =>
        by_cases h0:(d == 4)=true
        all_goals by_cases h1:(d == 6)=true
        all_goals by_cases h2:(c == 4)=true
        all_goals by_cases h3:(c == 5)=true
        all_goals (go_wp2_with (fail))
        all_goals (go_meet;refine ⟨?_,rfl⟩;first|rfl|(simp_all;done))
       case rest =>
        obtain ⟨rfl,rfl⟩:=hcut
        generalize hx:((d == 4 || d == 6) && (c == 4 || c == 5))=x
        have HX3:=Lib.hid hx
        clear hx
        cases x with
        | true =>
         go_wp2
         go_ret
         exact ⟨by unfold cc_cutB;rw [HX0.out,if_neg (by decide)];rw [HX1.out,if_neg (by decide)];rw [HX2.out,if_neg (by decide)];rw [HX3.out,if_pos rfl];rfl,rfl⟩
        | false =>
         go_upto_region 9 with (fail)
         go_cut [56] from 56 to 66 (fun v wc=>v = .bool ((d == 5 || d == 7) && c == 5)∧w=wc)
         case first =>
          by_cases h0:(d == 5)=true
          all_goals by_cases h1:(d == 7)=true
          all_goals by_cases h2:(c == 5)=true
          all_goals (go_wp2_with (fail))
          all_goals (go_meet;refine ⟨?_,rfl⟩;first|rfl|(simp_all;done))
         case rest =>
          obtain ⟨rfl,rfl⟩:=hcut
          generalize hx:((d == 5 || d == 7) && c == 5)=x
          have HX4:=Lib.hid hx
          clear hx
          cases x with
          | true =>
           go_wp2
           go_ret
           exact ⟨by unfold cc_cutB;rw [HX0.out,if_neg (by decide)];rw [HX1.out,if_neg (by decide)];rw [HX2.out,if_neg (by decide)];rw [HX3.out,if_neg (by decide)];rw [HX4.out,if_pos rfl];rfl,rfl⟩
          | false =>
           go_upto_region 11 with (fail)
           go_cut [67] from 67 to 69 (fun v wc=>v = .bool (c == 2)∧w=wc)
           case first =>
            by_cases h0:(c == 2)=true
            all_goals (go_wp2_with (fail))
            all_goals (go_meet;refine ⟨?_,rfl⟩;first|rfl|(simp_all;done))
           case rest =>
            obtain ⟨rfl,rfl⟩:=hcut
            generalize hx:(c == 2)=x
            have HX5:=Lib.hid hx
            clear hx
            cases x with
            | true =>
             go_wp2
             go_ret
             exact ⟨by unfold cc_cutB;rw [HX0.out,if_neg (by decide)];rw [HX1.out,if_neg (by decide)];rw [HX2.out,if_neg (by decide)];rw [HX3.out,if_neg (by decide)];rw [HX4.out,if_neg (by decide)];rw [HX5.out,if_pos rfl];rfl,rfl⟩
            | false =>
             go_upto_region 13 with (fail)
             go_cut [70] from 70 to 75 (fun v wc=>v = .bool (inb && bind)∧w=wc)
             case first =>
              by_cases h0:(inb)=true
              all_goals by_cases h1:(bind)=true
              all_goals (go_wp2_with (go_at_call 33;refine (hin _).mono ?_;rintro e w' ⟨rfl,rfl⟩))
              all_goals (go_meet;refine ⟨?_,rfl⟩;first|rfl|(simp_all;done))
             case rest =>
              obtain ⟨rfl,rfl⟩:=hcut
              generalize hx:(inb && bind)=x
              have HX6:=Lib.hid hx
              clear hx
              cases x with
              | true =>
               go_wp2
               go_ret
               exact ⟨by unfold cc_cutB;rw [HX0.out,if_neg (by decide)];rw [HX1.out,if_neg (by decide)];rw [HX2.out,if_neg (by decide)];rw [HX3.out,if_neg (by decide)];rw [HX4.out,if_neg (by decide)];rw [HX5.out,if_neg (by decide)];rw [HX6.out,if_pos rfl];rfl,rfl⟩
              | false =>
               go_upto_region 15 with (fail)
               go_cut [76] from 76 to 85 (fun v wc=>v = .bool (q == 7936 && c == 8 && pic)∧w=wc)
               case first =>
                by_cases h0:(q == 7936)=true
                all_goals by_cases h1:(c == 8)=true
                all_goals by_cases h2:(pic)=true
                all_goals (go_wp2_with (fail))
                all_goals (go_meet;refine ⟨?_,rfl⟩;first|rfl|(simp_all;done))
               case rest =>
                obtain ⟨rfl,rfl⟩:=hcut
                generalize hx:(q == 7936 && c == 8 && pic)=x
                have HX7:=Lib.hid hx
                clear hx
                cases x with
                | true =>
                 go_wp2
                 go_ret
                 exact ⟨by unfold cc_cutB;rw [HX0.out,if_neg (by decide)];rw [HX1.out,if_neg (by decide)];rw [HX2.out,if_neg (by decide)];rw [HX3.out,if_neg (by decide)];rw [HX4.out,if_neg (by decide)];rw [HX5.out,if_neg (by decide)];rw [HX6.out,if_neg (by decide)];rw [HX7.out,if_pos rfl];rfl,rfl⟩
                | false =>
                 go_upto_region 17 with (fail)
                 go_cut [86] from 86 to 97 (fun v wc=>v = .bool (c == 9 && d == 9 && Int.tmod fl 2 == 1)∧w=wc)
                 case first =>
                  by_cases h0:(c == 9)=true
                  all_goals by_cases h1:(d == 9)=true
                  all_goals by_cases h2:(Int.tmod fl 2 == 1)=true
                  all_goals (go_wp2_with (fail))
                  all_goals (go_meet;refine ⟨?_,rfl⟩;first|rfl|(simp_all;done))
                 case rest =>
                  obtain ⟨rfl,rfl⟩:=hcut
                  generalize hx:(c == 9 && d == 9 && Int.tmod fl 2 == 1)=x
                  have HX8:=Lib.hid hx
                  clear hx
                  cases x with
                  | true =>
                   go_wp2
                   go_ret
                   exact ⟨by unfold cc_cutB;rw [HX0.out,if_neg (by decide)];rw [HX1.out,if_neg (by decide)];rw [HX2.out,if_neg (by decide)];rw [HX3.out,if_neg (by decide)];rw [HX4.out,if_neg (by decide)];rw [HX5.out,if_neg (by decide)];rw [HX6.out,if_neg (by decide)];rw [HX7.out,if_neg (by decide)];rw [HX8.out,if_pos rfl];rfl,rfl⟩
                  | false =>
                   go_wp2
                   go_ret
                   exact ⟨by unfold cc_cutB;rw [HX0.out,if_neg (by decide)];rw [HX1.out,if_neg (by decide)];rw [HX2.out,if_neg (by decide)];rw [HX3.out,if_neg (by decide)];rw [HX4.out,if_neg (by decide)];rw [HX5.out,if_neg (by decide)];rw [HX6.out,if_neg (by decide)];rw [HX7.out,if_neg (by decide)];rw [HX8.out,if_neg (by decide)];rfl,rfl⟩
theorem cc_in_quiet (p a b:Int) (w:World):Calls Tryd.prog 33 #[.int .i64 p,.int .i64 a,.int .i64 b] w fun e w'=>e = .returned (.bool (decide (a≤p) && decide (p≤b)))∧w' = w:=by
 by_cases h1:a≤p
 ·
  by_cases h2:p≤b
  ·
   go_enter Tryd.func33,Tryd.ntmps33
   go_wp2
   go_ret
   exact ⟨by simp [h1,h2],rfl⟩
  ·
   have h3:decide (p≤b)=false:=decide_eq_false h2
   go_enter Tryd.func33,Tryd.ntmps33
   go_wp2
   go_ret
   exact ⟨by simp [h1,h2],rfl⟩
 ·
  have h3:decide (a≤p)=false:=decide_eq_false h1
  go_enter Tryd.func33,Tryd.ntmps33
  go_wp2
  go_ret
  exact ⟨by simp [h1],rfl⟩
set_option maxHeartbeats 8000000 in
set_option maxRecDepth 100000 in
theorem impl_charCuts.calls (k:Nat) (A0:Option Addr) (c0:Nat) (l0:List Int) (r:List Bool) (w:World) (hr0:Kd.C (Kd.int .i64) w A0 l0.length l0) (hc0:l0.length≤c0) (h:impl_charCuts.f k l0=some r) :
  Calls Tryd.prog 84 #[.slice A0 l0.length c0] w fun e w'=>∃ v0_:Value,e = .returned (v0_)∧Kd.R Kd.bool 4 w' w.heap.size (fun _=>True) v0_ r∧Below w.heap.size w w':=by
 unfold impl_charCuts.f at h
 by_cases hl:l0.length≤35184372088832
 ·
  rw [if_pos hl] at h
  have HR0:=Aside0.mk hr0
  have hmx:l0.length≤9223372036854775807:=hr0.2.1
  have HL:=Aside0.mk hl
  have H':=Aside0.mk h
  clear hr0 hc0 h hl
  have HB:=Aside0.mk (Below.refl w.heap.size w)
  go_enter Tryd.func84,Tryd.ntmps84
  go_wp2_with (first|((with_reducible refine gate_dst (N:=14) rfl ?_);refine Kd.R_make Kd.bool w.heap.size 4 rfl (N:=14) rfl 72 _ _ rfl (l0.length:Int) rfl rfl Tryd.underlying72 (.bool false) 1 info4 rfl (by decide) (by omega) false (ok:=fun _=>True) (okp:=fun _=>True) rfl (fun _ hk=>hk) trivial (by omega) (by have:=HL.out;omega) HB.out (below_size HB.out) ?_;intro v1 w1 ho hb hg_ hnew_;clear hg_ hnew_;rw [Int.toNat_natCast] at ho;have HC:=Aside0.mk (cc_Ctx.start ho hb);clear HB ho hb)|((with_reducible refine gate_dst (N:=4) rfl ?_);refine cc_evA HC.out rfl (N:=4) rfl 4 (.bool false) ?hr ?_;(case hr=>first|(go_simp;done)|(go_simp;rfl));intro g4 w2 hC;clear HC;have HC:=Aside0.mk hC;clear hC)|((with_reducible refine gate_dst (N:=5) rfl ?_);refine cc_evA HC.out rfl (N:=5) rfl 4 (.bool false) ?hr ?_;(case hr=>first|(go_simp;done)|(go_simp;rfl));intro g5 w3 hC;clear HC;have HC:=Aside0.mk hC;clear hC)|((with_reducible refine gate_dst (N:=6) rfl ?_);refine cc_evA HC.out rfl (N:=6) rfl 3 (.int .i64 0) ?hr ?_;(case hr=>first|(go_simp;done)|(go_simp;rfl));intro g6 w4 hC;clear HC;have HC:=Aside0.mk hC;clear hC;have c4:=HC.out.cell (g:=g4) (t:=4) (z:=.bool false) (by simp);have c5:=HC.out.cell (g:=g5) (t:=4) (z:=.bool false) (by simp);have c6:=HC.out.cell (g:=g6) (t:=3) (z:=.int .i64 0) (by simp);have f4:=HC.out.frozen (g:=g4) (t:=4) (z:=.bool false) (by simp);have f5:=HC.out.frozen (g:=g5) (t:=4) (z:=.bool false) (by simp);have f6:=HC.out.frozen (g:=g6) (t:=3) (z:=.int .i64 0) (by simp))|((with_reducible refine gate_store (t:=4) (p:=4) rfl ?_);refine cc_evS (t:=4) (p:=4) (W1:=w4.setCell ⟨g4,0,none⟩ (.bool false)) rfl rfl rfl ?hr ?_;(case hr=>first|(go_simp;done)|(go_simp;rfl));have hC:=HC.out.set (l1:=[(g6,3,.int .i64 0),(g5,4,.bool false)]) (g:=g4) (t:=4) (z:=.bool false) (l2:=[]) (.bool false);clear HC c4 c5 c6 f4 f5 f6;generalize w4.setCell ⟨g4,0,none⟩ (.bool false)=w5 at hC ⊢;have HC:=Aside0.mk hC;clear hC;have c5:=HC.out.cell (g:=g5) (t:=4) (z:=.bool false) (by simp);have f5:=HC.out.frozen (g:=g5) (t:=4) (z:=.bool false) (by simp))|((with_reducible refine gate_store (t:=4) (p:=5) rfl ?_);refine cc_evS (t:=4) (p:=5) (W1:=w5.setCell ⟨g5,0,none⟩ (.bool false)) rfl rfl rfl ?hr ?_;(case hr=>first|(go_simp;done)|(go_simp;rfl));have hC:=HC.out.set (l1:=[(g6,3,.int .i64 0)]) (g:=g5) (t:=4) (z:=.bool false) (l2:=[(g4,4,.bool false)]) (.bool false);clear HC c5 f5;generalize w5.setCell ⟨g5,0,none⟩ (.bool false)=w6 at hC ⊢;have HC:=Aside0.mk hC;clear hC;have c6:=HC.out.cell (g:=g6) (t:=3) (z:=.int .i64 0) (by simp);have f6:=HC.out.frozen (g:=g6) (t:=3) (z:=.int .i64 0) (by simp))|((with_reducible refine gate_store (t:=3) (p:=6) rfl ?_);refine cc_evS (t:=3) (p:=6) (W1:=w6.setCell ⟨g6,0,none⟩ (.int .i64 0)) rfl rfl rfl ?hr ?_;(case hr=>first|(go_simp;done)|(go_simp;rfl));have hC:=HC.out.set (l1:=[]) (g:=g6) (t:=3) (z:=.int .i64 0) (l2:=[(g5,4,.bool false),(g4,4,.bool false)]) (.int .i64 0);clear HC c6 f6;generalize w6.setCell ⟨g6,0,none⟩ (.int .i64 0)=w7 at hC ⊢;have HC:=Aside0.mk hC;clear hC))
  go_loopg [17] k (fun kq v17 wr=>∃ (i:Nat) (pic bnd:Bool) (fl:Int) (out:List Bool),v17 = .int .i64 i∧i≤l0.length∧Aside0 (impl_charCuts.l0 kq l0 out i pic bnd fl=some r)∧Aside0 (kq≤k)∧Aside0 (cc_Ctx w wr v1 out [(g6,3,.int .i64 fl),(g5,4,.bool bnd),(g4,4,.bool pic)]))
  case atStart=>exact ⟨0,false,false,0,_,rfl,Nat.zero_le _,H',⟨Nat.le_refl _⟩,HC⟩
  case round =>
   clear H' HC
   obtain ⟨i,pic,bnd,fl,out,rfl,hi,HA,HK1,HC⟩:=hrel
   cases gk with
   | zero=>exact absurd HA.out (by simp [impl_charCuts.l0])
   | succ k1 =>
    have H:=HA.out
    clear HA
    simp only [impl_charCuts.l0] at H
    by_cases c1:(i:Int)<(l0.length:Int)
    ·
     rw [if_pos c1,if_pos (by omega)] at H
     have HI:=Aside0.mk hi
     obtain ⟨ad,e_,hx⟩:=Kd.at_int HR0.out (i:Int) (by omega) c1
     subst e_
     rw [Int.toNat_natCast] at hx
     have HXW:=Aside0.mk hx
     replace hx:=(HC.out.B.cell (World.block_lt_of_cell? _ _ hx)).trans hx
     replace H:=Option.bind_eq_some_iff.mp H
     obtain ⟨c,A1,H⟩:=H
     have A1:=Aside0.mk A1
     have c1b:decide ((i:Int)<(l0.length:Int))=true:=decide_eq_true c1
     have q0:(0:Int)≤(i:Int):=by omega
     by_cases c2:(i:Int)>0
     ·
      rw [if_pos c2] at H
      obtain ⟨j,hj⟩:∃ j,i=j+1:=⟨i-1,by omega⟩
      have ej:(i:Int)-1=(j:Int):=by omega
      have ej2:wrap64 ((i:Int)-1)=(j:Int):=by rw [ej];unfold wrap64;omega
      rw [ej] at H
      replace H:=Option.bind_eq_some_iff.mp H
      obtain ⟨d,A2,H⟩:=H
      have A2:=Aside0.mk A2
      by_cases c3:(i:Int)<(out.length:Int)
      ·
       rw [if_pos c3,Int.toNat_natCast] at H
       have H':=Aside0.mk H
       clear H c2
       obtain ⟨go,cap,ev,_,_,_⟩:=Kd.R_form HC.out.R (by omega)
       subst ev
       obtain ⟨ad2,e_,hy⟩:=Kd.at_int HR0.out (j:Int) (by omega) (by omega)
       injection e_ with e_
       subst e_
       rw [Int.toNat_natCast] at hy
       have HYW:=Aside0.mk hy
       replace hy:=(HC.out.B.cell (World.block_lt_of_cell? _ _ hy)).trans hy
       obtain ⟨P,hp⟩:∃ P,rd l0 (i:Int)=P:=⟨_,rfl⟩
       obtain ⟨q,hq⟩:∃ q,rd l0 (j:Int)=q:=⟨_,rfl⟩
       rw [hp] at A1 H' hx HXW
       rw [hq] at A2 H' hy HYW
       clear hp hq
       have c3b:decide (i<out.length)=true:=decide_eq_true (by omega)
       have q1:(0:Int)≤(j:Int):=by omega
       have q2:(j:Int)<(l0.length:Int):=by omega
       have q3:decide (j<l0.length)=true:=decide_eq_true (by omega)
       have c2b:decide (0<i)=true:=decide_eq_true (by omega)
       clear hj
       go_upto_region 7 with (first|((with_reducible refine gate_dst (N:=8) rfl ?_);refine cc_evA HC.out rfl (N:=8) rfl 2 (.int .i64 0) ?hr ?_;(case hr=>first|(go_simp;done)|(go_simp;rfl));intro g8 w8 hC;clear HC;have HC:=Aside0.mk hC;clear hC;have cx:=HC.out.cell (g:=g8) (t:=2) (z:=.int .i64 0) (by simp);have fx:=HC.out.frozen (g:=g8) (t:=2) (z:=.int .i64 0) (by simp))|((with_reducible refine gate_store (t:=2) (p:=8) rfl ?_);refine cc_evS (t:=2) (p:=8) (W1:=w8.setCell ⟨g8,0,none⟩ (.int .i64 P)) rfl rfl rfl ?hr ?_;(case hr=>first|(go_simp;done)|(go_simp;rfl));have hC:=HC.out.set (l1:=[]) (g:=g8) (t:=2) (z:=.int .i64 0) (l2:=[(g6,3,.int .i64 fl),(g5,4,.bool bnd),(g4,4,.bool pic)]) (.int .i64 P);clear HC cx fx;generalize w8.setCell ⟨g8,0,none⟩ (.int .i64 P)=w9 at hC ⊢;have HC:=Aside0.mk hC;clear hC;have c8:=HC.out.cell (g:=g8) (t:=2) (z:=.int .i64 P) (by simp))|(go_at_call 98;refine (impl_charClass.calls k1 P c _ A1.out).mono ?_;rintro e w' ⟨rfl,⟨n,rfl⟩⟩;have hC:=HC.out.drew n;clear HC c8;generalize w9.drewN n=w10 at hC ⊢;have HC:=Aside0.mk hC;clear hC)|((with_reducible refine gate_dst (N:=9) rfl ?_);refine cc_evA HC.out rfl (N:=9) rfl 3 (.int .i64 0) ?hr ?_;(case hr=>first|(go_simp;done)|(go_simp;rfl));intro g9 w11 hC;clear HC;have HC:=Aside0.mk hC;clear hC;have cx:=HC.out.cell (g:=g9) (t:=3) (z:=.int .i64 0) (by simp);have fx:=HC.out.frozen (g:=g9) (t:=3) (z:=.int .i64 0) (by simp))|((with_reducible refine gate_store (t:=3) (p:=9) rfl ?_);refine cc_evS (t:=3) (p:=9) (W1:=w11.setCell ⟨g9,0,none⟩ (.int .i64 c)) rfl rfl rfl ?hr ?_;(case hr=>first|(go_simp;done)|(go_simp;rfl));have hC:=HC.out.set (l1:=[]) (g:=g9) (t:=3) (z:=.int .i64 0) (l2:=[(g8,2,.int .i64 P),(g6,3,.int .i64 fl),(g5,4,.bool bnd),(g4,4,.bool pic)]) (.int .i64 c);clear HC cx fx;generalize w11.setCell ⟨g9,0,none⟩ (.int .i64 c)=w12 at hC ⊢;have HC:=Aside0.mk hC;clear hC;have hy2:=(HC.out.B.cell (World.block_lt_of_cell? _ _ HYW.out)).trans HYW.out))
       go_upto_region 9 with (first|((with_reducible refine gate_dst (N:=10) rfl ?_);refine cc_evA HC.out rfl (N:=10) rfl 2 (.int .i64 0) ?hr ?_;(case hr=>first|(go_simp;done)|(go_simp;rfl));intro g10 w13 hC;clear HC;have HC:=Aside0.mk hC;clear hC;have cx:=HC.out.cell (g:=g10) (t:=2) (z:=.int .i64 0) (by simp);have fx:=HC.out.frozen (g:=g10) (t:=2) (z:=.int .i64 0) (by simp))|((with_reducible refine gate_store (t:=2) (p:=10) rfl ?_);refine cc_evS (t:=2) (p:=10) (W1:=w13.setCell ⟨g10,0,none⟩ (.int .i64 q)) rfl rfl rfl ?hr ?_;(case hr=>first|(go_simp;done)|(go_simp;rfl));have hC:=HC.out.set (l1:=[]) (g:=g10) (t:=2) (z:=.int .i64 0) (l2:=[(g9,3,.int .i64 c),(g8,2,.int .i64 P),(g6,3,.int .i64 fl),(g5,4,.bool bnd),(g4,4,.bool pic)]) (.int .i64 q);clear HC cx fx;generalize w13.setCell ⟨g10,0,none⟩ (.int .i64 q)=w14 at hC ⊢;have HC:=Aside0.mk hC;clear hC;have c10:=HC.out.cell (g:=g10) (t:=2) (z:=.int .i64 q) (by simp)))
       go_upto_region 10 with (first|(go_at_call 98;refine (impl_charClass.calls k1 q d _ A2.out).mono ?_;rintro e w' ⟨rfl,⟨n,rfl⟩⟩;have hC:=HC.out.drew n;clear HC c10;generalize w14.drewN n=w15 at hC ⊢;have HC:=Aside0.mk hC;clear hC)|((with_reducible refine gate_dst (N:=11) rfl ?_);refine cc_evA HC.out rfl (N:=11) rfl 3 (.int .i64 0) ?hr ?_;(case hr=>first|(go_simp;done)|(go_simp;rfl));intro g11 w16 hC;clear HC;have HC:=Aside0.mk hC;clear hC;have cx:=HC.out.cell (g:=g11) (t:=3) (z:=.int .i64 0) (by simp);have fx:=HC.out.frozen (g:=g11) (t:=3) (z:=.int .i64 0) (by simp))|((with_reducible refine gate_store (t:=3) (p:=11) rfl ?_);refine cc_evS (t:=3) (p:=11) (W1:=w16.setCell ⟨g11,0,none⟩ (.int .i64 d)) rfl rfl rfl ?hr ?_;(case hr=>first|(go_simp;done)|(go_simp;rfl));have hC:=HC.out.set (l1:=[]) (g:=g11) (t:=3) (z:=.int .i64 0) (l2:=[(g10,2,.int .i64 q),(g9,3,.int .i64 c),(g8,2,.int .i64 P),(g6,3,.int .i64 fl),(g5,4,.bool bnd),(g4,4,.bool pic)]) (.int .i64 d);clear HC cx fx;generalize w16.setCell ⟨g11,0,none⟩ (.int .i64 d)=w17 at hC ⊢;have HC:=Aside0.mk hC;clear hC))
       have cq:=HC.out.cell (g:=g10) (t:=2) (z:=.int .i64 q) (by simp)
       have cp:=HC.out.cell (g:=g8) (t:=2) (z:=.int .i64 P) (by simp)
       have cc:=HC.out.cell (g:=g9) (t:=3) (z:=.int .i64 c) (by simp)
       have cd:=HC.out.cell (g:=g11) (t:=3) (z:=.int .i64 d) (by simp)
       have c5:=HC.out.cell (g:=g5) (t:=4) (z:=.bool bnd) (by simp)
       have c4:=HC.out.cell (g:=g4) (t:=4) (z:=.bool pic) (by simp)
       have c6:=HC.out.cell (g:=g6) (t:=3) (z:=.int .i64 fl) (by simp)
       obtain ⟨hr1,hr2⟩:=Kd.R_cell false HC.out.R (i:Int) q0 c3
       rw [Int.toNat_natCast] at hr1 hr2
       go_upto_region 11 with (first|(go_at_call 99;refine (cc_cut99 q P c d fl bnd pic _ _ _ _ _ _ _ _ cq cp cc cd c5 c4 c6 _ (fun W=>cc_in_quiet P 1536 1567 W)).mono ?_;rintro e w' ⟨rfl,hw⟩;obtain rfl:=hw.symm)|((with_reducible refine gate_store (t:=4) (p:=37) rfl ?_);refine cc_evS (t:=4) (p:=37) (W1:=w17.setCell ⟨go,i,none⟩ (.bool (cc_cutB q P c d bnd pic fl (decide (1536≤P) && decide (P≤1567))))) rfl rfl rfl ?hr ?_;(case hr=>first|(go_simp;done)|(go_simp;rfl));have hC:=HC.out.put (i:Int) (cc_cutB q P c d bnd pic fl (decide (1536≤P) && decide (P≤1567)));rw [Int.toNat_natCast] at hC;clear HC cq cp cc cd c5 c4 c6 hr1 hr2;generalize w17.setCell ⟨go,i,none⟩ (.bool (cc_cutB q P c d bnd pic fl (decide (1536≤P) && decide (P≤1567))))=w18 at hC ⊢;have HC:=Aside0.mk hC;clear hC))
       have cc:=HC.out.cell (g:=g9) (t:=3) (z:=.int .i64 c) (by simp)
       have c8:=HC.out.cell (g:=g8) (t:=2) (z:=.int .i64 P) (by simp)
       have c6:=HC.out.cell (g:=g6) (t:=3) (z:=.int .i64 fl) (by simp)
       have f6:=HC.out.frozen (g:=g6) (t:=3) (z:=.int .i64 fl) (by simp)
       have c5:=HC.out.cell (g:=g5) (t:=4) (z:=.bool bnd) (by simp)
       have f5:=HC.out.frozen (g:=g5) (t:=4) (z:=.bool bnd) (by simp)
       have c4:=HC.out.cell (g:=g4) (t:=4) (z:=.bool pic) (by simp)
       have f4:=HC.out.frozen (g:=g4) (t:=4) (z:=.bool pic) (by simp)
       by_cases k2:c=2
       ·
        have d2:(c != 2)=false:=by simp [k2]
        have d9:(c == 9)=false:=by simp [k2]
        have d2i:(c=2)=True:=eq_true k2
        have d9i:(c=9)=False:=eq_false (by omega)
        clear k2
        by_cases e1:(P == 1584)=true
        ·
         go_wp2_with (first|((with_reducible refine gate_store (t:=4) (p:=5) rfl ?_);refine cc_evS (t:=4) (p:=5) (W1:=w18.setCell ⟨g5,0,none⟩ (.bool true)) rfl rfl rfl ?hr ?_;(case hr=>first|(go_simp;done)|(go_simp;rfl));have hC:=HC.out.set (l1:=[(g11,3,.int .i64 d),(g10,2,.int .i64 q),(g9,3,.int .i64 c),(g8,2,.int .i64 P),(g6,3,.int .i64 fl)]) (g:=g5) (t:=4) (z:=.bool bnd) (l2:=[(g4,4,.bool pic)]) (.bool true);clear HC cc c8 c4 c5 c6 f4 f5 f6;generalize w18.setCell ⟨g5,0,none⟩ (.bool true)=wb at hC ⊢;have HC:=Aside0.mk hC;clear hC;have cc:=HC.out.cell (g:=g9) (t:=3) (z:=.int .i64 c) (by simp);have c6:=HC.out.cell (g:=g6) (t:=3) (z:=.int .i64 fl) (by simp);have f6:=HC.out.frozen (g:=g6) (t:=3) (z:=.int .i64 fl) (by simp))|((with_reducible refine gate_store (t:=3) (p:=6) rfl ?_);refine cc_evS (t:=3) (p:=6) (W1:=wb.setCell ⟨g6,0,none⟩ (.int .i64 0)) rfl rfl rfl ?hr ?_;(case hr=>first|(go_simp;done)|(go_simp;rfl));have hC:=HC.out.set (l1:=[(g11,3,.int .i64 d),(g10,2,.int .i64 q),(g9,3,.int .i64 c),(g8,2,.int .i64 P)]) (g:=g6) (t:=3) (z:=.int .i64 fl) (l2:=[(g5,4,.bool true),(g4,4,.bool pic)]) (.int .i64 0);clear HC cc c6 f6;generalize wb.setCell ⟨g6,0,none⟩ (.int .i64 0)=wd at hC ⊢;have HC:=Aside0.mk hC;clear hC))
         go_roundg k1
         case measure=>have:=HK1.out;omega
         case rel=>exact ⟨i+1,pic,true,0,(out.set i (cc_cutB q P c d bnd pic fl (decide (1536≤P) && decide (P≤1567)))),(by go_num),(by have:=HI.out;omega),⟨by have h_:=H'.out;simp only [e1,Bool.true_or,Bool.false_or,d2i,d9i,if_true,if_false] at h_;exact h_⟩,⟨by have:=HK1.out;omega⟩,⟨cc_Ctx.lessn 4 HC.out⟩⟩
        ·
         replace e1:(P == 1584)=false:=by simpa using e1
         by_cases e2:(P == 1585)=true
         ·
          go_wp2_with (first|((with_reducible refine gate_store (t:=4) (p:=5) rfl ?_);refine cc_evS (t:=4) (p:=5) (W1:=w18.setCell ⟨g5,0,none⟩ (.bool bnd)) rfl rfl rfl ?hr ?_;(case hr=>first|(go_simp;done)|(go_simp;rfl));have hC:=HC.out.set (l1:=[(g11,3,.int .i64 d),(g10,2,.int .i64 q),(g9,3,.int .i64 c),(g8,2,.int .i64 P),(g6,3,.int .i64 fl)]) (g:=g5) (t:=4) (z:=.bool bnd) (l2:=[(g4,4,.bool pic)]) (.bool bnd);clear HC cc c8 c4 c5 c6 f4 f5 f6;generalize w18.setCell ⟨g5,0,none⟩ (.bool bnd)=wb at hC ⊢;have HC:=Aside0.mk hC;clear hC;have cc:=HC.out.cell (g:=g9) (t:=3) (z:=.int .i64 c) (by simp);have c6:=HC.out.cell (g:=g6) (t:=3) (z:=.int .i64 fl) (by simp);have f6:=HC.out.frozen (g:=g6) (t:=3) (z:=.int .i64 fl) (by simp))|((with_reducible refine gate_store (t:=3) (p:=6) rfl ?_);refine cc_evS (t:=3) (p:=6) (W1:=wb.setCell ⟨g6,0,none⟩ (.int .i64 0)) rfl rfl rfl ?hr ?_;(case hr=>first|(go_simp;done)|(go_simp;rfl));have hC:=HC.out.set (l1:=[(g11,3,.int .i64 d),(g10,2,.int .i64 q),(g9,3,.int .i64 c),(g8,2,.int .i64 P)]) (g:=g6) (t:=3) (z:=.int .i64 fl) (l2:=[(g5,4,.bool bnd),(g4,4,.bool pic)]) (.int .i64 0);clear HC cc c6 f6;generalize wb.setCell ⟨g6,0,none⟩ (.int .i64 0)=wd at hC ⊢;have HC:=Aside0.mk hC;clear hC))
          go_roundg k1
          case measure=>have:=HK1.out;omega
          case rel=>exact ⟨i+1,pic,bnd,0,(out.set i (cc_cutB q P c d bnd pic fl (decide (1536≤P) && decide (P≤1567)))),(by go_num),(by have:=HI.out;omega),⟨by have h_:=H'.out;simp only [e1,Bool.true_or,Bool.false_or,e2,Bool.true_and,Bool.false_and,d2i,d9i,if_true,if_false] at h_;exact h_⟩,⟨by have:=HK1.out;omega⟩,⟨cc_Ctx.lessn 4 HC.out⟩⟩
         ·
          replace e2:(P == 1585)=false:=by simpa using e2
          go_wp2_with (first|((with_reducible refine gate_store (t:=4) (p:=5) rfl ?_);refine cc_evS (t:=4) (p:=5) (W1:=w18.setCell ⟨g5,0,none⟩ (.bool false)) rfl rfl rfl ?hr ?_;(case hr=>first|(go_simp;done)|(go_simp;rfl));have hC:=HC.out.set (l1:=[(g11,3,.int .i64 d),(g10,2,.int .i64 q),(g9,3,.int .i64 c),(g8,2,.int .i64 P),(g6,3,.int .i64 fl)]) (g:=g5) (t:=4) (z:=.bool bnd) (l2:=[(g4,4,.bool pic)]) (.bool false);clear HC cc c8 c4 c5 c6 f4 f5 f6;generalize w18.setCell ⟨g5,0,none⟩ (.bool false)=wb at hC ⊢;have HC:=Aside0.mk hC;clear hC;have cc:=HC.out.cell (g:=g9) (t:=3) (z:=.int .i64 c) (by simp);have c6:=HC.out.cell (g:=g6) (t:=3) (z:=.int .i64 fl) (by simp);have f6:=HC.out.frozen (g:=g6) (t:=3) (z:=.int .i64 fl) (by simp))|((with_reducible refine gate_store (t:=3) (p:=6) rfl ?_);refine cc_evS (t:=3) (p:=6) (W1:=wb.setCell ⟨g6,0,none⟩ (.int .i64 0)) rfl rfl rfl ?hr ?_;(case hr=>first|(go_simp;done)|(go_simp;rfl));have hC:=HC.out.set (l1:=[(g11,3,.int .i64 d),(g10,2,.int .i64 q),(g9,3,.int .i64 c),(g8,2,.int .i64 P)]) (g:=g6) (t:=3) (z:=.int .i64 fl) (l2:=[(g5,4,.bool false),(g4,4,.bool pic)]) (.int .i64 0);clear HC cc c6 f6;generalize wb.setCell ⟨g6,0,none⟩ (.int .i64 0)=wd at hC ⊢;have HC:=Aside0.mk hC;clear hC))
          go_roundg k1
          case measure=>have:=HK1.out;omega
          case rel=>exact ⟨i+1,pic,false,0,(out.set i (cc_cutB q P c d bnd pic fl (decide (1536≤P) && decide (P≤1567)))),(by go_num),(by have:=HI.out;omega),⟨by have h_:=H'.out;simp only [e1,Bool.true_or,Bool.false_or,e2,Bool.true_and,Bool.false_and,d2i,d9i,if_true,if_false] at h_;exact h_⟩,⟨by have:=HK1.out;omega⟩,⟨cc_Ctx.lessn 4 HC.out⟩⟩
       ·
        have d2:(c != 2)=true:=by simp [k2]
        have d2i:(c=2)=False:=eq_false k2
        clear k2
        by_cases k9:c=9
        ·
         have d9:(c == 9)=true:=by simp [k9]
         have d9i:(c=9)=True:=eq_true k9
         clear k9
         by_cases e1:(P == 1584)=true
         ·
          go_wp2_with (first|((with_reducible refine gate_store (t:=4) (p:=4) rfl ?_);refine cc_evS (t:=4) (p:=4) (W1:=w18.setCell ⟨g4,0,none⟩ (.bool (c == 8))) rfl rfl rfl ?hr ?_;(case hr=>first|(go_simp;done)|(go_simp;rfl));have hC:=HC.out.set (l1:=[(g11,3,.int .i64 d),(g10,2,.int .i64 q),(g9,3,.int .i64 c),(g8,2,.int .i64 P),(g6,3,.int .i64 fl),(g5,4,.bool bnd)]) (g:=g4) (t:=4) (z:=.bool pic) (l2:=[]) (.bool (c == 8));clear HC cc c8 c4 c5 c6 f4 f5 f6;generalize w18.setCell ⟨g4,0,none⟩ (.bool (c == 8))=wa at hC ⊢;have HC:=Aside0.mk hC;clear hC;have cc:=HC.out.cell (g:=g9) (t:=3) (z:=.int .i64 c) (by simp);have c8:=HC.out.cell (g:=g8) (t:=2) (z:=.int .i64 P) (by simp);have c4:=HC.out.cell (g:=g4) (t:=4) (z:=.bool (c == 8)) (by simp);have c5:=HC.out.cell (g:=g5) (t:=4) (z:=.bool bnd) (by simp);have c6:=HC.out.cell (g:=g6) (t:=3) (z:=.int .i64 fl) (by simp);have f5:=HC.out.frozen (g:=g5) (t:=4) (z:=.bool bnd) (by simp);have f6:=HC.out.frozen (g:=g6) (t:=3) (z:=.int .i64 fl) (by simp))|((with_reducible refine gate_store (t:=4) (p:=5) rfl ?_);refine cc_evS (t:=4) (p:=5) (W1:=wa.setCell ⟨g5,0,none⟩ (.bool true)) rfl rfl rfl ?hr ?_;(case hr=>first|(go_simp;done)|(go_simp;rfl));have hC:=HC.out.set (l1:=[(g11,3,.int .i64 d),(g10,2,.int .i64 q),(g9,3,.int .i64 c),(g8,2,.int .i64 P),(g6,3,.int .i64 fl)]) (g:=g5) (t:=4) (z:=.bool bnd) (l2:=[(g4,4,.bool (c == 8))]) (.bool true);clear HC cc c8 c4 c5 c6 f5 f6;generalize wa.setCell ⟨g5,0,none⟩ (.bool true)=wb at hC ⊢;have HC:=Aside0.mk hC;clear hC;have cc:=HC.out.cell (g:=g9) (t:=3) (z:=.int .i64 c) (by simp);have c6:=HC.out.cell (g:=g6) (t:=3) (z:=.int .i64 fl) (by simp);have f6:=HC.out.frozen (g:=g6) (t:=3) (z:=.int .i64 fl) (by simp))|((with_reducible refine gate_store (t:=3) (p:=6) rfl ?_);refine cc_evS (t:=3) (p:=6) (W1:=wb.setCell ⟨g6,0,none⟩ (.int .i64 (wrap64 (fl+1)))) rfl rfl rfl ?hr ?_;(case hr=>first|(go_simp;done)|(go_simp;rfl));have hC:=HC.out.set (l1:=[(g11,3,.int .i64 d),(g10,2,.int .i64 q),(g9,3,.int .i64 c),(g8,2,.int .i64 P)]) (g:=g6) (t:=3) (z:=.int .i64 fl) (l2:=[(g5,4,.bool true),(g4,4,.bool (c == 8))]) (.int .i64 (wrap64 (fl+1)));clear HC cc c6 f6;generalize wb.setCell ⟨g6,0,none⟩ (.int .i64 (wrap64 (fl+1)))=wd at hC ⊢;have HC:=Aside0.mk hC;clear hC))
          go_roundg k1
          case measure=>have:=HK1.out;omega
          case rel=>exact ⟨i+1,(c == 8),true,(wrap64 (fl+1)),(out.set i (cc_cutB q P c d bnd pic fl (decide (1536≤P) && decide (P≤1567)))),(by go_num),(by have:=HI.out;omega),⟨by have h_:=H'.out;simp only [e1,Bool.true_or,Bool.false_or,d2i,d9i,if_true,if_false] at h_;exact h_⟩,⟨by have:=HK1.out;omega⟩,⟨cc_Ctx.lessn 4 HC.out⟩⟩
         ·
          replace e1:(P == 1584)=false:=by simpa using e1
          by_cases e2:(P == 1585)=true
          ·
           go_wp2_with (first|((with_reducible refine gate_store (t:=4) (p:=4) rfl ?_);refine cc_evS (t:=4) (p:=4) (W1:=w18.setCell ⟨g4,0,none⟩ (.bool (c == 8))) rfl rfl rfl ?hr ?_;(case hr=>first|(go_simp;done)|(go_simp;rfl));have hC:=HC.out.set (l1:=[(g11,3,.int .i64 d),(g10,2,.int .i64 q),(g9,3,.int .i64 c),(g8,2,.int .i64 P),(g6,3,.int .i64 fl),(g5,4,.bool bnd)]) (g:=g4) (t:=4) (z:=.bool pic) (l2:=[]) (.bool (c == 8));clear HC cc c8 c4 c5 c6 f4 f5 f6;generalize w18.setCell ⟨g4,0,none⟩ (.bool (c == 8))=wa at hC ⊢;have HC:=Aside0.mk hC;clear hC;have cc:=HC.out.cell (g:=g9) (t:=3) (z:=.int .i64 c) (by simp);have c8:=HC.out.cell (g:=g8) (t:=2) (z:=.int .i64 P) (by simp);have c4:=HC.out.cell (g:=g4) (t:=4) (z:=.bool (c == 8)) (by simp);have c5:=HC.out.cell (g:=g5) (t:=4) (z:=.bool bnd) (by simp);have c6:=HC.out.cell (g:=g6) (t:=3) (z:=.int .i64 fl) (by simp);have f5:=HC.out.frozen (g:=g5) (t:=4) (z:=.bool bnd) (by simp);have f6:=HC.out.frozen (g:=g6) (t:=3) (z:=.int .i64 fl) (by simp))|((with_reducible refine gate_store (t:=4) (p:=5) rfl ?_);refine cc_evS (t:=4) (p:=5) (W1:=wa.setCell ⟨g5,0,none⟩ (.bool bnd)) rfl rfl rfl ?hr ?_;(case hr=>first|(go_simp;done)|(go_simp;rfl));have hC:=HC.out.set (l1:=[(g11,3,.int .i64 d),(g10,2,.int .i64 q),(g9,3,.int .i64 c),(g8,2,.int .i64 P),(g6,3,.int .i64 fl)]) (g:=g5) (t:=4) (z:=.bool bnd) (l2:=[(g4,4,.bool (c == 8))]) (.bool bnd);clear HC cc c8 c4 c5 c6 f5 f6;generalize wa.setCell ⟨g5,0,none⟩ (.bool bnd)=wb at hC ⊢;have HC:=Aside0.mk hC;clear hC;have cc:=HC.out.cell (g:=g9) (t:=3) (z:=.int .i64 c) (by simp);have c6:=HC.out.cell (g:=g6) (t:=3) (z:=.int .i64 fl) (by simp);have f6:=HC.out.frozen (g:=g6) (t:=3) (z:=.int .i64 fl) (by simp))|((with_reducible refine gate_store (t:=3) (p:=6) rfl ?_);refine cc_evS (t:=3) (p:=6) (W1:=wb.setCell ⟨g6,0,none⟩ (.int .i64 (wrap64 (fl+1)))) rfl rfl rfl ?hr ?_;(case hr=>first|(go_simp;done)|(go_simp;rfl));have hC:=HC.out.set (l1:=[(g11,3,.int .i64 d),(g10,2,.int .i64 q),(g9,3,.int .i64 c),(g8,2,.int .i64 P)]) (g:=g6) (t:=3) (z:=.int .i64 fl) (l2:=[(g5,4,.bool bnd),(g4,4,.bool (c == 8))]) (.int .i64 (wrap64 (fl+1)));clear HC cc c6 f6;generalize wb.setCell ⟨g6,0,none⟩ (.int .i64 (wrap64 (fl+1)))=wd at hC ⊢;have HC:=Aside0.mk hC;clear hC))
           go_roundg k1
           case measure=>have:=HK1.out;omega
           case rel=>exact ⟨i+1,(c == 8),bnd,(wrap64 (fl+1)),(out.set i (cc_cutB q P c d bnd pic fl (decide (1536≤P) && decide (P≤1567)))),(by go_num),(by have:=HI.out;omega),⟨by have h_:=H'.out;simp only [e1,Bool.true_or,Bool.false_or,e2,Bool.true_and,Bool.false_and,d2i,d9i,if_true,if_false] at h_;exact h_⟩,⟨by have:=HK1.out;omega⟩,⟨cc_Ctx.lessn 4 HC.out⟩⟩
          ·
           replace e2:(P == 1585)=false:=by simpa using e2
           go_wp2_with (first|((with_reducible refine gate_store (t:=4) (p:=4) rfl ?_);refine cc_evS (t:=4) (p:=4) (W1:=w18.setCell ⟨g4,0,none⟩ (.bool (c == 8))) rfl rfl rfl ?hr ?_;(case hr=>first|(go_simp;done)|(go_simp;rfl));have hC:=HC.out.set (l1:=[(g11,3,.int .i64 d),(g10,2,.int .i64 q),(g9,3,.int .i64 c),(g8,2,.int .i64 P),(g6,3,.int .i64 fl),(g5,4,.bool bnd)]) (g:=g4) (t:=4) (z:=.bool pic) (l2:=[]) (.bool (c == 8));clear HC cc c8 c4 c5 c6 f4 f5 f6;generalize w18.setCell ⟨g4,0,none⟩ (.bool (c == 8))=wa at hC ⊢;have HC:=Aside0.mk hC;clear hC;have cc:=HC.out.cell (g:=g9) (t:=3) (z:=.int .i64 c) (by simp);have c8:=HC.out.cell (g:=g8) (t:=2) (z:=.int .i64 P) (by simp);have c4:=HC.out.cell (g:=g4) (t:=4) (z:=.bool (c == 8)) (by simp);have c5:=HC.out.cell (g:=g5) (t:=4) (z:=.bool bnd) (by simp);have c6:=HC.out.cell (g:=g6) (t:=3) (z:=.int .i64 fl) (by simp);have f5:=HC.out.frozen (g:=g5) (t:=4) (z:=.bool bnd) (by simp);have f6:=HC.out.frozen (g:=g6) (t:=3) (z:=.int .i64 fl) (by simp))|((with_reducible refine gate_store (t:=4) (p:=5) rfl ?_);refine cc_evS (t:=4) (p:=5) (W1:=wa.setCell ⟨g5,0,none⟩ (.bool false)) rfl rfl rfl ?hr ?_;(case hr=>first|(go_simp;done)|(go_simp;rfl));have hC:=HC.out.set (l1:=[(g11,3,.int .i64 d),(g10,2,.int .i64 q),(g9,3,.int .i64 c),(g8,2,.int .i64 P),(g6,3,.int .i64 fl)]) (g:=g5) (t:=4) (z:=.bool bnd) (l2:=[(g4,4,.bool (c == 8))]) (.bool false);clear HC cc c8 c4 c5 c6 f5 f6;generalize wa.setCell ⟨g5,0,none⟩ (.bool false)=wb at hC ⊢;have HC:=Aside0.mk hC;clear hC;have cc:=HC.out.cell (g:=g9) (t:=3) (z:=.int .i64 c) (by simp);have c6:=HC.out.cell (g:=g6) (t:=3) (z:=.int .i64 fl) (by simp);have f6:=HC.out.frozen (g:=g6) (t:=3) (z:=.int .i64 fl) (by simp))|((with_reducible refine gate_store (t:=3) (p:=6) rfl ?_);refine cc_evS (t:=3) (p:=6) (W1:=wb.setCell ⟨g6,0,none⟩ (.int .i64 (wrap64 (fl+1)))) rfl rfl rfl ?hr ?_;(case hr=>first|(go_simp;done)|(go_simp;rfl));have hC:=HC.out.set (l1:=[(g11,3,.int .i64 d),(g10,2,.int .i64 q),(g9,3,.int .i64 c),(g8,2,.int .i64 P)]) (g:=g6) (t:=3) (z:=.int .i64 fl) (l2:=[(g5,4,.bool false),(g4,4,.bool (c == 8))]) (.int .i64 (wrap64 (fl+1)));clear HC cc c6 f6;generalize wb.setCell ⟨g6,0,none⟩ (.int .i64 (wrap64 (fl+1)))=wd at hC ⊢;have HC:=Aside0.mk hC;clear hC))
           go_roundg k1
           case measure=>have:=HK1.out;omega
           case rel=>exact ⟨i+1,(c == 8),false,(wrap64 (fl+1)),(out.set i (cc_cutB q P c d bnd pic fl (decide (1536≤P) && decide (P≤1567)))),(by go_num),(by have:=HI.out;omega),⟨by have h_:=H'.out;simp only [e1,Bool.true_or,Bool.false_or,e2,Bool.true_and,Bool.false_and,d2i,d9i,if_true,if_false] at h_;exact h_⟩,⟨by have:=HK1.out;omega⟩,⟨cc_Ctx.lessn 4 HC.out⟩⟩
        ·
         have d9:(c == 9)=false:=by simp [k9]
         have d9i:(c=9)=False:=eq_false k9
         clear k9
         by_cases e1:(P == 1584)=true
         ·
          go_wp2_with (first|((with_reducible refine gate_store (t:=4) (p:=4) rfl ?_);refine cc_evS (t:=4) (p:=4) (W1:=w18.setCell ⟨g4,0,none⟩ (.bool (c == 8))) rfl rfl rfl ?hr ?_;(case hr=>first|(go_simp;done)|(go_simp;rfl));have hC:=HC.out.set (l1:=[(g11,3,.int .i64 d),(g10,2,.int .i64 q),(g9,3,.int .i64 c),(g8,2,.int .i64 P),(g6,3,.int .i64 fl),(g5,4,.bool bnd)]) (g:=g4) (t:=4) (z:=.bool pic) (l2:=[]) (.bool (c == 8));clear HC cc c8 c4 c5 c6 f4 f5 f6;generalize w18.setCell ⟨g4,0,none⟩ (.bool (c == 8))=wa at hC ⊢;have HC:=Aside0.mk hC;clear hC;have cc:=HC.out.cell (g:=g9) (t:=3) (z:=.int .i64 c) (by simp);have c8:=HC.out.cell (g:=g8) (t:=2) (z:=.int .i64 P) (by simp);have c4:=HC.out.cell (g:=g4) (t:=4) (z:=.bool (c == 8)) (by simp);have c5:=HC.out.cell (g:=g5) (t:=4) (z:=.bool bnd) (by simp);have c6:=HC.out.cell (g:=g6) (t:=3) (z:=.int .i64 fl) (by simp);have f5:=HC.out.frozen (g:=g5) (t:=4) (z:=.bool bnd) (by simp);have f6:=HC.out.frozen (g:=g6) (t:=3) (z:=.int .i64 fl) (by simp))|((with_reducible refine gate_store (t:=4) (p:=5) rfl ?_);refine cc_evS (t:=4) (p:=5) (W1:=wa.setCell ⟨g5,0,none⟩ (.bool true)) rfl rfl rfl ?hr ?_;(case hr=>first|(go_simp;done)|(go_simp;rfl));have hC:=HC.out.set (l1:=[(g11,3,.int .i64 d),(g10,2,.int .i64 q),(g9,3,.int .i64 c),(g8,2,.int .i64 P),(g6,3,.int .i64 fl)]) (g:=g5) (t:=4) (z:=.bool bnd) (l2:=[(g4,4,.bool (c == 8))]) (.bool true);clear HC cc c8 c4 c5 c6 f5 f6;generalize wa.setCell ⟨g5,0,none⟩ (.bool true)=wb at hC ⊢;have HC:=Aside0.mk hC;clear hC;have cc:=HC.out.cell (g:=g9) (t:=3) (z:=.int .i64 c) (by simp);have c6:=HC.out.cell (g:=g6) (t:=3) (z:=.int .i64 fl) (by simp);have f6:=HC.out.frozen (g:=g6) (t:=3) (z:=.int .i64 fl) (by simp))|((with_reducible refine gate_store (t:=3) (p:=6) rfl ?_);refine cc_evS (t:=3) (p:=6) (W1:=wb.setCell ⟨g6,0,none⟩ (.int .i64 0)) rfl rfl rfl ?hr ?_;(case hr=>first|(go_simp;done)|(go_simp;rfl));have hC:=HC.out.set (l1:=[(g11,3,.int .i64 d),(g10,2,.int .i64 q),(g9,3,.int .i64 c),(g8,2,.int .i64 P)]) (g:=g6) (t:=3) (z:=.int .i64 fl) (l2:=[(g5,4,.bool true),(g4,4,.bool (c == 8))]) (.int .i64 0);clear HC cc c6 f6;generalize wb.setCell ⟨g6,0,none⟩ (.int .i64 0)=wd at hC ⊢;have HC:=Aside0.mk hC;clear hC))
          go_roundg k1
          case measure=>have:=HK1.out;omega
          case rel=>exact ⟨i+1,(c == 8),true,0,(out.set i (cc_cutB q P c d bnd pic fl (decide (1536≤P) && decide (P≤1567)))),(by go_num),(by have:=HI.out;omega),⟨by have h_:=H'.out;simp only [e1,Bool.true_or,Bool.false_or,d2i,d9i,if_true,if_false] at h_;exact h_⟩,⟨by have:=HK1.out;omega⟩,⟨cc_Ctx.lessn 4 HC.out⟩⟩
         ·
          replace e1:(P == 1584)=false:=by simpa using e1
          by_cases e2:(P == 1585)=true
          ·
           go_wp2_with (first|((with_reducible refine gate_store (t:=4) (p:=4) rfl ?_);refine cc_evS (t:=4) (p:=4) (W1:=w18.setCell ⟨g4,0,none⟩ (.bool (c == 8))) rfl rfl rfl ?hr ?_;(case hr=>first|(go_simp;done)|(go_simp;rfl));have hC:=HC.out.set (l1:=[(g11,3,.int .i64 d),(g10,2,.int .i64 q),(g9,3,.int .i64 c),(g8,2,.int .i64 P),(g6,3,.int .i64 fl),(g5,4,.bool bnd)]) (g:=g4) (t:=4) (z:=.bool pic) (l2:=[]) (.bool (c == 8));clear HC cc c8 c4 c5 c6 f4 f5 f6;generalize w18.setCell ⟨g4,0,none⟩ (.bool (c == 8))=wa at hC ⊢;have HC:=Aside0.mk hC;clear hC;have cc:=HC.out.cell (g:=g9) (t:=3) (z:=.int .i64 c) (by simp);have c8:=HC.out.cell (g:=g8) (t:=2) (z:=.int .i64 P) (by simp);have c4:=HC.out.cell (g:=g4) (t:=4) (z:=.bool (c == 8)) (by simp);have c5:=HC.out.cell (g:=g5) (t:=4) (z:=.bool bnd) (by simp);have c6:=HC.out.cell (g:=g6) (t:=3) (z:=.int .i64 fl) (by simp);have f5:=HC.out.frozen (g:=g5) (t:=4) (z:=.bool bnd) (by simp);have f6:=HC.out.frozen (g:=g6) (t:=3) (z:=.int .i64 fl) (by simp))|((with_reducible refine gate_store (t:=4) (p:=5) rfl ?_);refine cc_evS (t:=4) (p:=5) (W1:=wa.setCell ⟨g5,0,none⟩ (.bool bnd)) rfl rfl rfl ?hr ?_;(case hr=>first|(go_simp;done)|(go_simp;rfl));have hC:=HC.out.set (l1:=[(g11,3,.int .i64 d),(g10,2,.int .i64 q),(g9,3,.int .i64 c),(g8,2,.int .i64 P),(g6,3,.int .i64 fl)]) (g:=g5) (t:=4) (z:=.bool bnd) (l2:=[(g4,4,.bool (c == 8))]) (.bool bnd);clear HC cc c8 c4 c5 c6 f5 f6;generalize wa.setCell ⟨g5,0,none⟩ (.bool bnd)=wb at hC ⊢;have HC:=Aside0.mk hC;clear hC;have cc:=HC.out.cell (g:=g9) (t:=3) (z:=.int .i64 c) (by simp);have c6:=HC.out.cell (g:=g6) (t:=3) (z:=.int .i64 fl) (by simp);have f6:=HC.out.frozen (g:=g6) (t:=3) (z:=.int .i64 fl) (by simp))|((with_reducible refine gate_store (t:=3) (p:=6) rfl ?_);refine cc_evS (t:=3) (p:=6) (W1:=wb.setCell ⟨g6,0,none⟩ (.int .i64 0)) rfl rfl rfl ?hr ?_;(case hr=>first|(go_simp;done)|(go_simp;rfl));have hC:=HC.out.set (l1:=[(g11,3,.int .i64 d),(g10,2,.int .i64 q),(g9,3,.int .i64 c),(g8,2,.int .i64 P)]) (g:=g6) (t:=3) (z:=.int .i64 fl) (l2:=[(g5,4,.bool bnd),(g4,4,.bool (c == 8))]) (.int .i64 0);clear HC cc c6 f6;generalize wb.setCell ⟨g6,0,none⟩ (.int .i64 0)=wd at hC ⊢;have HC:=Aside0.mk hC;clear hC))
           go_roundg k1
           case measure=>have:=HK1.out;omega
           case rel=>exact ⟨i+1,(c == 8),bnd,0,(out.set i (cc_cutB q P c d bnd pic fl (decide (1536≤P) && decide (P≤1567)))),(by go_num),(by have:=HI.out;omega),⟨by have h_:=H'.out;simp only [e1,Bool.true_or,Bool.false_or,e2,Bool.true_and,Bool.false_and,d2i,d9i,if_true,if_false] at h_;exact h_⟩,⟨by have:=HK1.out;omega⟩,⟨cc_Ctx.lessn 4 HC.out⟩⟩
          ·
           replace e2:(P == 1585)=false:=by simpa using e2
           go_wp2_with (first|((with_reducible refine gate_store (t:=4) (p:=4) rfl ?_);refine cc_evS (t:=4) (p:=4) (W1:=w18.setCell ⟨g4,0,none⟩ (.bool (c == 8))) rfl rfl rfl ?hr ?_;(case hr=>first|(go_simp;done)|(go_simp;rfl));have hC:=HC.out.set (l1:=[(g11,3,.int .i64 d),(g10,2,.int .i64 q),(g9,3,.int .i64 c),(g8,2,.int .i64 P),(g6,3,.int .i64 fl),(g5,4,.bool bnd)]) (g:=g4) (t:=4) (z:=.bool pic) (l2:=[]) (.bool (c == 8));clear HC cc c8 c4 c5 c6 f4 f5 f6;generalize w18.setCell ⟨g4,0,none⟩ (.bool (c == 8))=wa at hC ⊢;have HC:=Aside0.mk hC;clear hC;have cc:=HC.out.cell (g:=g9) (t:=3) (z:=.int .i64 c) (by simp);have c8:=HC.out.cell (g:=g8) (t:=2) (z:=.int .i64 P) (by simp);have c4:=HC.out.cell (g:=g4) (t:=4) (z:=.bool (c == 8)) (by simp);have c5:=HC.out.cell (g:=g5) (t:=4) (z:=.bool bnd) (by simp);have c6:=HC.out.cell (g:=g6) (t:=3) (z:=.int .i64 fl) (by simp);have f5:=HC.out.frozen (g:=g5) (t:=4) (z:=.bool bnd) (by simp);have f6:=HC.out.frozen (g:=g6) (t:=3) (z:=.int .i64 fl) (by simp))|((with_reducible refine gate_store (t:=4) (p:=5) rfl ?_);refine cc_evS (t:=4) (p:=5) (W1:=wa.setCell ⟨g5,0,none⟩ (.bool false)) rfl rfl rfl ?hr ?_;(case hr=>first|(go_simp;done)|(go_simp;rfl));have hC:=HC.out.set (l1:=[(g11,3,.int .i64 d),(g10,2,.int .i64 q),(g9,3,.int .i64 c),(g8,2,.int .i64 P),(g6,3,.int .i64 fl)]) (g:=g5) (t:=4) (z:=.bool bnd) (l2:=[(g4,4,.bool (c == 8))]) (.bool false);clear HC cc c8 c4 c5 c6 f5 f6;generalize wa.setCell ⟨g5,0,none⟩ (.bool false)=wb at hC ⊢;have HC:=Aside0.mk hC;clear hC;have cc:=HC.out.cell (g:=g9) (t:=3) (z:=.int .i64 c) (by simp);have c6:=HC.out.cell (g:=g6) (t:=3) (z:=.int .i64 fl) (by simp);have f6:=HC.out.frozen (g:=g6) (t:=3) (z:=.int .i64 fl) (by simp))|((with_reducible refine gate_store (t:=3) (p:=6) rfl ?_);refine cc_evS (t:=3) (p:=6) (W1:=wb.setCell ⟨g6,0,none⟩ (.int .i64 0)) rfl rfl rfl ?hr ?_;(case hr=>first|(go_simp;done)|(go_simp;rfl));have hC:=HC.out.set (l1:=[(g11,3,.int .i64 d),(g10,2,.int .i64 q),(g9,3,.int .i64 c),(g8,2,.int .i64 P)]) (g:=g6) (t:=3) (z:=.int .i64 fl) (l2:=[(g5,4,.bool false),(g4,4,.bool (c == 8))]) (.int .i64 0);clear HC cc c6 f6;generalize wb.setCell ⟨g6,0,none⟩ (.int .i64 0)=wd at hC ⊢;have HC:=Aside0.mk hC;clear hC))
           go_roundg k1
           case measure=>have:=HK1.out;omega
           case rel=>exact ⟨i+1,(c == 8),false,0,(out.set i (cc_cutB q P c d bnd pic fl (decide (1536≤P) && decide (P≤1567)))),(by go_num),(by have:=HI.out;omega),⟨by have h_:=H'.out;simp only [e1,Bool.true_or,Bool.false_or,e2,Bool.true_and,Bool.false_and,d2i,d9i,if_true,if_false] at h_;exact h_⟩,⟨by have:=HK1.out;omega⟩,⟨cc_Ctx.lessn 4 HC.out⟩⟩
      ·
       rw [if_neg c3] at H;cases H
     ·
      rw [if_neg c2] at H
      have c2b:decide (0<i)=false:=decide_eq_false (by omega)
      obtain ⟨P,hp⟩:∃ P,rd l0 (i:Int)=P:=⟨_,rfl⟩
      rw [hp] at A1 H hx HXW
      have H':=Aside0.mk H
      clear H c2 hp
      go_upto_region 11 with (first|((with_reducible refine gate_dst (N:=8) rfl ?_);refine cc_evA HC.out rfl (N:=8) rfl 2 (.int .i64 0) ?hr ?_;(case hr=>first|(go_simp;done)|(go_simp;rfl));intro g8 w8 hC;clear HC;have HC:=Aside0.mk hC;clear hC;have cx:=HC.out.cell (g:=g8) (t:=2) (z:=.int .i64 0) (by simp);have fx:=HC.out.frozen (g:=g8) (t:=2) (z:=.int .i64 0) (by simp))|((with_reducible refine gate_store (t:=2) (p:=8) rfl ?_);refine cc_evS (t:=2) (p:=8) (W1:=w8.setCell ⟨g8,0,none⟩ (.int .i64 P)) rfl rfl rfl ?hr ?_;(case hr=>first|(go_simp;done)|(go_simp;rfl));have hC:=HC.out.set (l1:=[]) (g:=g8) (t:=2) (z:=.int .i64 0) (l2:=[(g6,3,.int .i64 fl),(g5,4,.bool bnd),(g4,4,.bool pic)]) (.int .i64 P);clear HC cx fx;generalize w8.setCell ⟨g8,0,none⟩ (.int .i64 P)=w9 at hC ⊢;have HC:=Aside0.mk hC;clear hC;have c8:=HC.out.cell (g:=g8) (t:=2) (z:=.int .i64 P) (by simp))|(go_at_call 98;refine (impl_charClass.calls k1 P c _ A1.out).mono ?_;rintro e w' ⟨rfl,⟨n,rfl⟩⟩;have hC:=HC.out.drew n;clear HC c8;generalize w9.drewN n=w10 at hC ⊢;have HC:=Aside0.mk hC;clear hC)|((with_reducible refine gate_dst (N:=9) rfl ?_);refine cc_evA HC.out rfl (N:=9) rfl 3 (.int .i64 0) ?hr ?_;(case hr=>first|(go_simp;done)|(go_simp;rfl));intro g9 w11 hC;clear HC;have HC:=Aside0.mk hC;clear hC;have cx:=HC.out.cell (g:=g9) (t:=3) (z:=.int .i64 0) (by simp);have fx:=HC.out.frozen (g:=g9) (t:=3) (z:=.int .i64 0) (by simp))|((with_reducible refine gate_store (t:=3) (p:=9) rfl ?_);refine cc_evS (t:=3) (p:=9) (W1:=w11.setCell ⟨g9,0,none⟩ (.int .i64 c)) rfl rfl rfl ?hr ?_;(case hr=>first|(go_simp;done)|(go_simp;rfl));have hC:=HC.out.set (l1:=[]) (g:=g9) (t:=3) (z:=.int .i64 0) (l2:=[(g8,2,.int .i64 P),(g6,3,.int .i64 fl),(g5,4,.bool bnd),(g4,4,.bool pic)]) (.int .i64 c);clear HC cx fx;generalize w11.setCell ⟨g9,0,none⟩ (.int .i64 c)=w12 at hC ⊢;have HC:=Aside0.mk hC;clear hC))
      have cc:=HC.out.cell (g:=g9) (t:=3) (z:=.int .i64 c) (by simp)
      have c8:=HC.out.cell (g:=g8) (t:=2) (z:=.int .i64 P) (by simp)
      have c6:=HC.out.cell (g:=g6) (t:=3) (z:=.int .i64 fl) (by simp)
      have f6:=HC.out.frozen (g:=g6) (t:=3) (z:=.int .i64 fl) (by simp)
      have c5:=HC.out.cell (g:=g5) (t:=4) (z:=.bool bnd) (by simp)
      have f5:=HC.out.frozen (g:=g5) (t:=4) (z:=.bool bnd) (by simp)
      have c4:=HC.out.cell (g:=g4) (t:=4) (z:=.bool pic) (by simp)
      have f4:=HC.out.frozen (g:=g4) (t:=4) (z:=.bool pic) (by simp)
      by_cases k2:c=2
      ·
       have d2:(c != 2)=false:=by simp [k2]
       have d9:(c == 9)=false:=by simp [k2]
       have d2i:(c=2)=True:=eq_true k2
       have d9i:(c=9)=False:=eq_false (by omega)
       clear k2
       by_cases e1:(P == 1584)=true
       ·
        go_wp2_with (first|((with_reducible refine gate_store (t:=4) (p:=5) rfl ?_);refine cc_evS (t:=4) (p:=5) (W1:=w12.setCell ⟨g5,0,none⟩ (.bool true)) rfl rfl rfl ?hr ?_;(case hr=>first|(go_simp;done)|(go_simp;rfl));have hC:=HC.out.set (l1:=[(g9,3,.int .i64 c),(g8,2,.int .i64 P),(g6,3,.int .i64 fl)]) (g:=g5) (t:=4) (z:=.bool bnd) (l2:=[(g4,4,.bool pic)]) (.bool true);clear HC cc c8 c4 c5 c6 f4 f5 f6;generalize w12.setCell ⟨g5,0,none⟩ (.bool true)=wb at hC ⊢;have HC:=Aside0.mk hC;clear hC;have cc:=HC.out.cell (g:=g9) (t:=3) (z:=.int .i64 c) (by simp);have c6:=HC.out.cell (g:=g6) (t:=3) (z:=.int .i64 fl) (by simp);have f6:=HC.out.frozen (g:=g6) (t:=3) (z:=.int .i64 fl) (by simp))|((with_reducible refine gate_store (t:=3) (p:=6) rfl ?_);refine cc_evS (t:=3) (p:=6) (W1:=wb.setCell ⟨g6,0,none⟩ (.int .i64 0)) rfl rfl rfl ?hr ?_;(case hr=>first|(go_simp;done)|(go_simp;rfl));have hC:=HC.out.set (l1:=[(g9,3,.int .i64 c),(g8,2,.int .i64 P)]) (g:=g6) (t:=3) (z:=.int .i64 fl) (l2:=[(g5,4,.bool true),(g4,4,.bool pic)]) (.int .i64 0);clear HC cc c6 f6;generalize wb.setCell ⟨g6,0,none⟩ (.int .i64 0)=wd at hC ⊢;have HC:=Aside0.mk hC;clear hC))
        go_roundg k1
        case measure=>have:=HK1.out;omega
        case rel=>exact ⟨i+1,pic,true,0,out,(by go_num),(by have:=HI.out;omega),⟨by have h_:=H'.out;simp only [e1,Bool.true_or,Bool.false_or,d2i,d9i,if_true,if_false] at h_;exact h_⟩,⟨by have:=HK1.out;omega⟩,⟨cc_Ctx.lessn 2 HC.out⟩⟩
       ·
        replace e1:(P == 1584)=false:=by simpa using e1
        by_cases e2:(P == 1585)=true
        ·
         go_wp2_with (first|((with_reducible refine gate_store (t:=4) (p:=5) rfl ?_);refine cc_evS (t:=4) (p:=5) (W1:=w12.setCell ⟨g5,0,none⟩ (.bool bnd)) rfl rfl rfl ?hr ?_;(case hr=>first|(go_simp;done)|(go_simp;rfl));have hC:=HC.out.set (l1:=[(g9,3,.int .i64 c),(g8,2,.int .i64 P),(g6,3,.int .i64 fl)]) (g:=g5) (t:=4) (z:=.bool bnd) (l2:=[(g4,4,.bool pic)]) (.bool bnd);clear HC cc c8 c4 c5 c6 f4 f5 f6;generalize w12.setCell ⟨g5,0,none⟩ (.bool bnd)=wb at hC ⊢;have HC:=Aside0.mk hC;clear hC;have cc:=HC.out.cell (g:=g9) (t:=3) (z:=.int .i64 c) (by simp);have c6:=HC.out.cell (g:=g6) (t:=3) (z:=.int .i64 fl) (by simp);have f6:=HC.out.frozen (g:=g6) (t:=3) (z:=.int .i64 fl) (by simp))|((with_reducible refine gate_store (t:=3) (p:=6) rfl ?_);refine cc_evS (t:=3) (p:=6) (W1:=wb.setCell ⟨g6,0,none⟩ (.int .i64 0)) rfl rfl rfl ?hr ?_;(case hr=>first|(go_simp;done)|(go_simp;rfl));have hC:=HC.out.set (l1:=[(g9,3,.int .i64 c),(g8,2,.int .i64 P)]) (g:=g6) (t:=3) (z:=.int .i64 fl) (l2:=[(g5,4,.bool bnd),(g4,4,.bool pic)]) (.int .i64 0);clear HC cc c6 f6;generalize wb.setCell ⟨g6,0,none⟩ (.int .i64 0)=wd at hC ⊢;have HC:=Aside0.mk hC;clear hC))
         go_roundg k1
         case measure=>have:=HK1.out;omega
         case rel=>exact ⟨i+1,pic,bnd,0,out,(by go_num),(by have:=HI.out;omega),⟨by have h_:=H'.out;simp only [e1,Bool.true_or,Bool.false_or,e2,Bool.true_and,Bool.false_and,d2i,d9i,if_true,if_false] at h_;exact h_⟩,⟨by have:=HK1.out;omega⟩,⟨cc_Ctx.lessn 2 HC.out⟩⟩
        ·
         replace e2:(P == 1585)=false:=by simpa using e2
         go_wp2_with (first|((with_reducible refine gate_store (t:=4) (p:=5) rfl ?_);refine cc_evS (t:=4) (p:=5) (W1:=w12.setCell ⟨g5,0,none⟩ (.bool false)) rfl rfl rfl ?hr ?_;(case hr=>first|(go_simp;done)|(go_simp;rfl));have hC:=HC.out.set (l1:=[(g9,3,.int .i64 c),(g8,2,.int .i64 P),(g6,3,.int .i64 fl)]) (g:=g5) (t:=4) (z:=.bool bnd) (l2:=[(g4,4,.bool pic)]) (.bool false);clear HC cc c8 c4 c5 c6 f4 f5 f6;generalize w12.setCell ⟨g5,0,none⟩ (.bool false)=wb at hC ⊢;have HC:=Aside0.mk hC;clear hC;have cc:=HC.out.cell (g:=g9) (t:=3) (z:=.int .i64 c) (by simp);have c6:=HC.out.cell (g:=g6) (t:=3) (z:=.int .i64 fl) (by simp);have f6:=HC.out.frozen (g:=g6) (t:=3) (z:=.int .i64 fl) (by simp))|((with_reducible refine gate_store (t:=3) (p:=6) rfl ?_);refine cc_evS (t:=3) (p:=6) (W1:=wb.setCell ⟨g6,0,none⟩ (.int .i64 0)) rfl rfl rfl ?hr ?_;(case hr=>first|(go_simp;done)|(go_simp;rfl));have hC:=HC.out.set (l1:=[(g9,3,.int .i64 c),(g8,2,.int .i64 P)]) (g:=g6) (t:=3) (z:=.int .i64 fl) (l2:=[(g5,4,.bool false),(g4,4,.bool pic)]) (.int .i64 0);clear HC cc c6 f6;generalize wb.setCell ⟨g6,0,none⟩ (.int .i64 0)=wd at hC ⊢;have HC:=Aside0.mk hC;clear hC))
         go_roundg k1
         case measure=>have:=HK1.out;omega
         case rel=>exact ⟨i+1,pic,false,0,out,(by go_num),(by have:=HI.out;omega),⟨by have h_:=H'.out;simp only [e1,Bool.true_or,Bool.false_or,e2,Bool.true_and,Bool.false_and,d2i,d9i,if_true,if_false] at h_;exact h_⟩,⟨by have:=HK1.out;omega⟩,⟨cc_Ctx.lessn 2 HC.out⟩⟩
      ·
       have d2:(c != 2)=true:=by simp [k2]
       have d2i:(c=2)=False:=eq_false k2
       clear k2
       by_cases k9:c=9
       ·
        have d9:(c == 9)=true:=by simp [k9]
        have d9i:(c=9)=True:=eq_true k9
        clear k9
        by_cases e1:(P == 1584)=true
        ·
         go_wp2_with (first|((with_reducible refine gate_store (t:=4) (p:=4) rfl ?_);refine cc_evS (t:=4) (p:=4) (W1:=w12.setCell ⟨g4,0,none⟩ (.bool (c == 8))) rfl rfl rfl ?hr ?_;(case hr=>first|(go_simp;done)|(go_simp;rfl));have hC:=HC.out.set (l1:=[(g9,3,.int .i64 c),(g8,2,.int .i64 P),(g6,3,.int .i64 fl),(g5,4,.bool bnd)]) (g:=g4) (t:=4) (z:=.bool pic) (l2:=[]) (.bool (c == 8));clear HC cc c8 c4 c5 c6 f4 f5 f6;generalize w12.setCell ⟨g4,0,none⟩ (.bool (c == 8))=wa at hC ⊢;have HC:=Aside0.mk hC;clear hC;have cc:=HC.out.cell (g:=g9) (t:=3) (z:=.int .i64 c) (by simp);have c8:=HC.out.cell (g:=g8) (t:=2) (z:=.int .i64 P) (by simp);have c4:=HC.out.cell (g:=g4) (t:=4) (z:=.bool (c == 8)) (by simp);have c5:=HC.out.cell (g:=g5) (t:=4) (z:=.bool bnd) (by simp);have c6:=HC.out.cell (g:=g6) (t:=3) (z:=.int .i64 fl) (by simp);have f5:=HC.out.frozen (g:=g5) (t:=4) (z:=.bool bnd) (by simp);have f6:=HC.out.frozen (g:=g6) (t:=3) (z:=.int .i64 fl) (by simp))|((with_reducible refine gate_store (t:=4) (p:=5) rfl ?_);refine cc_evS (t:=4) (p:=5) (W1:=wa.setCell ⟨g5,0,none⟩ (.bool true)) rfl rfl rfl ?hr ?_;(case hr=>first|(go_simp;done)|(go_simp;rfl));have hC:=HC.out.set (l1:=[(g9,3,.int .i64 c),(g8,2,.int .i64 P),(g6,3,.int .i64 fl)]) (g:=g5) (t:=4) (z:=.bool bnd) (l2:=[(g4,4,.bool (c == 8))]) (.bool true);clear HC cc c8 c4 c5 c6 f5 f6;generalize wa.setCell ⟨g5,0,none⟩ (.bool true)=wb at hC ⊢;have HC:=Aside0.mk hC;clear hC;have cc:=HC.out.cell (g:=g9) (t:=3) (z:=.int .i64 c) (by simp);have c6:=HC.out.cell (g:=g6) (t:=3) (z:=.int .i64 fl) (by simp);have f6:=HC.out.frozen (g:=g6) (t:=3) (z:=.int .i64 fl) (by simp))|((with_reducible refine gate_store (t:=3) (p:=6) rfl ?_);refine cc_evS (t:=3) (p:=6) (W1:=wb.setCell ⟨g6,0,none⟩ (.int .i64 (wrap64 (fl+1)))) rfl rfl rfl ?hr ?_;(case hr=>first|(go_simp;done)|(go_simp;rfl));have hC:=HC.out.set (l1:=[(g9,3,.int .i64 c),(g8,2,.int .i64 P)]) (g:=g6) (t:=3) (z:=.int .i64 fl) (l2:=[(g5,4,.bool true),(g4,4,.bool (c == 8))]) (.int .i64 (wrap64 (fl+1)));clear HC cc c6 f6;generalize wb.setCell ⟨g6,0,none⟩ (.int .i64 (wrap64 (fl+1)))=wd at hC ⊢;have HC:=Aside0.mk hC;clear hC))
         go_roundg k1
         case measure=>have:=HK1.out;omega
         case rel=>exact ⟨i+1,(c == 8),true,(wrap64 (fl+1)),out,(by go_num),(by have:=HI.out;omega),⟨by have h_:=H'.out;simp only [e1,Bool.true_or,Bool.false_or,d2i,d9i,if_true,if_false] at h_;exact h_⟩,⟨by have:=HK1.out;omega⟩,⟨cc_Ctx.lessn 2 HC.out⟩⟩
        ·
         replace e1:(P == 1584)=false:=by simpa using e1
         by_cases e2:(P == 1585)=true
         ·
          go_wp2_with (first|((with_reducible refine gate_store (t:=4) (p:=4) rfl ?_);refine cc_evS (t:=4) (p:=4) (W1:=w12.setCell ⟨g4,0,none⟩ (.bool (c == 8))) rfl rfl rfl ?hr ?_;(case hr=>first|(go_simp;done)|(go_simp;rfl));have hC:=HC.out.set (l1:=[(g9,3,.int .i64 c),(g8,2,.int .i64 P),(g6,3,.int .i64 fl),(g5,4,.bool bnd)]) (g:=g4) (t:=4) (z:=.bool pic) (l2:=[]) (.bool (c == 8));clear HC cc c8 c4 c5 c6 f4 f5 f6;generalize w12.setCell ⟨g4,0,none⟩ (.bool (c == 8))=wa at hC ⊢;have HC:=Aside0.mk hC;clear hC;have cc:=HC.out.cell (g:=g9) (t:=3) (z:=.int .i64 c) (by simp);have c8:=HC.out.cell (g:=g8) (t:=2) (z:=.int .i64 P) (by simp);have c4:=HC.out.cell (g:=g4) (t:=4) (z:=.bool (c == 8)) (by simp);have c5:=HC.out.cell (g:=g5) (t:=4) (z:=.bool bnd) (by simp);have c6:=HC.out.cell (g:=g6) (t:=3) (z:=.int .i64 fl) (by simp);have f5:=HC.out.frozen (g:=g5) (t:=4) (z:=.bool bnd) (by simp);have f6:=HC.out.frozen (g:=g6) (t:=3) (z:=.int .i64 fl) (by simp))|((with_reducible refine gate_store (t:=4) (p:=5) rfl ?_);refine cc_evS (t:=4) (p:=5) (W1:=wa.setCell ⟨g5,0,none⟩ (.bool bnd)) rfl rfl rfl ?hr ?_;(case hr=>first|(go_simp;done)|(go_simp;rfl));have hC:=HC.out.set (l1:=[(g9,3,.int .i64 c),(g8,2,.int .i64 P),(g6,3,.int .i64 fl)]) (g:=g5) (t:=4) (z:=.bool bnd) (l2:=[(g4,4,.bool (c == 8))]) (.bool bnd);clear HC cc c8 c4 c5 c6 f5 f6;generalize wa.setCell ⟨g5,0,none⟩ (.bool bnd)=wb at hC ⊢;have HC:=Aside0.mk hC;clear hC;have cc:=HC.out.cell (g:=g9) (t:=3) (z:=.int .i64 c) (by simp);have c6:=HC.out.cell (g:=g6) (t:=3) (z:=.int .i64 fl) (by simp);have f6:=HC.out.frozen (g:=g6) (t:=3) (z:=.int .i64 fl) (by simp))|((with_reducible refine gate_store (t:=3) (p:=6) rfl ?_);refine cc_evS (t:=3) (p:=6) (W1:=wb.setCell ⟨g6,0,none⟩ (.int .i64 (wrap64 (fl+1)))) rfl rfl rfl ?hr ?_;(case hr=>first|(go_simp;done)|(go_simp;rfl));have hC:=HC.out.set (l1:=[(g9,3,.int .i64 c),(g8,2,.int .i64 P)]) (g:=g6) (t:=3) (z:=.int .i64 fl) (l2:=[(g5,4,.bool bnd),(g4,4,.bool (c == 8))]) (.int .i64 (wrap64 (fl+1)));clear HC cc c6 f6;generalize wb.setCell ⟨g6,0,none⟩ (.int .i64 (wrap64 (fl+1)))=wd at hC ⊢;have HC:=Aside0.mk hC;clear hC))
          go_roundg k1
          case measure=>have:=HK1.out;omega
          case rel=>exact ⟨i+1,(c == 8),bnd,(wrap64 (fl+1)),out,(by go_num),(by have:=HI.out;omega),⟨by have h_:=H'.out;simp only [e1,Bool.true_or,Bool.false_or,e2,Bool.true_and,Bool.false_and,d2i,d9i,if_true,if_false] at h_;exact h_⟩,⟨by have:=HK1.out;omega⟩,⟨cc_Ctx.lessn 2 HC.out⟩⟩
         ·
          replace e2:(P == 1585)=false:=by simpa using e2
          go_wp2_with (first|((with_reducible refine gate_store (t:=4) (p:=4) rfl ?_);refine cc_evS (t:=4) (p:=4) (W1:=w12.setCell ⟨g4,0,none⟩ (.bool (c == 8))) rfl rfl rfl ?hr ?_;(case hr=>first|(go_simp;done)|(go_simp;rfl));have hC:=HC.out.set (l1:=[(g9,3,.int .i64 c),(g8,2,.int .i64 P),(g6,3,.int .i64 fl),(g5,4,.bool bnd)]) (g:=g4) (t:=4) (z:=.bool pic) (l2:=[]) (.bool (c == 8));clear HC cc c8 c4 c5 c6 f4 f5 f6;generalize w12.setCell ⟨g4,0,none⟩ (.bool (c == 8))=wa at hC ⊢;have HC:=Aside0.mk hC;clear hC;have cc:=HC.out.cell (g:=g9) (t:=3) (z:=.int .i64 c) (by simp);have c8:=HC.out.cell (g:=g8) (t:=2) (z:=.int .i64 P) (by simp);have c4:=HC.out.cell (g:=g4) (t:=4) (z:=.bool (c == 8)) (by simp);have c5:=HC.out.cell (g:=g5) (t:=4) (z:=.bool bnd) (by simp);have c6:=HC.out.cell (g:=g6) (t:=3) (z:=.int .i64 fl) (by simp);have f5:=HC.out.frozen (g:=g5) (t:=4) (z:=.bool bnd) (by simp);have f6:=HC.out.frozen (g:=g6) (t:=3) (z:=.int .i64 fl) (by simp))|((with_reducible refine gate_store (t:=4) (p:=5) rfl ?_);refine cc_evS (t:=4) (p:=5) (W1:=wa.setCell ⟨g5,0,none⟩ (.bool false)) rfl rfl rfl ?hr ?_;(case hr=>first|(go_simp;done)|(go_simp;rfl));have hC:=HC.out.set (l1:=[(g9,3,.int .i64 c),(g8,2,.int .i64 P),(g6,3,.int .i64 fl)]) (g:=g5) (t:=4) (z:=.bool bnd) (l2:=[(g4,4,.bool (c == 8))]) (.bool false);clear HC cc c8 c4 c5 c6 f5 f6;generalize wa.setCell ⟨g5,0,none⟩ (.bool false)=wb at hC ⊢;have HC:=Aside0.mk hC;clear hC;have cc:=HC.out.cell (g:=g9) (t:=3) (z:=.int .i64 c) (by simp);have c6:=HC.out.cell (g:=g6) (t:=3) (z:=.int .i64 fl) (by simp);have f6:=HC.out.frozen (g:=g6) (t:=3) (z:=.int .i64 fl) (by simp))|((with_reducible refine gate_store (t:=3) (p:=6) rfl ?_);refine cc_evS (t:=3) (p:=6) (W1:=wb.setCell ⟨g6,0,none⟩ (.int .i64 (wrap64 (fl+1)))) rfl rfl rfl ?hr ?_;(case hr=>first|(go_simp;done)|(go_simp;rfl));have hC:=HC.out.set (l1:=[(g9,3,.int .i64 c),(g8,2,.int .i64 P)]) (g:=g6) (t:=3) (z:=.int .i64 fl) (l2:=[(g5,4,.bool false),(g4,4,.bool (c == 8))]) (.int .i64 (wrap64 (fl+1)));clear HC cc c6 f6;generalize wb.setCell ⟨g6,0,none⟩ (.int .i64 (wrap64 (fl+1)))=wd at hC ⊢;have HC:=Aside0.mk hC;clear hC))
          go_roundg k1
          case measure=>have:=HK1.out;omega
          case rel=>exact ⟨i+1,(c == 8),false,(wrap64 (fl+1)),out,(by go_num),(by have:=HI.out;omega),⟨by have h_:=H'.out;simp only [e1,Bool.true_or,Bool.false_or,e2,Bool.true_and,Bool.false_and,d2i,d9i,if_true,if_false] at h_;exact h_⟩,⟨by have:=HK1.out;omega⟩,⟨cc_Ctx.lessn 2 HC.out⟩⟩
       ·
        have d9:(c == 9)=false:=by simp [k9]
        have d9i:(c=9)=False:=eq_false k9
        clear k9
        by_cases e1:(P == 1584)=true
        ·
         go_wp2_with (first|((with_reducible refine gate_store (t:=4) (p:=4) rfl ?_);refine cc_evS (t:=4) (p:=4) (W1:=w12.setCell ⟨g4,0,none⟩ (.bool (c == 8))) rfl rfl rfl ?hr ?_;(case hr=>first|(go_simp;done)|(go_simp;rfl));have hC:=HC.out.set (l1:=[(g9,3,.int .i64 c),(g8,2,.int .i64 P),(g6,3,.int .i64 fl),(g5,4,.bool bnd)]) (g:=g4) (t:=4) (z:=.bool pic) (l2:=[]) (.bool (c == 8));clear HC cc c8 c4 c5 c6 f4 f5 f6;generalize w12.setCell ⟨g4,0,none⟩ (.bool (c == 8))=wa at hC ⊢;have HC:=Aside0.mk hC;clear hC;have cc:=HC.out.cell (g:=g9) (t:=3) (z:=.int .i64 c) (by simp);have c8:=HC.out.cell (g:=g8) (t:=2) (z:=.int .i64 P) (by simp);have c4:=HC.out.cell (g:=g4) (t:=4) (z:=.bool (c == 8)) (by simp);have c5:=HC.out.cell (g:=g5) (t:=4) (z:=.bool bnd) (by simp);have c6:=HC.out.cell (g:=g6) (t:=3) (z:=.int .i64 fl) (by simp);have f5:=HC.out.frozen (g:=g5) (t:=4) (z:=.bool bnd) (by simp);have f6:=HC.out.frozen (g:=g6) (t:=3) (z:=.int .i64 fl) (by simp))|((with_reducible refine gate_store (t:=4) (p:=5) rfl ?_);refine cc_evS (t:=4) (p:=5) (W1:=wa.setCell ⟨g5,0,none⟩ (.bool true)) rfl rfl rfl ?hr ?_;(case hr=>first|(go_simp;done)|(go_simp;rfl));have hC:=HC.out.set (l1:=[(g9,3,.int .i64 c),(g8,2,.int .i64 P),(g6,3,.int .i64 fl)]) (g:=g5) (t:=4) (z:=.bool bnd) (l2:=[(g4,4,.bool (c == 8))]) (.bool true);clear HC cc c8 c4 c5 c6 f5 f6;generalize wa.setCell ⟨g5,0,none⟩ (.bool true)=wb at hC ⊢;have HC:=Aside0.mk hC;clear hC;have cc:=HC.out.cell (g:=g9) (t:=3) (z:=.int .i64 c) (by simp);have c6:=HC.out.cell (g:=g6) (t:=3) (z:=.int .i64 fl) (by simp);have f6:=HC.out.frozen (g:=g6) (t:=3) (z:=.int .i64 fl) (by simp))|((with_reducible refine gate_store (t:=3) (p:=6) rfl ?_);refine cc_evS (t:=3) (p:=6) (W1:=wb.setCell ⟨g6,0,none⟩ (.int .i64 0)) rfl rfl rfl ?hr ?_;(case hr=>first|(go_simp;done)|(go_simp;rfl));have hC:=HC.out.set (l1:=[(g9,3,.int .i64 c),(g8,2,.int .i64 P)]) (g:=g6) (t:=3) (z:=.int .i64 fl) (l2:=[(g5,4,.bool true),(g4,4,.bool (c == 8))]) (.int .i64 0);clear HC cc c6 f6;generalize wb.setCell ⟨g6,0,none⟩ (.int .i64 0)=wd at hC ⊢;have HC:=Aside0.mk hC;clear hC))
         go_roundg k1
         case measure=>have:=HK1.out;omega
         case rel=>exact ⟨i+1,(c == 8),true,0,out,(by go_num),(by have:=HI.out;omega),⟨by have h_:=H'.out;simp only [e1,Bool.true_or,Bool.false_or,d2i,d9i,if_true,if_false] at h_;exact h_⟩,⟨by have:=HK1.out;omega⟩,⟨cc_Ctx.lessn 2 HC.out⟩⟩
        ·
         replace e1:(P == 1584)=false:=by simpa using e1
         by_cases e2:(P == 1585)=true
         ·
          go_wp2_with (first|((with_reducible refine gate_store (t:=4) (p:=4) rfl ?_);refine cc_evS (t:=4) (p:=4) (W1:=w12.setCell ⟨g4,0,none⟩ (.bool (c == 8))) rfl rfl rfl ?hr ?_;(case hr=>first|(go_simp;done)|(go_simp;rfl));have hC:=HC.out.set (l1:=[(g9,3,.int .i64 c),(g8,2,.int .i64 P),(g6,3,.int .i64 fl),(g5,4,.bool bnd)]) (g:=g4) (t:=4) (z:=.bool pic) (l2:=[]) (.bool (c == 8));clear HC cc c8 c4 c5 c6 f4 f5 f6;generalize w12.setCell ⟨g4,0,none⟩ (.bool (c == 8))=wa at hC ⊢;have HC:=Aside0.mk hC;clear hC;have cc:=HC.out.cell (g:=g9) (t:=3) (z:=.int .i64 c) (by simp);have c8:=HC.out.cell (g:=g8) (t:=2) (z:=.int .i64 P) (by simp);have c4:=HC.out.cell (g:=g4) (t:=4) (z:=.bool (c == 8)) (by simp);have c5:=HC.out.cell (g:=g5) (t:=4) (z:=.bool bnd) (by simp);have c6:=HC.out.cell (g:=g6) (t:=3) (z:=.int .i64 fl) (by simp);have f5:=HC.out.frozen (g:=g5) (t:=4) (z:=.bool bnd) (by simp);have f6:=HC.out.frozen (g:=g6) (t:=3) (z:=.int .i64 fl) (by simp))|((with_reducible refine gate_store (t:=4) (p:=5) rfl ?_);refine cc_evS (t:=4) (p:=5) (W1:=wa.setCell ⟨g5,0,none⟩ (.bool bnd)) rfl rfl rfl ?hr ?_;(case hr=>first|(go_simp;done)|(go_simp;rfl));have hC:=HC.out.set (l1:=[(g9,3,.int .i64 c),(g8,2,.int .i64 P),(g6,3,.int .i64 fl)]) (g:=g5) (t:=4) (z:=.bool bnd) (l2:=[(g4,4,.bool (c == 8))]) (.bool bnd);clear HC cc c8 c4 c5 c6 f5 f6;generalize wa.setCell ⟨g5,0,none⟩ (.bool bnd)=wb at hC ⊢;have HC:=Aside0.mk hC;clear hC;have cc:=HC.out.cell (g:=g9) (t:=3) (z:=.int .i64 c) (by simp);have c6:=HC.out.cell (g:=g6) (t:=3) (z:=.int .i64 fl) (by simp);have f6:=HC.out.frozen (g:=g6) (t:=3) (z:=.int .i64 fl) (by simp))|((with_reducible refine gate_store (t:=3) (p:=6) rfl ?_);refine cc_evS (t:=3) (p:=6) (W1:=wb.setCell ⟨g6,0,none⟩ (.int .i64 0)) rfl rfl rfl ?hr ?_;(case hr=>first|(go_simp;done)|(go_simp;rfl));have hC:=HC.out.set (l1:=[(g9,3,.int .i64 c),(g8,2,.int .i64 P)]) (g:=g6) (t:=3) (z:=.int .i64 fl) (l2:=[(g5,4,.bool bnd),(g4,4,.bool (c == 8))]) (.int .i64 0);clear HC cc c6 f6;generalize wb.setCell ⟨g6,0,none⟩ (.int .i64 0)=wd at hC ⊢;have HC:=Aside0.mk hC;clear hC))
          go_roundg k1
          case measure=>have:=HK1.out;omega
          case rel=>exact ⟨i+1,(c == 8),bnd,0,out,(by go_num),(by have:=HI.out;omega),⟨by have h_:=H'.out;simp only [e1,Bool.true_or,Bool.false_or,e2,Bool.true_and,Bool.false_and,d2i,d9i,if_true,if_false] at h_;exact h_⟩,⟨by have:=HK1.out;omega⟩,⟨cc_Ctx.lessn 2 HC.out⟩⟩
         ·
          replace e2:(P == 1585)=false:=by simpa using e2
          go_wp2_with (first|((with_reducible refine gate_store (t:=4) (p:=4) rfl ?_);refine cc_evS (t:=4) (p:=4) (W1:=w12.setCell ⟨g4,0,none⟩ (.bool (c == 8))) rfl rfl rfl ?hr ?_;(case hr=>first|(go_simp;done)|(go_simp;rfl));have hC:=HC.out.set (l1:=[(g9,3,.int .i64 c),(g8,2,.int .i64 P),(g6,3,.int .i64 fl),(g5,4,.bool bnd)]) (g:=g4) (t:=4) (z:=.bool pic) (l2:=[]) (.bool (c == 8));clear HC cc c8 c4 c5 c6 f4 f5 f6;generalize w12.setCell ⟨g4,0,none⟩ (.bool (c == 8))=wa at hC ⊢;have HC:=Aside0.mk hC;clear hC;have cc:=HC.out.cell (g:=g9) (t:=3) (z:=.int .i64 c) (by simp);have c8:=HC.out.cell (g:=g8) (t:=2) (z:=.int .i64 P) (by simp);have c4:=HC.out.cell (g:=g4) (t:=4) (z:=.bool (c == 8)) (by simp);have c5:=HC.out.cell (g:=g5) (t:=4) (z:=.bool bnd) (by simp);have c6:=HC.out.cell (g:=g6) (t:=3) (z:=.int .i64 fl) (by simp);have f5:=HC.out.frozen (g:=g5) (t:=4) (z:=.bool bnd) (by simp);have f6:=HC.out.frozen (g:=g6) (t:=3) (z:=.int .i64 fl) (by simp))|((with_reducible refine gate_store (t:=4) (p:=5) rfl ?_);refine cc_evS (t:=4) (p:=5) (W1:=wa.setCell ⟨g5,0,none⟩ (.bool false)) rfl rfl rfl ?hr ?_;(case hr=>first|(go_simp;done)|(go_simp;rfl));have hC:=HC.out.set (l1:=[(g9,3,.int .i64 c),(g8,2,.int .i64 P),(g6,3,.int .i64 fl)]) (g:=g5) (t:=4) (z:=.bool bnd) (l2:=[(g4,4,.bool (c == 8))]) (.bool false);clear HC cc c8 c4 c5 c6 f5 f6;generalize wa.setCell ⟨g5,0,none⟩ (.bool false)=wb at hC ⊢;have HC:=Aside0.mk hC;clear hC;have cc:=HC.out.cell (g:=g9) (t:=3) (z:=.int .i64 c) (by simp);have c6:=HC.out.cell (g:=g6) (t:=3) (z:=.int .i64 fl) (by simp);have f6:=HC.out.frozen (g:=g6) (t:=3) (z:=.int .i64 fl) (by simp))|((with_reducible refine gate_store (t:=3) (p:=6) rfl ?_);refine cc_evS (t:=3) (p:=6) (W1:=wb.setCell ⟨g6,0,none⟩ (.int .i64 0)) rfl rfl rfl ?hr ?_;(case hr=>first|(go_simp;done)|(go_simp;rfl));have hC:=HC.out.set (l1:=[(g9,3,.int .i64 c),(g8,2,.int .i64 P)]) (g:=g6) (t:=3) (z:=.int .i64 fl) (l2:=[(g5,4,.bool false),(g4,4,.bool (c == 8))]) (.int .i64 0);clear HC cc c6 f6;generalize wb.setCell ⟨g6,0,none⟩ (.int .i64 0)=wd at hC ⊢;have HC:=Aside0.mk hC;clear hC))
          go_roundg k1
          case measure=>have:=HK1.out;omega
          case rel=>exact ⟨i+1,(c == 8),false,0,out,(by go_num),(by have:=HI.out;omega),⟨by have h_:=H'.out;simp only [e1,Bool.true_or,Bool.false_or,e2,Bool.true_and,Bool.false_and,d2i,d9i,if_true,if_false] at h_;exact h_⟩,⟨by have:=HK1.out;omega⟩,⟨cc_Ctx.lessn 2 HC.out⟩⟩
    ·
     rw [if_neg c1] at H
     obtain rfl:=Option.some.inj H
     clear H
     go_wp2
     go_ret
     exact ⟨_,rfl,Kd.R_mono HC.out.R (fun _ _=>trivial),HC.out.B⟩
 ·
  rw [if_neg hl] at h;cases h
def impl_onlyPoints.l0:Nat→List Int→List (S45)→Int→Int→Option (List Int)
 | 0,_,_,_,_=>none
 | k+1,x3,x9,x10,x11=>if x11<x10 then (if 0≤x11 then (if x11<(x9.length:Int) then (if x11<(x3.length:Int) then (impl_onlyPoints.l0 k (x3.set (x11:Int).toNat ((rd_T45 x9 x11).f0)) x9 x10 (wrap64 (x11+1))) else (none)) else (none)) else (none)) else (some x3)
def impl_onlyPoints.f (k:Nat) (l0:List (S45)):Option (List Int):=if 0≤(l0.length:Int) then (if ((l0.length:Int):Int).toNat≤35184372088832 then (impl_onlyPoints.l0 k (List.replicate ((l0.length:Int):Int).toNat 0) l0 (l0.length:Int) 0) else (none)) else (none)
set_option maxHeartbeats 8000000 in
set_option maxRecDepth 100000 in
theorem impl_onlyPoints.calls (k:Nat) (A0:Option Addr) (c0:Nat) (l0:List (S45)) (r:List Int) (w:World) (hr0:Kd.C k45 w A0 l0.length l0) (hc0:l0.length≤c0) (h:impl_onlyPoints.f k l0=some r) :
  Calls Tryd.prog 85 #[.slice A0 l0.length c0] w fun e w'=>∃ v0_:Value,e = .returned (v0_)∧Kd.R (Kd.int .i64) 2 w' w.heap.size (fun _=>True) v0_ r∧Below w.heap.size w w':=by
 have hu45:=Tryd.underlying45
 have HR0:=Aside0.mk hr0
 have HC0:=Aside0.mk hc0
 clear hr0 hc0
 have HB:=Aside0.mk (Below.refl w.heap.size w)
 have H:(if 0≤(l0.length:Int) then (if ((l0.length:Int):Int).toNat≤35184372088832 then (impl_onlyPoints.l0 k (List.replicate ((l0.length:Int):Int).toNat 0) l0 (l0.length:Int) 0) else (none)) else (none))=some r:=h
 clear h
 by_cases c2:0≤(l0.length:Int)
 ·
  rw [if_pos c2] at H
  have c2b0:=eq_true c2
  have c2b1:decide (0≤(l0.length:Int))=true:=decide_eq_true c2
  clear c2
  by_cases c3:((l0.length:Int):Int).toNat≤35184372088832
  ·
   rw [if_pos c3] at H
   have c3b0:=eq_true c3
   have c3b1:decide (((l0.length:Int):Int).toNat≤35184372088832)=true:=decide_eq_true c3
   clear c3
   obtain ⟨y307,hy307⟩:∃ y_:List Int,y_=(List.replicate ((l0.length:Int):Int).toNat 0):=⟨_,rfl⟩
   replace H:(impl_onlyPoints.l0 k y307 l0 (l0.length:Int) 0)=some r:=by first|(rw [hy307];with_reducible exact H)|(have H2_:=(Option.bind_some _ _).symm.trans H;rw [hy307];with_reducible exact H2_)|(have H2_:=(Option.bind_some _ _).symm.trans H;with_reducible exact H2_)|with_reducible exact H|(rw [hy307];exact H)|exact H
   have Ny307:=Aside0.mk hy307
   clear hy307
   have H':=Aside0.mk H
   clear H
   go_enter Tryd.func85,Tryd.ntmps85
   go_wp2_with (first|((with_reducible refine gate_dst (N:=8) rfl ?_);refine Kd.R_make (Kd.int .i64) _ 2 rfl (N:=8) rfl 27 _ _ rfl (l0.length:Int) rfl rfl Tryd.underlying27 (.int .i64 0) 8 info2 rfl (by decide) (by omega) 0 (ok:=fun _=>True) (okp:=fun _=>True) rfl (fun _ hk=>hk) trivial (of_decide_eq_true (by first|(with_reducible assumption)|assumption)) (Nat.le_trans (Nat.mul_le_mul_right _ (of_decide_eq_true (by first|(with_reducible assumption)|assumption):(l0.length:Int).toNat≤35184372088832)) (by omega)) (Below.refl _ _) (Nat.le_refl _) ?_;intro v308 w4 ho5 hb hg_ hnew_;clear hg_ hnew_;(first|rw [← Ny307.out] at ho5|(simp only [Int.reduceToNat] at ho5;rw [← Ny307.out] at ho5));have n0_:=Aside0.mk (Kd.R_lower ho5 (below_size (by repeat (first|(with_reducible first|exact HB.out|apply below_alloc|apply pw_below_drewN|apply below_drew1)|exact HB.out))));have n1_:=Aside0.mk (below_step (by repeat (first|(with_reducible first|exact HB.out|apply below_alloc|apply pw_below_drewN|apply below_drew1)|exact HB.out)) hb);clear HB;have HO309:=n0_;have HB:=n1_;clear n0_ n1_;clear hb ho5))
   go_loopg [11] k (fun kq v11 w'=>∃ (x3_1:List Int) (x11_1:Int),v11 = .int .i64 x11_1∧Aside0 (impl_onlyPoints.l0 kq x3_1 l0 (l0.length:Int) x11_1=some r)∧Aside0 (kq≤k)∧Aside0 (Kd.R (Kd.int .i64) 2 w' w.heap.size (fun _=>True) v308 x3_1)∧Aside0 (Below w.heap.size w w'))
   case atStart=>exact ⟨(y307),(0),(by first|rfl|(simp;done)|(simp [*];done)),H',⟨Nat.le_refl _⟩,⟨by (with_reducible repeat (first|apply Kd.R_alloc|apply Kd.R_drewN|apply Kd.R_drew));exact HO309.out⟩,⟨by repeat (first|(with_reducible first|exact HB.out|apply below_alloc|apply pw_below_drewN|apply below_drew1)|exact HB.out)⟩⟩
   case round =>
    clear H'
    try clear c2
    try clear c2b0
    try clear c2b1
    try clear p2
    try clear c3
    try clear c3b0
    try clear c3b1
    obtain ⟨x3_1,x11_1,rfl,HA,HK1,HO_3,HB⟩:=hrel
    cases gk with
    | zero=>exact absurd HA.out (by simp [impl_onlyPoints.l0])
    | succ k1 =>
     have H:=HA.out
     clear HA
     simp only [impl_onlyPoints.l0] at H
     by_cases c6:x11_1<(l0.length:Int)
     ·
      rw [if_pos c6] at H
      have c6b0:decide (x11_1<(l0.length:Int))=true:=decide_eq_true c6
      clear c6
      by_cases c7:0≤x11_1
      ·
       rw [if_pos c7] at H
       have c7b0:decide (0≤x11_1)=true:=decide_eq_true c7
       clear c7
       by_cases c8:x11_1<(l0.length:Int)
       ·
        rw [if_pos c8] at H
        have c8b0:decide (x11_1<(l0.length:Int))=true:=decide_eq_true c8
        clear c8
        by_cases c9:x11_1<(x3_1.length:Int)
        ·
         rw [if_pos c9] at H
         have c9b0:decide (x11_1<(x3_1.length:Int))=true:=decide_eq_true c9
         clear c9
         obtain ⟨y312,hy312⟩:∃ y_:List Int,y_=(x3_1.set (x11_1:Int).toNat ((rd_T45 l0 x11_1).f0)):=⟨_,rfl⟩
         replace H:(impl_onlyPoints.l0 k1 y312 l0 (l0.length:Int) (wrap64 (x11_1+1)))=some r:=by first|(rw [hy312];with_reducible exact H)|(have H2_:=(Option.bind_some _ _).symm.trans H;rw [hy312];with_reducible exact H2_)|(have H2_:=(Option.bind_some _ _).symm.trans H;with_reducible exact H2_)|with_reducible exact H|(rw [hy312];exact H)|exact H
         have Ny312:=Aside0.mk hy312
         clear hy312
         have H':=Aside0.mk H
         clear H
         have p310:0≤(x11_1:Int):=of_decide_eq_true (by first|(with_reducible assumption)|assumption)
         have q310:x11_1<(l0.length:Int):=of_decide_eq_true (by first|(with_reducible assumption)|assumption)
         obtain ⟨ad310,e310,hx310_0,hx310_1,hx310_2,hx310_3⟩:=at_T45 HR0.out x11_1 p310 q310
         cases e310
         replace hx310_0:=(HB.out.cell (World.block_lt_of_cell? _ _ hx310_0)).trans hx310_0
         replace hx310_1:=(HB.out.cell (World.block_lt_of_cell? _ _ hx310_1)).trans hx310_1
         replace hx310_2:=(HB.out.cell (World.block_lt_of_cell? _ _ hx310_2)).trans hx310_2
         replace hx310_3:=(HB.out.cell (World.block_lt_of_cell? _ _ hx310_3)).trans hx310_3
         replace p310:=eq_true p310
         replace q310:=eq_true q310
         go_wp2_with (first|((with_reducible refine gate_dst (N:=5) rfl ?_);refine box_event ?hg (N:=5) ?hd (cs:=#[.int .i64 0,.int .i64 0,.int .i64 0,.bool false]) (t:=45) ?hr ?_;(case hd=>rfl);(case hg=>rfl);(case hr=>first|(go_simp;done)|(go_simp;rfl));intro gb311 hg w11 hbox hb;have n0_:=Aside0.mk (Kd.R_below (by (with_reducible repeat (first|apply Kd.R_alloc|apply Kd.R_drewN|apply Kd.R_drew));exact HO_3.out) hb);have n1_:=Aside0.mk (below_step (by repeat (first|(with_reducible first|exact HB.out|apply below_alloc|apply pw_below_drewN|apply below_drew1)|exact HB.out)) hb);have n2_:=Aside0.mk (hbox);have n3_:=Aside0.mk ((by rw [hg];exact (below_size (by repeat (first|(with_reducible first|exact HB.out|apply below_alloc|apply pw_below_drewN|apply below_drew1)|exact HB.out))):w.heap.size≤gb311));have n4_:=Aside0.mk ((by rw [hg];exact (below_size (by repeat (first|(with_reducible first|exact HB.out|apply below_alloc|apply pw_below_drewN|apply below_drew1)|exact HB.out))):w.heap.size≤gb311));clear HO_3;clear HB;have HO_3:=n0_;have HB:=n1_;have BK311:=n2_;have GW311:=n3_;have GE311:=n4_;clear n0_ n1_ n2_ n3_ n4_;clear hb hbox hg;have hcz12_0:w11.cell? ⟨gb311,0,none⟩=some (.int .i64 0):=(blk_cell BK311.out 0).trans rfl;have hcz12_1:w11.cell? ⟨gb311,1,none⟩=some (.int .i64 0):=(blk_cell BK311.out 1).trans rfl;have hcz12_2:w11.cell? ⟨gb311,2,none⟩=some (.int .i64 0):=(blk_cell BK311.out 2).trans rfl;have hcz12_3:w11.cell? ⟨gb311,3,none⟩=some (.bool false):=(blk_cell BK311.out 3).trans rfl;have hfz12_0:=blk_frozen BK311.out 0;have hfz12_1:=blk_frozen BK311.out 1;have hfz12_2:=blk_frozen BK311.out 2;have hfz12_3:=blk_frozen BK311.out 3)|((with_reducible refine gate_store (t:=45) (p:=5) rfl ?_);refine store_event (t:=45) (p:=5) (v:=?vo_w13) (w1:=((((w11.setCell ⟨gb311,0,none⟩ (.int .i64 ((rd_T45 l0 x11_1).f0))).setCell ⟨gb311,1,none⟩ (.int .i64 ((rd_T45 l0 x11_1).f1))).setCell ⟨gb311,2,none⟩ (.int .i64 ((rd_T45 l0 x11_1).f2))).setCell ⟨gb311,3,none⟩ (.bool ((rd_T45 l0 x11_1).f3)))) ?hg ?ho ?hn ?hr ?_;(case ho=>rfl);(case hg=>rfl);(case hn=>rfl);(case hr=>first|(go_simp;done)|(go_simp;rfl));intro w13 hw;have n0_:Aside0 (Kd.R (Kd.int .i64) 2 w13 w.heap.size (fun _=>True) v308 x3_1):=⟨(by rw [hw];exact (by (with_reducible repeat (first|apply Kd.R_alloc|apply Kd.R_drewN|apply Kd.R_drew));exact Kd.R_mono (Kd.R_far (p:=⟨gb311,3,none⟩) (Kd.R_far (p:=⟨gb311,2,none⟩) (Kd.R_far (p:=⟨gb311,1,none⟩) (Kd.R_far (p:=⟨gb311,0,none⟩) (Kd.R_types HO_3.out BK311.out (by decide)) (fun _ hk=>hk.2) (.int .i64 ((rd_T45 l0 x11_1).f0))) (fun _ hk=>hk.2) (.int .i64 ((rd_T45 l0 x11_1).f1))) (fun _ hk=>hk.2) (.int .i64 ((rd_T45 l0 x11_1).f2))) (fun _ hk=>hk.2) (.bool ((rd_T45 l0 x11_1).f3))) (fun _ hk=>trivial)))⟩;have n1_:Aside0 (w13.heap[gb311]? = some (.cells #[.int .i64 ((rd_T45 l0 x11_1).f0),.int .i64 ((rd_T45 l0 x11_1).f1),.int .i64 ((rd_T45 l0 x11_1).f2),.bool ((rd_T45 l0 x11_1).f3)] 45 (0,0))):=⟨(by rw [hw];exact (by (with_reducible repeat (first|refine blk_drewN ?_ _|refine blk_drew ?_|refine blk_alloc ?_ _));refine blk_put (cs:=#[.int .i64 ((rd_T45 l0 x11_1).f0),.int .i64 ((rd_T45 l0 x11_1).f1),.int .i64 ((rd_T45 l0 x11_1).f2),.bool false]) ?_ 3 _ rfl;(with_reducible repeat (first|refine blk_drewN ?_ _|refine blk_drew ?_|refine blk_alloc ?_ _));refine blk_put (cs:=#[.int .i64 ((rd_T45 l0 x11_1).f0),.int .i64 ((rd_T45 l0 x11_1).f1),.int .i64 0,.bool false]) ?_ 2 _ rfl;(with_reducible repeat (first|refine blk_drewN ?_ _|refine blk_drew ?_|refine blk_alloc ?_ _));refine blk_put (cs:=#[.int .i64 ((rd_T45 l0 x11_1).f0),.int .i64 0,.int .i64 0,.bool false]) ?_ 1 _ rfl;(with_reducible repeat (first|refine blk_drewN ?_ _|refine blk_drew ?_|refine blk_alloc ?_ _));refine blk_put (cs:=#[.int .i64 0,.int .i64 0,.int .i64 0,.bool false]) ?_ 0 _ rfl;(with_reducible repeat (first|refine blk_drewN ?_ _|refine blk_drew ?_|refine blk_alloc ?_ _));exact BK311.out))⟩;have n2_:Aside0 (Below w.heap.size w w13):=⟨(by rw [hw];exact (by repeat (first|(with_reducible first|exact HB.out|apply below_alloc|apply pw_below_drewN|apply below_drew1|refine below_set ?_ GE311.out)|exact HB.out)))⟩;clear hw;clear HO_3;clear BK311;clear HB;have HO_3:=n0_;have BK311:=n1_;have HB:=n2_;clear n0_ n1_ n2_;have hcz14_0:w13.cell? ⟨gb311,0,none⟩=some (.int .i64 ((rd_T45 l0 x11_1).f0)):=(blk_cell BK311.out 0).trans rfl;have hcz14_1:w13.cell? ⟨gb311,1,none⟩=some (.int .i64 ((rd_T45 l0 x11_1).f1)):=(blk_cell BK311.out 1).trans rfl;have hcz14_2:w13.cell? ⟨gb311,2,none⟩=some (.int .i64 ((rd_T45 l0 x11_1).f2)):=(blk_cell BK311.out 2).trans rfl;have hcz14_3:w13.cell? ⟨gb311,3,none⟩=some (.bool ((rd_T45 l0 x11_1).f3)):=(blk_cell BK311.out 3).trans rfl;have hfz14_0:=blk_frozen BK311.out 0;have hfz14_1:=blk_frozen BK311.out 1;have hfz14_2:=blk_frozen BK311.out 2;have hfz14_3:=blk_frozen BK311.out 3;have p10:0≤(x11_1:Int):=of_decide_eq_true (by first|(with_reducible assumption)|assumption);have q10:(x11_1:Int)<((x3_1.length:Int):Int):=of_decide_eq_true (by first|(with_reducible assumption)|assumption);obtain ⟨go10,co10,eo10,gb10,gl10,cl10,HG10⟩:=Kd.R_form HO_3.out (by omega);(first|cases eo10|(injection eo10 with ea_ en_ ec_;(first|subst ea_|(injection ea_ with ea_;subst ea_));subst ec_;clear en_));have GB10:=Aside0.mk gb10;have GG10:=Aside0.mk HG10;clear gb10 gl10 HG10;obtain ⟨hx10_0,hf10_0⟩:=Kd.R_celln 0 HO_3.out (x11_1:Int) p10 q10;replace p10:=eq_true p10;replace q10:=eq_true q10;obtain ⟨hy15_,hz15_⟩:=Kd.R_celln 0 HO_3.out (x11_1:Int) (of_decide_eq_true (by first|(with_reducible assumption)|assumption)) (of_decide_eq_true (by first|(with_reducible assumption)|assumption));have HP15:=Kd.R_putg HO_3.out (x11_1:Int) ((rd_T45 l0 x11_1).f0))|((with_reducible refine gate_store (t:=2) (p:=20) rfl ?_);refine store_event (t:=2) (p:=20) (v:=?vo_w16) (w1:=(w13.setCell ⟨go10,(x11_1:Int).toNat,none⟩ (.int .i64 ((rd_T45 l0 x11_1).f0)))) ?hg ?ho ?hn ?hr ?_;(case ho=>rfl);(case hg=>rfl);(case hn=>rfl);(case hr=>first|(go_simp;done)|(go_simp;rfl));intro w16 hw;have hg:w13.grownBy w16 (some go10):=(by rw [hw];exact HP15.2);have hp_:Kd.R (Kd.int .i64) 2 w16 w.heap.size (fun _=>True) (.slice (some ⟨go10,0,none⟩) x3_1.length co10) y312:=(by rw [hw,Ny312.out];exact HP15.1);clear HP15;have n0_:=Aside0.mk (hp_);have n1_:=Aside0.mk (blk_grown (g:=gb311) (o:=.cells #[.int .i64 ((rd_T45 l0 x11_1).f0),.int .i64 ((rd_T45 l0 x11_1).f1),.int .i64 ((rd_T45 l0 x11_1).f2),.bool ((rd_T45 l0 x11_1).f3)] 45 (0,0)) (by (with_reducible repeat (first|refine blk_drewN ?_ _|refine blk_drew ?_|refine blk_alloc ?_ _));exact BK311.out) hg (Kd.R_ne HO_3.out BK311.out (by decide)));have n2_:=Aside0.mk ((by rw [hw];exact below_set (HB.out) GB10.out:Below w.heap.size w w16));clear HO_3;clear BK311;clear HB;have HO_3:=n0_;have BK311:=n1_;have HB:=n2_;clear n0_ n1_ n2_;clear hg hw hp_))
         go_roundg k1
         case measure=>have:=HK1.out;omega
         case rel=>exact ⟨(y312),(wrap64 (x11_1+1)),(by first|rfl|(simp;done)|(simp [*];done)),H',⟨by have:=HK1.out;omega⟩,⟨by (with_reducible repeat (first|apply Kd.R_alloc|apply Kd.R_drewN|apply Kd.R_drew));exact HO_3.out⟩,⟨by repeat (first|(with_reducible first|exact HB.out|apply below_alloc|apply pw_below_drewN|apply below_drew1|refine below_set ?_ GE311.out)|exact HB.out)⟩⟩
        ·
         rw [if_neg c9] at H
         exact absurd H (by simp)
       ·
        rw [if_neg c8] at H
        exact absurd H (by simp)
      ·
       rw [if_neg c7] at H
       exact absurd H (by simp)
     ·
      rw [if_neg c6] at H
      have c6b0:decide (x11_1<(l0.length:Int))=false:=decide_eq_false c6
      clear c6
      obtain rfl:=Option.some.inj H
      go_wp2
      go_ret
      exact ⟨_,by first|rfl|(simp [errW_none,errW_some] <;> rfl)|(simp [*,errW_none,errW_some] <;> rfl),by (with_reducible repeat (first|apply Kd.R_alloc|apply Kd.R_drewN|apply Kd.R_drew));exact HO_3.out,by repeat (first|(with_reducible first|exact HB.out|apply below_alloc|apply pw_below_drewN|apply below_drew1)|exact HB.out)⟩
  ·
   rw [if_neg c3] at H
   exact absurd H (by simp)
 ·
  rw [if_neg c2] at H
  exact absurd H (by simp)
def impl_charPlaces.f (k:Nat) (a0:ByteArray):Option (List Int):=(impl_read.f k a0).bind fun t313=>((impl_onlyPoints.f k t313).bind fun t316=>((impl_charCuts.f k t316).bind fun t319=>((impl_placesOf.f k t313 (a0.size:Int) t319).bind fun t322=>(some t322))))
set_option maxHeartbeats 8000000 in
set_option maxRecDepth 100000 in
theorem impl_charPlaces.calls (k:Nat) (a0:ByteArray) (r:List Int) (w:World) (hT:Tabs w) (h:impl_charPlaces.f k a0=some r) :
  Calls Tryd.prog 51 #[.string a0] w fun e w'=>∃ v0_:Value,e = .returned (v0_)∧Kd.R (Kd.int .i64) 2 w' w.heap.size (fun _=>True) v0_ r∧Below w.heap.size w w':=by
 have HTAB:=Aside0.mk hT
 clear hT
 have HB:=Aside0.mk (Below.refl w.heap.size w)
 have H:((impl_read.f k a0).bind fun t313=>((impl_onlyPoints.f k t313).bind fun t316=>((impl_charCuts.f k t316).bind fun t319=>((impl_placesOf.f k t313 (a0.size:Int) t319).bind fun t322=>(some t322)))))=some r:=h
 clear h
 replace H:=Option.bind_eq_some_iff.mp H
 obtain ⟨t313,A20,H⟩:=H
 replace H:((impl_onlyPoints.f k t313).bind fun t316=>((impl_charCuts.f k t316).bind fun t319=>((impl_placesOf.f k t313 (a0.size:Int) t319).bind fun t322=>(some t322))))=some r:=H
 have A2:=Aside0.mk A20
 clear A20
 replace H:=Option.bind_eq_some_iff.mp H
 obtain ⟨t316,A30,H⟩:=H
 replace H:((impl_charCuts.f k t316).bind fun t319=>((impl_placesOf.f k t313 (a0.size:Int) t319).bind fun t322=>(some t322)))=some r:=H
 have A3:=Aside0.mk A30
 clear A30
 replace H:=Option.bind_eq_some_iff.mp H
 obtain ⟨t319,A40,H⟩:=H
 replace H:((impl_placesOf.f k t313 (a0.size:Int) t319).bind fun t322=>(some t322))=some r:=H
 have A4:=Aside0.mk A40
 clear A40
 replace H:=Option.bind_eq_some_iff.mp H
 obtain ⟨t322,A50,H⟩:=H
 replace H:(some t322)=some r:=H
 have A5:=Aside0.mk A50
 clear A50
 obtain rfl:=Option.some.inj H
 go_enter Tryd.func51,Tryd.ntmps51
 go_wp2_with (first|((with_reducible refine gate_callee (f:=43) rfl ?_);refine goesL_ (some 5) rfl rfl Tryd.func43 (by kernel_rfl) rfl #[.string a0] rfl (by (try simp only [List.map_toArray,List.map_cons,List.map_nil]);first|done|rfl|(simp only [List.length_drop,List.length_take];rfl)) ?_;(with_reducible refine (impl_read.calls k a0 t313 _ ?side1 A2.out).mono ?_);(case side1=>first|exact HTAB.out|exact Tabs_drewN HTAB.out _|exact Tabs_below HTAB.out (by repeat (first|(with_reducible first|exact HB.out|apply below_alloc|apply pw_below_drewN|apply below_drew1)|exact HB.out)));rintro e w6 ⟨v314,rfl,ho0,hb⟩;refine ⟨_,rfl,?_⟩;have n0_:=Aside0.mk (Kd.R_lower ho0 (below_size (by repeat (first|(with_reducible first|exact HB.out|apply below_alloc|apply pw_below_drewN|apply below_drew1)|exact HB.out))));have n1_:=Aside0.mk (below_step (by repeat (first|(with_reducible first|exact HB.out|apply below_alloc|apply pw_below_drewN|apply below_drew1)|exact HB.out)) hb);clear HB;have HO315:=n0_;have HB:=n1_;clear n0_ n1_;(try clear hb);(try clear hb2);(try clear hk);(try clear hi);(try clear ho0);obtain ⟨Ao7,co7,eo7⟩:=Kd.R_slice HO315.out;subst eo7)|((with_reducible refine gate_callee (f:=85) rfl ?_);refine goesL_ (some 10) rfl rfl Tryd.func85 (by kernel_rfl) rfl #[.slice Ao7 t313.length co7] rfl (by (try simp only [List.map_toArray,List.map_cons,List.map_nil]);first|done|rfl|(simp only [List.length_drop,List.length_take];rfl)) ?_;(with_reducible refine (impl_onlyPoints.calls k _ _ t313 t316 _ ?side1 ?side2 A3.out).mono ?_);(case side1=>repeat (first|exact (Kd.R_reads' HO315.out).2.2|(with_reducible refine Kd.C_alloc ?_ _)|(with_reducible refine Kd.C_drewN ?_ _)|(with_reducible refine Kd.C_drew ?_)));(case side2=>exact (Kd.R_reads' HO315.out).2.1);rintro e w8 ⟨v317,rfl,ho0,hb⟩;refine ⟨_,rfl,?_⟩;have n0_:=Aside0.mk (Kd.R_below (by (with_reducible repeat (first|apply Kd.R_alloc|apply Kd.R_drewN|apply Kd.R_drew));exact HO315.out) hb);have n1_:=Aside0.mk (Kd.R_lower ho0 (below_size (by repeat (first|(with_reducible first|exact HB.out|apply below_alloc|apply pw_below_drewN|apply below_drew1)|exact HB.out))));have n2_:=Aside0.mk (below_step (by repeat (first|(with_reducible first|exact HB.out|apply below_alloc|apply pw_below_drewN|apply below_drew1)|exact HB.out)) hb);clear HO315;clear HB;have HO315:=n0_;have HO318:=n1_;have HB:=n2_;clear n0_ n1_ n2_;(try clear hb);(try clear hb2);(try clear hk);(try clear hi);(try clear ho0);obtain ⟨Ao9,co9,eo9⟩:=Kd.R_slice HO318.out;subst eo9)|((with_reducible refine gate_callee (f:=84) rfl ?_);refine goesL_ (some 11) rfl rfl Tryd.func84 (by kernel_rfl) rfl #[.slice Ao9 t316.length co9] rfl (by (try simp only [List.map_toArray,List.map_cons,List.map_nil]);first|done|rfl|(simp only [List.length_drop,List.length_take];rfl)) ?_;(with_reducible refine (impl_charCuts.calls k _ _ t316 t319 _ ?side1 ?side2 A4.out).mono ?_);(case side1=>repeat (first|exact (Kd.R_reads' HO318.out).2.2|(with_reducible refine Kd.C_alloc ?_ _)|(with_reducible refine Kd.C_drewN ?_ _)|(with_reducible refine Kd.C_drew ?_)));(case side2=>exact (Kd.R_reads' HO318.out).2.1);rintro e w10 ⟨v320,rfl,ho0,hb⟩;refine ⟨_,rfl,?_⟩;have n0_:=Aside0.mk (Kd.R_below (by (with_reducible repeat (first|apply Kd.R_alloc|apply Kd.R_drewN|apply Kd.R_drew));exact HO315.out) hb);have n1_:=Aside0.mk (Kd.R_below (by (with_reducible repeat (first|apply Kd.R_alloc|apply Kd.R_drewN|apply Kd.R_drew));exact HO318.out) hb);have n2_:=Aside0.mk (Kd.R_lower ho0 (below_size (by repeat (first|(with_reducible first|exact HB.out|apply below_alloc|apply pw_below_drewN|apply below_drew1)|exact HB.out))));have n3_:=Aside0.mk (below_step (by repeat (first|(with_reducible first|exact HB.out|apply below_alloc|apply pw_below_drewN|apply below_drew1)|exact HB.out)) hb);clear HO315;clear HO318;clear HB;have HO315:=n0_;have HO318:=n1_;have HO321:=n2_;have HB:=n3_;clear n0_ n1_ n2_ n3_;(try clear hb);(try clear hb2);(try clear hk);(try clear hi);(try clear ho0);obtain ⟨Ao11,co11,eo11⟩:=Kd.R_slice HO321.out;subst eo11)|((with_reducible refine gate_callee (f:=83) rfl ?_);refine goesL_ (some 12) rfl rfl Tryd.func83 (by kernel_rfl) rfl #[.slice Ao7 t313.length co7,.int .i64 (a0.size:Int),.slice Ao11 t319.length co11] rfl (by (try simp only [List.map_toArray,List.map_cons,List.map_nil]);first|done|rfl|(simp only [List.length_drop,List.length_take];rfl)) ?_;(with_reducible refine (impl_placesOf.calls k _ _ t313 (a0.size:Int) _ _ t319 t322 _ ?side1 ?side2 ?side3 ?side4 A5.out).mono ?_);(case side1=>repeat (first|exact (Kd.R_reads' HO315.out).2.2|(with_reducible refine Kd.C_alloc ?_ _)|(with_reducible refine Kd.C_drewN ?_ _)|(with_reducible refine Kd.C_drew ?_)));(case side2=>exact (Kd.R_reads' HO315.out).2.1);(case side3=>repeat (first|exact (Kd.R_reads' HO321.out).2.2|(with_reducible refine Kd.C_alloc ?_ _)|(with_reducible refine Kd.C_drewN ?_ _)|(with_reducible refine Kd.C_drew ?_)));(case side4=>exact (Kd.R_reads' HO321.out).2.1);rintro e w12 ⟨v323,rfl,ho0,hb⟩;refine ⟨_,rfl,?_⟩;have n0_:=Aside0.mk (Kd.R_below (by (with_reducible repeat (first|apply Kd.R_alloc|apply Kd.R_drewN|apply Kd.R_drew));exact HO315.out) hb);have n1_:=Aside0.mk (Kd.R_elder' (by (with_reducible repeat (first|apply Kd.R_alloc|apply Kd.R_drewN|apply Kd.R_drew));exact HO318.out) (Kd.R_base ho0) hb);have n2_:=Aside0.mk (Kd.R_below (by (with_reducible repeat (first|apply Kd.R_alloc|apply Kd.R_drewN|apply Kd.R_drew));exact HO321.out) hb);have n3_:=Aside0.mk (Kd.R_lower (Kd.R_new' ho0 (Kd.R_lt (by (with_reducible repeat (first|apply Kd.R_alloc|apply Kd.R_drewN|apply Kd.R_drew));exact HO318.out))) (below_size (by repeat (first|(with_reducible first|exact HB.out|apply below_alloc|apply pw_below_drewN|apply below_drew1)|exact HB.out))));have n4_:=Aside0.mk (below_step (by repeat (first|(with_reducible first|exact HB.out|apply below_alloc|apply pw_below_drewN|apply below_drew1)|exact HB.out)) hb);clear HO315;clear HO318;clear HO321;clear HB;have HO315:=n0_;have HO318:=n1_;have HO321:=n2_;have HO324:=n3_;have HB:=n4_;clear n0_ n1_ n2_ n3_ n4_;(try clear hb);(try clear hb2);(try clear hk);(try clear hi);(try clear ho0)))
 go_ret
 exact ⟨_,by first|rfl|(simp [errW_none,errW_some] <;> rfl)|(simp [*,errW_none,errW_some] <;> rfl),by (with_reducible repeat (first|apply Kd.R_alloc|apply Kd.R_drewN|apply Kd.R_drew));exact Kd.R_mono HO324.out (fun _ hk=>trivial),by repeat (first|(with_reducible first|exact HB.out|apply below_alloc|apply pw_below_drewN|apply below_drew1)|exact HB.out)⟩
def impl_chars.f (k:Nat) (a0:ByteArray):Option (List ByteArray):=(impl_charPlaces.f k a0).bind fun t325=>((impl_piecesOf.f k a0 t325).bind fun t328=>(some t328))
set_option maxHeartbeats 8000000 in
set_option maxRecDepth 100000 in
theorem impl_chars.calls (k:Nat) (a0:ByteArray) (r:List ByteArray) (w:World) (hT:Tabs w) (h:impl_chars.f k a0=some r) :
  Calls Tryd.prog 30 #[.string a0] w fun e w'=>∃ v0_:Value,e = .returned (v0_)∧Kd.R Kd.string 9 w' w.heap.size (fun _=>True) v0_ r∧Below w.heap.size w w':=by
 have HTAB:=Aside0.mk hT
 clear hT
 have HB:=Aside0.mk (Below.refl w.heap.size w)
 have H:((impl_charPlaces.f k a0).bind fun t325=>((impl_piecesOf.f k a0 t325).bind fun t328=>(some t328)))=some r:=h
 clear h
 replace H:=Option.bind_eq_some_iff.mp H
 obtain ⟨t325,A20,H⟩:=H
 replace H:((impl_piecesOf.f k a0 t325).bind fun t328=>(some t328))=some r:=H
 have A2:=Aside0.mk A20
 clear A20
 replace H:=Option.bind_eq_some_iff.mp H
 obtain ⟨t328,A30,H⟩:=H
 replace H:(some t328)=some r:=H
 have A3:=Aside0.mk A30
 clear A30
 obtain rfl:=Option.some.inj H
 go_enter Tryd.func30,Tryd.ntmps30
 go_wp2_with (first|((with_reducible refine gate_callee (f:=51) rfl ?_);refine goesL_ (some 5) rfl rfl Tryd.func51 (by kernel_rfl) rfl #[.string a0] rfl (by (try simp only [List.map_toArray,List.map_cons,List.map_nil]);first|done|rfl|(simp only [List.length_drop,List.length_take];rfl)) ?_;(with_reducible refine (impl_charPlaces.calls k a0 t325 _ ?side1 A2.out).mono ?_);(case side1=>first|exact HTAB.out|exact Tabs_drewN HTAB.out _|exact Tabs_below HTAB.out (by repeat (first|(with_reducible first|exact HB.out|apply below_alloc|apply pw_below_drewN|apply below_drew1)|exact HB.out)));rintro e w4 ⟨v326,rfl,ho0,hb⟩;refine ⟨_,rfl,?_⟩;have n0_:=Aside0.mk (Kd.R_lower ho0 (below_size (by repeat (first|(with_reducible first|exact HB.out|apply below_alloc|apply pw_below_drewN|apply below_drew1)|exact HB.out))));have n1_:=Aside0.mk (below_step (by repeat (first|(with_reducible first|exact HB.out|apply below_alloc|apply pw_below_drewN|apply below_drew1)|exact HB.out)) hb);clear HB;have HO327:=n0_;have HB:=n1_;clear n0_ n1_;(try clear hb);(try clear hb2);(try clear hk);(try clear hi);(try clear ho0);obtain ⟨Ao5,co5,eo5⟩:=Kd.R_slice HO327.out;subst eo5)|((with_reducible refine gate_callee (f:=50) rfl ?_);refine goesL_ (some 6) rfl rfl Tryd.func50 (by kernel_rfl) rfl #[.string a0,.slice Ao5 t325.length co5] rfl (by (try simp only [List.map_toArray,List.map_cons,List.map_nil]);first|done|rfl|(simp only [List.length_drop,List.length_take];rfl)) ?_;(with_reducible refine (impl_piecesOf.calls k a0 _ _ t325 t328 _ ?side1 ?side2 A3.out).mono ?_);(case side1=>repeat (first|exact (Kd.R_reads' HO327.out).2.2|(with_reducible refine Kd.C_alloc ?_ _)|(with_reducible refine Kd.C_drewN ?_ _)|(with_reducible refine Kd.C_drew ?_)));(case side2=>exact (Kd.R_reads' HO327.out).2.1);rintro e w6 ⟨v329,rfl,ho0,hb⟩;refine ⟨_,rfl,?_⟩;have n0_:=Aside0.mk (Kd.R_below (by (with_reducible repeat (first|apply Kd.R_alloc|apply Kd.R_drewN|apply Kd.R_drew));exact HO327.out) hb);have n1_:=Aside0.mk (Kd.R_lower ho0 (below_size (by repeat (first|(with_reducible first|exact HB.out|apply below_alloc|apply pw_below_drewN|apply below_drew1)|exact HB.out))));have n2_:=Aside0.mk (below_step (by repeat (first|(with_reducible first|exact HB.out|apply below_alloc|apply pw_below_drewN|apply below_drew1)|exact HB.out)) hb);clear HO327;clear HB;have HO327:=n0_;have HO330:=n1_;have HB:=n2_;clear n0_ n1_ n2_;(try clear hb);(try clear hb2);(try clear hk);(try clear hi);(try clear ho0)))
 go_ret
 exact ⟨_,by first|rfl|(simp [errW_none,errW_some] <;> rfl)|(simp [*,errW_none,errW_some] <;> rfl),by (with_reducible repeat (first|apply Kd.R_alloc|apply Kd.R_drewN|apply Kd.R_drew));exact HO330.out,by repeat (first|(with_reducible first|exact HB.out|apply below_alloc|apply pw_below_drewN|apply below_drew1)|exact HB.out)⟩
mutual
def impl_wideOf.l0:Nat→Int→List ByteArray→Int→Int→Option (Int)
 | 0,_,_,_,_=>none
 | k+1,x3,x9,x10,x11=>if x11<x10 then (if 0≤x11 then (if x11<(x9.length:Int) then ((impl_points.f k (rdOf ByteArray.empty x9 x11)).bind fun t335=>(if 0<(t335.length:Int) then ((impl_Category.f k (rd t335 0)).bind fun t339=>((impl_isSyllable.f (rd t335 0)).bind fun t340=>(if t340=true then (impl_wideOf.j1 k x3 t339 x9 x10 x11 true) else ((impl_in.f (rd t335 0) 24576 26623).bind fun t341=>(if t341=true then (impl_wideOf.j1 k x3 t339 x9 x10 x11 true) else ((impl_isPicture.f (rd t335 0)).bind fun t342=>(impl_wideOf.j1 k x3 t339 x9 x10 x11 t342))))))) else (none))) else (none)) else (none)) else (some x3)
def impl_wideOf.j1:Nat→Int→Int→List ByteArray→Int→Int→Bool→Option (Int)
 | 0,_,_,_,_,_,_=>none
 | k+1,x3,x7,x9,x10,x11,x23=>if x23=true then (impl_wideOf.l0 k (wrap64 (x3+2)) x9 x10 (wrap64 (x11+1))) else (if x7=1 then (impl_wideOf.l0 k x3 x9 x10 (wrap64 (x11+1))) else (if x7=11 then (impl_wideOf.l0 k x3 x9 x10 (wrap64 (x11+1))) else (if x7=3 then (impl_wideOf.l0 k x3 x9 x10 (wrap64 (x11+1))) else (impl_wideOf.l0 k (wrap64 (x3+1)) x9 x10 (wrap64 (x11+1))))))
end
def impl_wideOf.f (k:Nat) (a0:ByteArray):Option (Int):=(impl_chars.f k a0).bind fun t331=>(impl_wideOf.l0 k 0 t331 (t331.length:Int) 0)
set_option maxHeartbeats 8000000 in
set_option maxRecDepth 100000 in
theorem impl_wideOf.calls (k:Nat) (a0:ByteArray) (r:Int) (w:World) (hT:Tabs w) (h:impl_wideOf.f k a0=some r) :
  Calls Tryd.prog 14 #[.string a0] w fun e w'=>e = .returned (.int .i64 r)∧Below w.heap.size w w':=by
 have HTAB:=Aside0.mk hT
 clear hT
 have HB:=Aside0.mk (Below.refl w.heap.size w)
 have H:((impl_chars.f k a0).bind fun t331=>(impl_wideOf.l0 k 0 t331 (t331.length:Int) 0))=some r:=h
 clear h
 replace H:=Option.bind_eq_some_iff.mp H
 obtain ⟨t331,A20,H⟩:=H
 replace H:(impl_wideOf.l0 k 0 t331 (t331.length:Int) 0)=some r:=H
 have A2:=Aside0.mk A20
 clear A20
 have H':=Aside0.mk H
 clear H
 go_enter Tryd.func14,Tryd.ntmps14
 go_wp2_with (first|((with_reducible refine gate_callee (f:=30) rfl ?_);refine goesL_ (some 9) rfl rfl Tryd.func30 (by kernel_rfl) rfl #[.string a0] rfl (by (try simp only [List.map_toArray,List.map_cons,List.map_nil]);first|done|rfl|(simp only [List.length_drop,List.length_take];rfl)) ?_;(with_reducible refine (impl_chars.calls k a0 t331 _ ?side1 A2.out).mono ?_);(case side1=>first|exact HTAB.out|exact Tabs_drewN HTAB.out _|exact Tabs_below HTAB.out (by repeat (first|(with_reducible first|exact HB.out|apply below_alloc|apply pw_below_drewN|apply below_drew1)|exact HB.out)));rintro e w3 ⟨v332,rfl,ho0,hb⟩;refine ⟨_,rfl,?_⟩;have n0_:=Aside0.mk (Kd.R_lower ho0 (below_size (by repeat (first|(with_reducible first|exact HB.out|apply below_alloc|apply pw_below_drewN|apply below_drew1)|exact HB.out))));have n1_:=Aside0.mk (below_step (by repeat (first|(with_reducible first|exact HB.out|apply below_alloc|apply pw_below_drewN|apply below_drew1)|exact HB.out)) hb);clear HB;have HO333:=n0_;have HB:=n1_;clear n0_ n1_;(try clear hb);(try clear hb2);(try clear hk);(try clear hi);(try clear ho0);obtain ⟨Ao4,co4,eo4⟩:=Kd.R_slice HO333.out;subst eo4))
 go_loopg [3,11] k (fun kq v3 v11 w'=>∃ (x3_1:Int) (x11_1:Int),v3 = .int .i64 x3_1∧v11 = .int .i64 x11_1∧Aside0 (impl_wideOf.l0 kq x3_1 t331 (t331.length:Int) x11_1=some r)∧Aside0 (kq≤k)∧Aside0 (Kd.R Kd.string 9 w' w.heap.size (fun _=>True) (.slice Ao4 t331.length co4) t331)∧Aside0 (Below w.heap.size w w'))
 case atStart=>exact ⟨(0),(0),(by first|rfl|(simp;done)|(simp [*];done)),(by first|rfl|(simp;done)|(simp [*];done)),H',⟨Nat.le_refl _⟩,⟨by (with_reducible repeat (first|apply Kd.R_alloc|apply Kd.R_drewN|apply Kd.R_drew));exact HO333.out⟩,⟨by repeat (first|(with_reducible first|exact HB.out|apply below_alloc|apply pw_below_drewN|apply below_drew1)|exact HB.out)⟩⟩
 case round =>
  clear H'
  try clear c1
  try clear p2
  try clear c3
  obtain ⟨x3_1,x11_1,rfl,rfl,HA,HK1,HO_9,HB⟩:=hrel
  cases gk with
  | zero=>exact absurd HA.out (by simp [impl_wideOf.l0])
  | succ k1 =>
   have H:=HA.out
   clear HA
   simp only [impl_wideOf.l0] at H
   by_cases c5:x11_1<(t331.length:Int)
   ·
    rw [if_pos c5] at H
    have c5b0:decide (x11_1<(t331.length:Int))=true:=decide_eq_true c5
    clear c5
    by_cases c6:0≤x11_1
    ·
     rw [if_pos c6] at H
     have c6b0:decide (0≤x11_1)=true:=decide_eq_true c6
     clear c6
     by_cases c7:x11_1<(t331.length:Int)
     ·
      rw [if_pos c7] at H
      have c7b0:decide (x11_1<(t331.length:Int))=true:=decide_eq_true c7
      clear c7
      replace H:=Option.bind_eq_some_iff.mp H
      obtain ⟨t335,A80,H⟩:=H
      replace H:(if 0<(t335.length:Int) then ((impl_Category.f k1 (rd t335 0)).bind fun t339=>((impl_isSyllable.f (rd t335 0)).bind fun t340=>(if t340=true then (impl_wideOf.j1 k1 x3_1 t339 t331 (t331.length:Int) x11_1 true) else ((impl_in.f (rd t335 0) 24576 26623).bind fun t341=>(if t341=true then (impl_wideOf.j1 k1 x3_1 t339 t331 (t331.length:Int) x11_1 true) else ((impl_isPicture.f (rd t335 0)).bind fun t342=>(impl_wideOf.j1 k1 x3_1 t339 t331 (t331.length:Int) x11_1 t342))))))) else (none))=some r:=H
      have A8:=Aside0.mk A80
      clear A80
      by_cases c9:0<(t335.length:Int)
      ·
       rw [if_pos c9] at H
       have c9b0:decide (0<(t335.length:Int))=true:=decide_eq_true c9
       have c9b1:decide (0<t335.length)=true:=decide_eq_true (by omega)
       clear c9
       replace H:=Option.bind_eq_some_iff.mp H
       obtain ⟨t339,A100,H⟩:=H
       replace H:((impl_isSyllable.f (rd t335 0)).bind fun t340=>(if t340=true then (impl_wideOf.j1 k1 x3_1 t339 t331 (t331.length:Int) x11_1 true) else ((impl_in.f (rd t335 0) 24576 26623).bind fun t341=>(if t341=true then (impl_wideOf.j1 k1 x3_1 t339 t331 (t331.length:Int) x11_1 true) else ((impl_isPicture.f (rd t335 0)).bind fun t342=>(impl_wideOf.j1 k1 x3_1 t339 t331 (t331.length:Int) x11_1 t342))))))=some r:=H
       have A10:=Aside0.mk A100
       clear A100
       have HC11:=Aside0.mk H
       clear H
       have p334:0≤(x11_1:Int):=of_decide_eq_true (by first|(with_reducible assumption)|assumption)
       have q334:x11_1<(t331.length:Int):=of_decide_eq_true (by first|(with_reducible assumption)|assumption)
       obtain ⟨ad334,e334,hx334_0⟩:=Kd.at_string (Kd.R_reads' HO_9.out).2.2 x11_1 p334 q334
       cases e334
       replace p334:=eq_true p334
       replace q334:=eq_true q334
       go_upto_region 8 with (first|((with_reducible refine gate_callee (f:=20) rfl ?_);refine goesL_ (some 16) rfl rfl Tryd.func20 (by kernel_rfl) rfl #[.string (rdOf ByteArray.empty t331 x11_1)] rfl (by (try simp only [List.map_toArray,List.map_cons,List.map_nil]);first|done|rfl|(simp only [List.length_drop,List.length_take];rfl)) ?_;(with_reducible refine (impl_points.calls k1 (rdOf ByteArray.empty t331 x11_1) t335 _ ?side1 A8.out).mono ?_);(case side1=>first|exact HTAB.out|exact Tabs_drewN HTAB.out _|exact Tabs_below HTAB.out (by repeat (first|(with_reducible first|exact HB.out|apply below_alloc|apply pw_below_drewN|apply below_drew1)|exact HB.out)));rintro e w12 ⟨v336,rfl,ho0,hb⟩;refine ⟨_,rfl,?_⟩;have n0_:=Aside0.mk (Kd.R_below (by (with_reducible repeat (first|apply Kd.R_alloc|apply Kd.R_drewN|apply Kd.R_drew));exact HO_9.out) hb);have n1_:=Aside0.mk (Kd.R_lower ho0 (below_size (by repeat (first|(with_reducible first|exact HB.out|apply below_alloc|apply pw_below_drewN|apply below_drew1)|exact HB.out))));have n2_:=Aside0.mk (below_step (by repeat (first|(with_reducible first|exact HB.out|apply below_alloc|apply pw_below_drewN|apply below_drew1)|exact HB.out)) hb);clear HO_9;clear HB;have HO_9:=n0_;have HO337:=n1_;have HB:=n2_;clear n0_ n1_ n2_;(try clear hb);(try clear hb2);(try clear hk);(try clear hi);(try clear ho0);obtain ⟨Ao13,co13,eo13⟩:=Kd.R_slice HO337.out;subst eo13;have p338:0≤(0:Int):=(by omega);have q338:0<(t335.length:Int):=of_decide_eq_true (by first|(with_reducible assumption)|assumption);obtain ⟨ad338,e338,hx338_0⟩:=Kd.at_int (Kd.R_reads' HO337.out).2.2 0 p338 q338;cases e338;have qi338:(0<t335.length)=True:=eq_true (by omega);(try rw [show ((0:Int)).toNat=0 from rfl] at hx338_0);(try rw [Addr.add_zero'] at hx338_0);replace p338:=eq_true p338;replace q338:=eq_true q338)|((with_reducible refine gate_callee (f:=31) rfl ?_);refine goesL_ (some 20) rfl rfl Tryd.func31 (by kernel_rfl) rfl #[.int .i64 (rd t335 0)] rfl (by (try simp only [List.map_toArray,List.map_cons,List.map_nil]);first|done|rfl|(simp only [List.length_drop,List.length_take];rfl)) ?_;(with_reducible refine (impl_Category.calls k1 (rd t335 0) t339 _ A10.out).mono ?_);rintro e w' ⟨rfl,⟨nd,rfl⟩⟩;refine ⟨_,rfl,?_⟩))
       (try simp only [Act.put,List.setIfInBounds_toArray,List.set_cons_zero,List.set_cons_succ])
       go_cut [23] (fun v23 wc=>∃ (kq:Nat) (x23_10:Bool),v23 = .bool x23_10∧Aside0 (impl_wideOf.j1 kq x3_1 t339 t331 (t331.length:Int) x11_1 x23_10=some r)∧Aside0 (kq≤k1)∧Aside0 (Kd.R Kd.string 9 wc w.heap.size (fun _=>True) (.slice (some ad334) t331.length co4) t331)∧Aside0 (Below w.heap.size w wc))
       case first =>
        have H:=HC11.out
        clear HC11
        replace H:=Option.bind_eq_some_iff.mp H
        obtain ⟨t340,A140,H⟩:=H
        replace H:(if t340=true then (impl_wideOf.j1 k1 x3_1 t339 t331 (t331.length:Int) x11_1 true) else ((impl_in.f (rd t335 0) 24576 26623).bind fun t341=>(if t341=true then (impl_wideOf.j1 k1 x3_1 t339 t331 (t331.length:Int) x11_1 true) else ((impl_isPicture.f (rd t335 0)).bind fun t342=>(impl_wideOf.j1 k1 x3_1 t339 t331 (t331.length:Int) x11_1 t342)))))=some r:=H
        have A14:=Aside0.mk A140
        clear A140
        by_cases c15:t340=true
        ·
         subst c15
         have H1:(impl_wideOf.j1 k1 x3_1 t339 t331 (t331.length:Int) x11_1 true)=some r:=by rw [if_pos rfl] at H;exact H
         clear H
         have H:=H1
         clear H1
         have H':=Aside0.mk H
         clear H
         go_wp2_with (first|((with_reducible refine gate_callee (f:=32) rfl ?_);refine goesL_ (some 25) rfl rfl Tryd.func32 (by kernel_rfl) rfl #[.int .i64 (rd t335 0)] rfl (by (try simp only [List.map_toArray,List.map_cons,List.map_nil]);first|done|rfl|(simp only [List.length_drop,List.length_take];rfl)) ?_;(with_reducible refine (impl_isSyllable.calls (rd t335 0) true _ A14.out).mono ?_);rintro e w' ⟨rfl,⟨nd,rfl⟩⟩;refine ⟨_,rfl,?_⟩))
         go_meet
         case rel=>exact ⟨_,(true),(by first|rfl|(simp;done)|(simp [*];done)),H',⟨by have:=HK1.out;first|omega|exact Nat.le_refl _⟩,⟨by (with_reducible repeat (first|apply Kd.R_alloc|apply Kd.R_drewN|apply Kd.R_drew));exact HO_9.out⟩,⟨by repeat (first|(with_reducible first|exact HB.out|apply below_alloc|apply pw_below_drewN|apply below_drew1)|exact HB.out)⟩⟩
        ·
         replace c15:=Bool.eq_false_iff.mpr c15
         subst c15
         have H1:((impl_in.f (rd t335 0) 24576 26623).bind fun t341=>(if t341=true then (impl_wideOf.j1 k1 x3_1 t339 t331 (t331.length:Int) x11_1 true) else ((impl_isPicture.f (rd t335 0)).bind fun t342=>(impl_wideOf.j1 k1 x3_1 t339 t331 (t331.length:Int) x11_1 t342))))=some r:=by rw [if_neg (show ¬ (false=true) by decide)] at H;exact H
         clear H
         have H:=H1
         clear H1
         replace H:=Option.bind_eq_some_iff.mp H
         obtain ⟨t341,A160,H⟩:=H
         replace H:(if t341=true then (impl_wideOf.j1 k1 x3_1 t339 t331 (t331.length:Int) x11_1 true) else ((impl_isPicture.f (rd t335 0)).bind fun t342=>(impl_wideOf.j1 k1 x3_1 t339 t331 (t331.length:Int) x11_1 t342)))=some r:=H
         have A16:=Aside0.mk A160
         clear A160
         by_cases c17:t341=true
         ·
          subst c17
          have H1:(impl_wideOf.j1 k1 x3_1 t339 t331 (t331.length:Int) x11_1 true)=some r:=by rw [if_pos rfl] at H;exact H
          clear H
          have H:=H1
          clear H1
          have H':=Aside0.mk H
          clear H
          go_wp2_with (first|((with_reducible refine gate_callee (f:=32) rfl ?_);refine goesL_ (some 25) rfl rfl Tryd.func32 (by kernel_rfl) rfl #[.int .i64 (rd t335 0)] rfl (by (try simp only [List.map_toArray,List.map_cons,List.map_nil]);first|done|rfl|(simp only [List.length_drop,List.length_take];rfl)) ?_;(with_reducible refine (impl_isSyllable.calls (rd t335 0) false _ A14.out).mono ?_);rintro e w' ⟨rfl,⟨nd,rfl⟩⟩;refine ⟨_,rfl,?_⟩)|(go_at_call 33;(with_reducible refine (impl_in.calls (rd t335 0) 24576 26623 true _ A16.out).mono ?_);rintro e w' ⟨rfl,⟨nd,rfl⟩⟩))
          go_meet
          case rel=>exact ⟨_,(true),(by first|rfl|(simp;done)|(simp [*];done)),H',⟨by have:=HK1.out;first|omega|exact Nat.le_refl _⟩,⟨by (with_reducible repeat (first|apply Kd.R_alloc|apply Kd.R_drewN|apply Kd.R_drew));exact HO_9.out⟩,⟨by repeat (first|(with_reducible first|exact HB.out|apply below_alloc|apply pw_below_drewN|apply below_drew1)|exact HB.out)⟩⟩
         ·
          replace c17:=Bool.eq_false_iff.mpr c17
          subst c17
          have H1:((impl_isPicture.f (rd t335 0)).bind fun t342=>(impl_wideOf.j1 k1 x3_1 t339 t331 (t331.length:Int) x11_1 t342))=some r:=by rw [if_neg (show ¬ (false=true) by decide)] at H;exact H
          clear H
          have H:=H1
          clear H1
          replace H:=Option.bind_eq_some_iff.mp H
          obtain ⟨t342,A180,H⟩:=H
          replace H:(impl_wideOf.j1 k1 x3_1 t339 t331 (t331.length:Int) x11_1 t342)=some r:=H
          have A18:=Aside0.mk A180
          clear A180
          have H':=Aside0.mk H
          clear H
          go_wp2_with (first|((with_reducible refine gate_callee (f:=32) rfl ?_);refine goesL_ (some 25) rfl rfl Tryd.func32 (by kernel_rfl) rfl #[.int .i64 (rd t335 0)] rfl (by (try simp only [List.map_toArray,List.map_cons,List.map_nil]);first|done|rfl|(simp only [List.length_drop,List.length_take];rfl)) ?_;(with_reducible refine (impl_isSyllable.calls (rd t335 0) false _ A14.out).mono ?_);rintro e w' ⟨rfl,⟨nd,rfl⟩⟩;refine ⟨_,rfl,?_⟩)|(go_at_call 33;(with_reducible refine (impl_in.calls (rd t335 0) 24576 26623 false _ A16.out).mono ?_);rintro e w' ⟨rfl,⟨nd,rfl⟩⟩)|(go_at_call 34;(with_reducible refine (impl_isPicture.calls (rd t335 0) t342 _ A18.out).mono ?_);rintro e w' ⟨rfl,⟨nd,rfl⟩⟩))
          go_meet
          case rel=>exact ⟨_,(t342),(by first|rfl|(simp;done)|(simp [*];done)),H',⟨by have:=HK1.out;first|omega|exact Nat.le_refl _⟩,⟨by (with_reducible repeat (first|apply Kd.R_alloc|apply Kd.R_drewN|apply Kd.R_drew));exact HO_9.out⟩,⟨by repeat (first|(with_reducible first|exact HB.out|apply below_alloc|apply pw_below_drewN|apply below_drew1)|exact HB.out)⟩⟩
       case rest =>
        clear HC11
        try clear c1
        try clear c2
        try clear p2
        try clear c3
        try clear p3
        try clear q3
        try clear hx3
        try clear qi3
        try clear c5
        try clear c5b0
        try clear c6
        try clear c6b0
        try clear c7
        try clear c7b0
        try clear c9
        try clear c9b0
        try clear c9b1
        try clear c14
        try clear c15
        try clear c17
        try clear hx334_0
        try clear hx338_0
        try clear p2
        try clear p334
        try clear p338
        try clear q334
        try clear q338
        obtain ⟨kq,x23_10,rfl,HA,HJ10,HO_9,HB⟩:=hcut
        cases kq with
        | zero=>exact absurd HA.out (by simp [impl_wideOf.j1])
        | succ kj10 =>
         have H:=HA.out
         clear HA
         simp only [impl_wideOf.j1] at H
         by_cases c19:x23_10=true
         ·
          subst c19
          have H1:(impl_wideOf.l0 kj10 (wrap64 (x3_1+2)) t331 (t331.length:Int) (wrap64 (x11_1+1)))=some r:=by rw [if_pos rfl] at H;exact H
          clear H
          have H:=H1
          clear H1
          have H':=Aside0.mk H
          clear H
          go_wp2
          go_roundg kj10
          case measure=>have:=HK1.out;have:=HJ10.out;omega
          case rel=>exact ⟨(wrap64 (x3_1+2)),(wrap64 (x11_1+1)),(by first|rfl|(simp;done)|(simp [*];done)),(by first|rfl|(simp;done)|(simp [*];done)),H',⟨by have:=HK1.out;have:=HJ10.out;omega⟩,⟨by (with_reducible repeat (first|apply Kd.R_alloc|apply Kd.R_drewN|apply Kd.R_drew));exact HO_9.out⟩,⟨by repeat (first|(with_reducible first|exact HB.out|apply below_alloc|apply pw_below_drewN|apply below_drew1)|exact HB.out)⟩⟩
         ·
          replace c19:=Bool.eq_false_iff.mpr c19
          subst c19
          have H1:(if t339=1 then (impl_wideOf.l0 kj10 x3_1 t331 (t331.length:Int) (wrap64 (x11_1+1))) else (if t339=11 then (impl_wideOf.l0 kj10 x3_1 t331 (t331.length:Int) (wrap64 (x11_1+1))) else (if t339=3 then (impl_wideOf.l0 kj10 x3_1 t331 (t331.length:Int) (wrap64 (x11_1+1))) else (impl_wideOf.l0 kj10 (wrap64 (x3_1+1)) t331 (t331.length:Int) (wrap64 (x11_1+1))))))=some r:=by rw [if_neg (show ¬ (false=true) by decide)] at H;exact H
          clear H
          have H:=H1
          clear H1
          by_cases c20:t339=1
          ·
           rw [if_pos c20] at H
           have c20b0:(t339 == 1)=true:=beq_iff_eq.mpr c20
           have c20b1:(t339 != 1)=false:=bne_eq_false_iff_eq.mpr c20
           clear c20
           have H':=Aside0.mk H
           clear H
           go_wp2
           go_roundg kj10
           case measure=>have:=HK1.out;have:=HJ10.out;omega
           case rel=>exact ⟨(x3_1),(wrap64 (x11_1+1)),(by first|rfl|(simp;done)|(simp [*];done)),(by first|rfl|(simp;done)|(simp [*];done)),H',⟨by have:=HK1.out;have:=HJ10.out;omega⟩,⟨by (with_reducible repeat (first|apply Kd.R_alloc|apply Kd.R_drewN|apply Kd.R_drew));exact HO_9.out⟩,⟨by repeat (first|(with_reducible first|exact HB.out|apply below_alloc|apply pw_below_drewN|apply below_drew1)|exact HB.out)⟩⟩
          ·
           rw [if_neg c20] at H
           have c20b0:(t339 == 1)=false:=beq_eq_false_iff_ne.mpr c20
           have c20b1:(t339 != 1)=true:=bne_iff_ne.mpr c20
           by_cases c21:t339=11
           ·
            rw [if_pos c21] at H
            have c21b0:(t339 == 11)=true:=beq_iff_eq.mpr c21
            have c21b1:(t339 != 11)=false:=bne_eq_false_iff_eq.mpr c21
            clear c21
            have H':=Aside0.mk H
            clear H
            go_wp2
            go_roundg kj10
            case measure=>have:=HK1.out;have:=HJ10.out;omega
            case rel=>exact ⟨(x3_1),(wrap64 (x11_1+1)),(by first|rfl|(simp;done)|(simp [*];done)),(by first|rfl|(simp;done)|(simp [*];done)),H',⟨by have:=HK1.out;have:=HJ10.out;omega⟩,⟨by (with_reducible repeat (first|apply Kd.R_alloc|apply Kd.R_drewN|apply Kd.R_drew));exact HO_9.out⟩,⟨by repeat (first|(with_reducible first|exact HB.out|apply below_alloc|apply pw_below_drewN|apply below_drew1)|exact HB.out)⟩⟩
           ·
            rw [if_neg c21] at H
            have c21b0:(t339 == 11)=false:=beq_eq_false_iff_ne.mpr c21
            have c21b1:(t339 != 11)=true:=bne_iff_ne.mpr c21
            by_cases c22:t339=3
            ·
             rw [if_pos c22] at H
             have c22b0:(t339 == 3)=true:=beq_iff_eq.mpr c22
             have c22b1:(t339 != 3)=false:=bne_eq_false_iff_eq.mpr c22
             clear c22
             have H':=Aside0.mk H
             clear H
             go_wp2
             go_roundg kj10
             case measure=>have:=HK1.out;have:=HJ10.out;omega
             case rel=>exact ⟨(x3_1),(wrap64 (x11_1+1)),(by first|rfl|(simp;done)|(simp [*];done)),(by first|rfl|(simp;done)|(simp [*];done)),H',⟨by have:=HK1.out;have:=HJ10.out;omega⟩,⟨by (with_reducible repeat (first|apply Kd.R_alloc|apply Kd.R_drewN|apply Kd.R_drew));exact HO_9.out⟩,⟨by repeat (first|(with_reducible first|exact HB.out|apply below_alloc|apply pw_below_drewN|apply below_drew1)|exact HB.out)⟩⟩
            ·
             rw [if_neg c22] at H
             have c22b0:(t339 == 3)=false:=beq_eq_false_iff_ne.mpr c22
             have c22b1:(t339 != 3)=true:=bne_iff_ne.mpr c22
             have H':=Aside0.mk H
             clear H
             go_wp2
             go_roundg kj10
             case measure=>have:=HK1.out;have:=HJ10.out;omega
             case rel=>exact ⟨(wrap64 (x3_1+1)),(wrap64 (x11_1+1)),(by first|rfl|(simp;done)|(simp [*];done)),(by first|rfl|(simp;done)|(simp [*];done)),H',⟨by have:=HK1.out;have:=HJ10.out;omega⟩,⟨by (with_reducible repeat (first|apply Kd.R_alloc|apply Kd.R_drewN|apply Kd.R_drew));exact HO_9.out⟩,⟨by repeat (first|(with_reducible first|exact HB.out|apply below_alloc|apply pw_below_drewN|apply below_drew1)|exact HB.out)⟩⟩
      ·
       rw [if_neg c9] at H
       exact absurd H (by simp)
     ·
      rw [if_neg c7] at H
      exact absurd H (by simp)
    ·
     rw [if_neg c6] at H
     exact absurd H (by simp)
   ·
    rw [if_neg c5] at H
    have c5b0:decide (x11_1<(t331.length:Int))=false:=decide_eq_false c5
    clear c5
    obtain rfl:=Option.some.inj H
    go_wp2
    go_ret
    exact ⟨by first|rfl|(simp [errW_none,errW_some] <;> rfl)|(simp [*,errW_none,errW_some] <;> rfl),by repeat (first|(with_reducible first|exact HB.out|apply below_alloc|apply pw_below_drewN|apply below_drew1)|exact HB.out)⟩
def impl_WideOf.f (k:Nat) (a0:ByteArray):Option (Int):=(impl_long.f a0).bind fun t343=>(if t343=true then (some 0) else ((impl_wideOf.f k a0).bind fun t344=>(some t344)))
set_option maxHeartbeats 8000000 in
set_option maxRecDepth 100000 in
theorem impl_WideOf.calls (k:Nat) (a0:ByteArray) (r:Int) (w:World) (hT:Tabs w) (h:impl_WideOf.f k a0=some r) :
  Calls Tryd.prog 7 #[.string a0] w fun e w'=>e = .returned (.int .i64 r)∧Below w.heap.size w w':=by
 have HTAB:=Aside0.mk hT
 clear hT
 have HB:=Aside0.mk (Below.refl w.heap.size w)
 have H:((impl_long.f a0).bind fun t343=>(if t343=true then (some 0) else ((impl_wideOf.f k a0).bind fun t344=>(some t344))))=some r:=h
 clear h
 replace H:=Option.bind_eq_some_iff.mp H
 obtain ⟨t343,A20,H⟩:=H
 replace H:(if t343=true then (some 0) else ((impl_wideOf.f k a0).bind fun t344=>(some t344)))=some r:=H
 have A2:=Aside0.mk A20
 clear A20
 by_cases c3:t343=true
 ·
  subst c3
  have H1:(some 0)=some r:=by rw [if_pos rfl] at H;exact H
  clear H
  have H:=H1
  clear H1
  obtain rfl:=Option.some.inj H
  go_enter Tryd.func7,Tryd.ntmps7
  go_wp2_with (first|((with_reducible refine gate_callee (f:=13) rfl ?_);refine goesL_ (some 4) rfl rfl Tryd.func13 (by kernel_rfl) rfl #[.string a0] rfl (by (try simp only [List.map_toArray,List.map_cons,List.map_nil]);first|done|rfl|(simp only [List.length_drop,List.length_take];rfl)) ?_;(with_reducible refine (impl_long.calls a0 true _ A2.out).mono ?_);rintro e w' ⟨rfl,⟨nd,rfl⟩⟩;refine ⟨_,rfl,?_⟩))
  go_ret
  exact ⟨by first|rfl|(simp [errW_none,errW_some] <;> rfl)|(simp [*,errW_none,errW_some] <;> rfl),by repeat (first|(with_reducible first|exact HB.out|apply below_alloc|apply pw_below_drewN|apply below_drew1)|exact HB.out)⟩
 ·
  replace c3:=Bool.eq_false_iff.mpr c3
  subst c3
  have H1:((impl_wideOf.f k a0).bind fun t344=>(some t344))=some r:=by rw [if_neg (show ¬ (false=true) by decide)] at H;exact H
  clear H
  have H:=H1
  clear H1
  replace H:=Option.bind_eq_some_iff.mp H
  obtain ⟨t344,A40,H⟩:=H
  replace H:(some t344)=some r:=H
  have A4:=Aside0.mk A40
  clear A40
  obtain rfl:=Option.some.inj H
  go_enter Tryd.func7,Tryd.ntmps7
  go_wp2_with (first|((with_reducible refine gate_callee (f:=13) rfl ?_);refine goesL_ (some 4) rfl rfl Tryd.func13 (by kernel_rfl) rfl #[.string a0] rfl (by (try simp only [List.map_toArray,List.map_cons,List.map_nil]);first|done|rfl|(simp only [List.length_drop,List.length_take];rfl)) ?_;(with_reducible refine (impl_long.calls a0 false _ A2.out).mono ?_);rintro e w' ⟨rfl,⟨nd,rfl⟩⟩;refine ⟨_,rfl,?_⟩)|((with_reducible refine gate_callee (f:=14) rfl ?_);refine goesL_ (some 6) rfl rfl Tryd.func14 (by kernel_rfl) rfl #[.string a0] rfl (by (try simp only [List.map_toArray,List.map_cons,List.map_nil]);first|done|rfl|(simp only [List.length_drop,List.length_take];rfl)) ?_;(with_reducible refine (impl_wideOf.calls k a0 t344 _ ?side1 A4.out).mono ?_);(case side1=>first|exact HTAB.out|exact Tabs_drewN HTAB.out _|exact Tabs_below HTAB.out (by repeat (first|(with_reducible first|exact HB.out|apply below_alloc|apply pw_below_drewN|apply below_drew1)|exact HB.out)));rintro e w5 ⟨rfl,hb⟩;refine ⟨_,rfl,?_⟩;have n0_:=Aside0.mk (below_step (by repeat (first|(with_reducible first|exact HB.out|apply below_alloc|apply pw_below_drewN|apply below_drew1)|exact HB.out)) hb);clear HB;have HB:=n0_;clear n0_;(try clear hb);(try clear hb2);(try clear hk);(try clear hi)))
  go_ret
  exact ⟨by first|rfl|(simp [errW_none,errW_some] <;> rfl)|(simp [*,errW_none,errW_some] <;> rfl),by repeat (first|(with_reducible first|exact HB.out|apply below_alloc|apply pw_below_drewN|apply below_drew1)|exact HB.out)⟩
def laws_FnExactWideOf.f (k:Nat) (a0:ByteArray):Option (Bool):=if (a0.size:Int)>1048576 then (some true) else ((spec_WideOf.f k a0).bind fun t345=>((impl_WideOf.f k a0).bind fun t346=>(if t346=t345 then (some true) else (some false))))
set_option maxHeartbeats 8000000 in
set_option maxRecDepth 100000 in
theorem laws_FnExactWideOf.calls (k:Nat) (a0:ByteArray) (r:Bool) (w:World) (hT:Tabs w) (h:laws_FnExactWideOf.f k a0=some r) :
  Calls Tryd.prog 3 #[.string a0] w fun e w'=>e = .returned (.bool r)∧Below w.heap.size w w':=by
 have HTAB:=Aside0.mk hT
 clear hT
 have HB:=Aside0.mk (Below.refl w.heap.size w)
 have H:(if (a0.size:Int)>1048576 then (some true) else ((spec_WideOf.f k a0).bind fun t345=>((impl_WideOf.f k a0).bind fun t346=>(if t346=t345 then (some true) else (some false)))))=some r:=h
 clear h
 by_cases c2:(a0.size:Int)>1048576
 ·
  rw [if_pos c2] at H
  have c2b0:decide (1048576<(a0.size:Int))=true:=decide_eq_true c2
  have c2b1:decide (1048576<a0.size)=true:=decide_eq_true (by omega)
  clear c2
  obtain rfl:=Option.some.inj H
  go_enter Tryd.func3,Tryd.ntmps3
  go_wp2
  go_ret
  exact ⟨by first|rfl|(simp [errW_none,errW_some] <;> rfl)|(simp [*,errW_none,errW_some] <;> rfl),by repeat (first|(with_reducible first|exact HB.out|apply below_alloc|apply pw_below_drewN|apply below_drew1)|exact HB.out)⟩
 ·
  rw [if_neg c2] at H
  have c2b0:decide (1048576<(a0.size:Int))=false:=decide_eq_false c2
  have c2b1:decide (1048576<a0.size)=false:=decide_eq_false (by omega)
  clear c2
  replace H:=Option.bind_eq_some_iff.mp H
  obtain ⟨t345,A30,H⟩:=H
  replace H:((impl_WideOf.f k a0).bind fun t346=>(if t346=t345 then (some true) else (some false)))=some r:=H
  have A3:=Aside0.mk A30
  clear A30
  replace H:=Option.bind_eq_some_iff.mp H
  obtain ⟨t346,A40,H⟩:=H
  replace H:(if t346=t345 then (some true) else (some false))=some r:=H
  have A4:=Aside0.mk A40
  clear A40
  by_cases c5:t346=t345
  ·
   rw [if_pos c5] at H
   have c5b0:(t346 == t345)=true:=beq_iff_eq.mpr c5
   have c5b1:(t346 != t345)=false:=bne_eq_false_iff_eq.mpr c5
   clear c5
   obtain rfl:=Option.some.inj H
   go_enter Tryd.func3,Tryd.ntmps3
   go_wp2_with (first|((with_reducible refine gate_callee (f:=6) rfl ?_);refine goesL_ (some 9) rfl rfl Tryd.func6 (by kernel_rfl) rfl #[.string a0] rfl (by (try simp only [List.map_toArray,List.map_cons,List.map_nil]);first|done|rfl|(simp only [List.length_drop,List.length_take];rfl)) ?_;(with_reducible refine (spec_WideOf.calls k a0 t345 _ A3.out).mono ?_);rintro e w6 ⟨rfl,hb⟩;refine ⟨_,rfl,?_⟩;have n0_:=Aside0.mk (below_step (by repeat (first|(with_reducible first|exact HB.out|apply below_alloc|apply pw_below_drewN|apply below_drew1)|exact HB.out)) hb);clear HB;have HB:=n0_;clear n0_;(try clear hb);(try clear hb2);(try clear hk);(try clear hi))|((with_reducible refine gate_callee (f:=7) rfl ?_);refine goesL_ (some 11) rfl rfl Tryd.func7 (by kernel_rfl) rfl #[.string a0] rfl (by (try simp only [List.map_toArray,List.map_cons,List.map_nil]);first|done|rfl|(simp only [List.length_drop,List.length_take];rfl)) ?_;(with_reducible refine (impl_WideOf.calls k a0 t346 _ ?side1 A4.out).mono ?_);(case side1=>first|exact HTAB.out|exact Tabs_drewN HTAB.out _|exact Tabs_below HTAB.out (by repeat (first|(with_reducible first|exact HB.out|apply below_alloc|apply pw_below_drewN|apply below_drew1)|exact HB.out)));rintro e w7 ⟨rfl,hb⟩;refine ⟨_,rfl,?_⟩;have n0_:=Aside0.mk (below_step (by repeat (first|(with_reducible first|exact HB.out|apply below_alloc|apply pw_below_drewN|apply below_drew1)|exact HB.out)) hb);clear HB;have HB:=n0_;clear n0_;(try clear hb);(try clear hb2);(try clear hk);(try clear hi)))
   go_ret
   exact ⟨by first|rfl|(simp [errW_none,errW_some] <;> rfl)|(simp [*,errW_none,errW_some] <;> rfl),by repeat (first|(with_reducible first|exact HB.out|apply below_alloc|apply pw_below_drewN|apply below_drew1)|exact HB.out)⟩
  ·
   rw [if_neg c5] at H
   have c5b0:(t346 == t345)=false:=beq_eq_false_iff_ne.mpr c5
   have c5b1:(t346 != t345)=true:=bne_iff_ne.mpr c5
   obtain rfl:=Option.some.inj H
   go_enter Tryd.func3,Tryd.ntmps3
   go_wp2_with (first|((with_reducible refine gate_callee (f:=6) rfl ?_);refine goesL_ (some 9) rfl rfl Tryd.func6 (by kernel_rfl) rfl #[.string a0] rfl (by (try simp only [List.map_toArray,List.map_cons,List.map_nil]);first|done|rfl|(simp only [List.length_drop,List.length_take];rfl)) ?_;(with_reducible refine (spec_WideOf.calls k a0 t345 _ A3.out).mono ?_);rintro e w8 ⟨rfl,hb⟩;refine ⟨_,rfl,?_⟩;have n0_:=Aside0.mk (below_step (by repeat (first|(with_reducible first|exact HB.out|apply below_alloc|apply pw_below_drewN|apply below_drew1)|exact HB.out)) hb);clear HB;have HB:=n0_;clear n0_;(try clear hb);(try clear hb2);(try clear hk);(try clear hi))|((with_reducible refine gate_callee (f:=7) rfl ?_);refine goesL_ (some 11) rfl rfl Tryd.func7 (by kernel_rfl) rfl #[.string a0] rfl (by (try simp only [List.map_toArray,List.map_cons,List.map_nil]);first|done|rfl|(simp only [List.length_drop,List.length_take];rfl)) ?_;(with_reducible refine (impl_WideOf.calls k a0 t346 _ ?side1 A4.out).mono ?_);(case side1=>first|exact HTAB.out|exact Tabs_drewN HTAB.out _|exact Tabs_below HTAB.out (by repeat (first|(with_reducible first|exact HB.out|apply below_alloc|apply pw_below_drewN|apply below_drew1)|exact HB.out)));rintro e w9 ⟨rfl,hb⟩;refine ⟨_,rfl,?_⟩;have n0_:=Aside0.mk (below_step (by repeat (first|(with_reducible first|exact HB.out|apply below_alloc|apply pw_below_drewN|apply below_drew1)|exact HB.out)) hb);clear HB;have HB:=n0_;clear n0_;(try clear hb);(try clear hb2);(try clear hk);(try clear hi)))
   go_ret
   exact ⟨by first|rfl|(simp [errW_none,errW_some] <;> rfl)|(simp [*,errW_none,errW_some] <;> rfl),by repeat (first|(with_reducible first|exact HB.out|apply below_alloc|apply pw_below_drewN|apply below_drew1)|exact HB.out)⟩
end Go.Proofs.YtjppikolddklfaaDoor.PW
end
section
namespace Go.Proofs.YtjppikolddklfaaDoor.PW
open Go.RowKit Go.Proofs.YtjppikolddklfaaDoorW.PrintWords Go.Proofs.YtjppikolddklfaaDoorW.PrintLast Go.Proofs.YtjppikolddklfaaDoorW.PrintMore
set_option linter.unusedVariables false
set_option linter.unusedSimpArgs false
theorem w64 {x:Int} (h1 : -9223372036854775808≤x) (h2:x≤9223372036854775807):wrap64 x=x:=by unfold wrap64;omega
def gb (s:ByteArray) (i:Nat):Nat:=(s.get! i).toNat
theorem gb_lt (s:ByteArray) (i:Nat):gb s i<256:=(s.get! i).toNat_lt
theorem get!_eq (s:ByteArray) (i:Nat) (h:i<s.size):s.get! i=s[i]'h:=by
 cases s with|mk d=>exact getElem!_pos d i h
theorem bt_gb (s:ByteArray) (i:Nat) (h:i<s.size):bt s (i:Int)=(gb s i:Int):=by
 unfold bt gb
 rw [Int.toNat_natCast,dif_pos h,get!_eq s i h]
def dec (s:ByteArray) (i:Nat):Nat × Nat:=Lib.decodeN (s.size-i) (gb s i) (gb s (i+1)) (gb s (i+2)) (gb s (i+3))
theorem strOfNums_size (l:List Int):(strOfNums l).size=l.length:=by simp [strOfNums,ByteArray.size]
def wr1 (x0:Int):ByteArray:=if x0<128 then (strOfNums (([(x0) % 256]:List Int))) else (if x0<2048 then (strOfNums (([(wrap64 (192+(wrap64 (Int.tdiv x0 64)))) % 256,(wrap64 (128+(Int.tmod x0 64))) % 256]:List Int))) else (if x0<65536 then (strOfNums (([(wrap64 (224+(wrap64 (Int.tdiv x0 4096)))) % 256,(wrap64 (128+(Int.tmod (wrap64 (Int.tdiv x0 64)) 64))) % 256,(wrap64 (128+(Int.tmod x0 64))) % 256]:List Int))) else (strOfNums (([(wrap64 (240+(wrap64 (Int.tdiv x0 262144)))) % 256,(wrap64 (128+(Int.tmod (wrap64 (Int.tdiv x0 4096)) 64))) % 256,(wrap64 (128+(Int.tmod (wrap64 (Int.tdiv x0 64)) 64))) % 256,(wrap64 (128+(Int.tmod x0 64))) % 256]:List Int)))))
def isPt (p:Int):Bool:=decide (0≤p) && decide (p≤1114111) && (decide (p<55296) || decide (p>57343))
def wr (p:Int):ByteArray:=if isPt p=true then wr1 p else wr1 65533
theorem isPoint_eq (p:Int):spec_l01IsPoint.f p=some (isPt p):=by
 unfold spec_l01IsPoint.f isPt
 by_cases h0:p≥0
 ·
  rw [if_pos h0]
  by_cases h1:p≤1114111
  ·
   rw [if_pos h1]
   by_cases h2:p<55296
   ·
    rw [if_pos h2];simp [h1,h2];omega
   ·
    rw [if_neg h2];simp [h1,h2];omega
  ·
   rw [if_neg h1];simp [h1]
 ·
  rw [if_neg h0];simp;omega
theorem write_eq (k:Nat) (p:Int):spec_l01Write.f (k+1) p=some (wr p):=by
 unfold spec_l01Write.f
 rw [isPoint_eq]
 simp only [Option.bind_some]
 have hj:∀ x,spec_l01Write.j0 (k+1) x=some (wr1 x):=fun x=>by
  simp only [spec_l01Write.j0,wr1]
  repeat' split
  all_goals rfl
 rw [hj,hj]
 unfold wr
 split <;> rfl
theorem wr1_size (p:Int):(wr1 p).size=if p<128 then 1 else if p<2048 then 2 else if p<65536 then 3 else 4:=by
 unfold wr1
 repeat' split
 all_goals simp [strOfNums_size]
theorem wr_size (p:Int) (h:isPt p=true):(wr p).size=if p<128 then 1 else if p<2048 then 2 else if p<65536 then 3 else 4:=by
 unfold wr;rw [if_pos h,wr1_size]
theorem next_step (s:ByteArray) (i n j:Nat) (p:Nat) (hs:s.size≤1099511627776) (hj:j≤n) (hn:i+n<s.size) (hp:p<2097152) (k:Nat) :
  spec_l01Next.l0 (k+1) s i n p j=if 128≤gb s (i+j)∧gb s (i+j)<192 then spec_l01Next.l0 k s i n ((p*64+gb s (i+j) % 64:Nat):Int) ((j+1:Nat):Int) else some (65533,1,false):=by
 have hb:=gb_lt s (i+j)
 have e1:wrap64 ((i:Int)+(j:Int))=((i+j:Nat):Int):=by rw [w64 (by omega) (by omega)];omega
 have e2:=bt_gb s (i+j) (by omega)
 have e3:wrap64 ((gb s (i+j):Nat):Int)=(gb s (i+j):Int):=w64 (by omega) (by omega)
 simp only [spec_l01Next.l0,e1,e2,e3]
 rw [if_pos (by omega),if_pos (by omega),if_pos (by omega)]
 by_cases h1:gb s (i+j)<128
 ·
  rw [if_pos (by omega),if_neg (by omega)]
 ·
  rw [if_neg (by omega)]
  by_cases h2:gb s (i+j)<192
  ·
   rw [if_neg (by omega),if_pos (by omega)]
   have e4:wrap64 (wrap64 ((p:Int)*64)+((gb s (i+j):Nat):Int).tmod 64)=((p*64+gb s (i+j) % 64:Nat):Int):=by
    rw [w64 (x:=(p:Int)*64) (by omega) (by omega),Int.tmod_eq_emod_of_nonneg (by omega),w64 (by omega) (by omega)];omega
   have e5:wrap64 ((j:Int)+1)=((j+1:Nat):Int):=by rw [w64 (by omega) (by omega)];omega
   rw [e4,e5]
  ·
   rw [if_pos (by omega),if_neg (by omega)]
theorem next_end (s:ByteArray) (i n:Nat) (p:Nat) (hn:n≤3) (k:Nat) :
  spec_l01Next.l0 (k+2) s i n p ((n+1:Nat):Int)=if isPt p=true∧(wr p).size=n+1 then some ((p:Int),((n+1:Nat):Int),true) else some (65533,1,false):=by
 have e1:wrap64 ((n:Int)+1)=((n+1:Nat):Int):=by rw [w64 (by omega) (by omega)];omega
 rw [spec_l01Next.l0,if_neg (by omega),isPoint_eq,Option.bind_some,write_eq,Option.bind_some,e1]
 by_cases h1:isPt p=true
 ·
  rw [if_pos h1]
  by_cases h2:(wr p).size=n+1
  ·
   rw [if_pos (by omega),if_pos ⟨h1,h2⟩]
  ·
   rw [if_neg (by omega),if_neg (fun h=>h2 h.2)]
 ·
  rw [if_neg h1,if_neg (fun h=>h1 h.1)]
theorem next_j2 (s:ByteArray) (i n:Nat) (p:Nat) (hs:s.size≤1099511627776) (hi:i<s.size) (hn:n≤3) (k:Nat) :
  spec_l01Next.j2 (k+1) s i n p=if i+n<s.size then spec_l01Next.l0 k s i n p 1 else some (65533,1,false):=by
 have e1:wrap64 ((i:Int)+(n:Int))=((i+n:Nat):Int):=by rw [w64 (by omega) (by omega)];omega
 simp only [spec_l01Next.j2,e1]
 by_cases h:i+n<s.size
 ·
  rw [if_neg (by omega),if_pos h]
 ·
  rw [if_pos (by omega),if_neg h]
theorem isPt_nat (p:Nat):isPt (p:Int)=decide (p≤1114111∧(p<55296∨57344≤p)):=by
 unfold isPt
 rw [Bool.eq_iff_iff]
 simp only [Bool.and_eq_true,Bool.or_eq_true,decide_eq_true_eq]
 omega
theorem wr_size_nat (p:Nat) (h:isPt (p:Int)=true):(wr (p:Int)).size=if p<128 then 1 else if p<2048 then 2 else if p<65536 then 3 else 4:=by
 rw [wr_size _ h]
 repeat' split
 all_goals first|rfl|(exfalso;omega)
def nextV (s:ByteArray) (i:Nat):Int × Int × Bool:=(((dec s i).1:Int),((dec s i).2:Int),decide ¬((dec s i).1=65533∧(dec s i).2=1))
theorem next_one (s:ByteArray) (i:Nat) (hs:s.size≤1099511627776) (hi:i<s.size) (p:Nat) (hp:p<32) (k:Nat) :
  spec_l01Next.j2 (k+5) s i ((1:Nat):Int) p=if 1<s.size-i∧gb s (i+1) / 64=2∧128≤p*64+gb s (i+1) % 64 then some (((p*64+gb s (i+1) % 64:Nat):Int),2,true) else some (65533,1,false):=by
 have hb:=gb_lt s (i+1)
 rw [next_j2 s i 1 p hs hi (by omega)]
 by_cases h1:i+1<s.size
 ·
  rw [if_pos h1,show (1:Int)=((1:Nat):Int) from rfl,next_step s i 1 1 p hs (by omega) (by omega) (by omega)]
  by_cases h2:128≤gb s (i+1)∧gb s (i+1)<192
  ·
   rw [if_pos h2,next_end s i 1 _ (by omega)]
   have hpt:isPt ((p*64+gb s (i+1) % 64:Nat):Int)=true:=by rw [isPt_nat];simp;omega
   by_cases h3:128≤p*64+gb s (i+1) % 64
   ·
    have hz:=wr_size_nat _ hpt
    rw [if_neg (by omega),if_pos (by omega)] at hz
    rw [if_pos ⟨hpt,hz⟩,if_pos (by omega)];rfl
   ·
    have hz:=wr_size_nat _ hpt
    rw [if_pos (by omega)] at hz
    rw [if_neg (fun h=>by have:=h.2;omega),if_neg (by omega)] <;> rfl
  ·
   rw [if_neg h2,if_neg (by omega)] <;> rfl
 ·
  rw [if_neg h1,if_neg (by omega)] <;> rfl
theorem next_two (s:ByteArray) (i:Nat) (hs:s.size≤1099511627776) (hi:i<s.size) (p:Nat) (hp:p<16) (k:Nat) :
  spec_l01Next.j2 (k+6) s i ((2:Nat):Int) p=if (2<s.size-i∧gb s (i+1) / 64=2∧gb s (i+2) / 64=2)∧(p*4096+gb s (i+1) % 64*64+gb s (i+2) % 64≥2048∧(p*4096+gb s (i+1) % 64*64+gb s (i+2) % 64<55296∨57344≤p*4096+gb s (i+1) % 64*64+gb s (i+2) % 64)) then some (((p*4096+gb s (i+1) % 64*64+gb s (i+2) % 64:Nat):Int),3,true) else some (65533,1,false):=by
 have hb:=gb_lt s (i+1)
 have hc:=gb_lt s (i+2)
 rw [next_j2 s i 2 p hs hi (by omega)]
 by_cases h1:i+2<s.size
 ·
  rw [if_pos h1,show (1:Int)=((1:Nat):Int) from rfl,next_step s i 2 1 p hs (by omega) (by omega) (by omega)]
  by_cases h2:128≤gb s (i+1)∧gb s (i+1)<192
  ·
   rw [if_pos h2,next_step s i 2 2 _ hs (by omega) (by omega) (by omega)]
   by_cases h3:128≤gb s (i+2)∧gb s (i+2)<192
   ·
    rw [if_pos h3,next_end s i 2 _ (by omega)]
    have he:(p*64+gb s (i+1) % 64)*64+gb s (i+2) % 64=p*4096+gb s (i+1) % 64*64+gb s (i+2) % 64:=by omega
    rw [he]
    obtain ⟨q,hq⟩:∃ q,p*4096+gb s (i+1) % 64*64+gb s (i+2) % 64=q:=⟨_,rfl⟩
    rw [hq]
    by_cases hpt:isPt (q:Int)=true
    ·
     have hpt2:=hpt
     rw [isPt_nat] at hpt2
     simp only [decide_eq_true_eq] at hpt2
     have hz:=wr_size_nat _ hpt
     by_cases h4:2048≤q
     ·
      rw [if_neg (by omega),if_neg (by omega),if_pos (by omega)] at hz
      rw [if_pos ⟨hpt,hz⟩,if_pos (by omega)];rfl
     ·
      rw [if_neg (fun h=>by have h2:=h.2;rw [hz] at h2;split at h2 <;> (try split at h2) <;> (try split at h2) <;> omega),if_neg (by omega)] <;> rfl
    ·
     have hpt2:=hpt
     rw [isPt_nat] at hpt2
     simp only [decide_eq_true_eq] at hpt2
     rw [if_neg (fun h=>hpt h.1),if_neg (by omega)] <;> rfl
   ·
    rw [if_neg h3,if_neg (by omega)] <;> rfl
  ·
   rw [if_neg h2,if_neg (by omega)] <;> rfl
 ·
  rw [if_neg h1,if_neg (by omega)] <;> rfl
theorem next_three (s:ByteArray) (i:Nat) (hs:s.size≤1099511627776) (hi:i<s.size) (p:Nat) (hp:p<8) (k:Nat) :
  spec_l01Next.j2 (k+7) s i ((3:Nat):Int) p=if (3<s.size-i∧gb s (i+1) / 64=2∧gb s (i+2) / 64=2∧gb s (i+3) / 64=2)∧(p*262144+gb s (i+1) % 64*4096+gb s (i+2) % 64*64+gb s (i+3) % 64≥65536∧p*262144+gb s (i+1) % 64*4096+gb s (i+2) % 64*64+gb s (i+3) % 64≤1114111) then some (((p*262144+gb s (i+1) % 64*4096+gb s (i+2) % 64*64+gb s (i+3) % 64:Nat):Int),4,true) else some (65533,1,false):=by
 have hb:=gb_lt s (i+1)
 have hc:=gb_lt s (i+2)
 have hd:=gb_lt s (i+3)
 rw [next_j2 s i 3 p hs hi (by omega)]
 by_cases h1:i+3<s.size
 ·
  rw [if_pos h1,show (1:Int)=((1:Nat):Int) from rfl,next_step s i 3 1 p hs (by omega) (by omega) (by omega)]
  by_cases h2:128≤gb s (i+1)∧gb s (i+1)<192
  ·
   rw [if_pos h2,next_step s i 3 2 _ hs (by omega) (by omega) (by omega)]
   by_cases h3:128≤gb s (i+2)∧gb s (i+2)<192
   ·
    rw [if_pos h3,next_step s i 3 3 _ hs (by omega) (by omega) (by omega)]
    by_cases h5:128≤gb s (i+3)∧gb s (i+3)<192
    ·
     rw [if_pos h5,next_end s i 3 _ (by omega)]
     have he:((p*64+gb s (i+1) % 64)*64+gb s (i+2) % 64)*64+gb s (i+3) % 64=p*262144+gb s (i+1) % 64*4096+gb s (i+2) % 64*64+gb s (i+3) % 64:=by omega
     rw [he]
     obtain ⟨q,hq⟩:∃ q,p*262144+gb s (i+1) % 64*4096+gb s (i+2) % 64*64+gb s (i+3) % 64=q:=⟨_,rfl⟩
     rw [hq]
     by_cases hpt:isPt (q:Int)=true
     ·
      have hpt2:=hpt
      rw [isPt_nat] at hpt2
      simp only [decide_eq_true_eq] at hpt2
      have hz:=wr_size_nat _ hpt
      by_cases h4:65536≤q
      ·
       rw [if_neg (by omega),if_neg (by omega),if_neg (by omega)] at hz
       rw [if_pos ⟨hpt,hz⟩,if_pos (by omega)];rfl
      ·
       rw [if_neg (fun h=>by have h2:=h.2;rw [hz] at h2;split at h2 <;> (try split at h2) <;> (try split at h2) <;> omega),if_neg (by omega)] <;> rfl
     ·
      have hpt2:=hpt
      rw [isPt_nat] at hpt2
      simp only [decide_eq_true_eq] at hpt2
      rw [if_neg (fun h=>hpt h.1),if_neg (by omega)] <;> rfl
    ·
     rw [if_neg h5,if_neg (by omega)] <;> rfl
   ·
    rw [if_neg h3,if_neg (by omega)] <;> rfl
  ·
   rw [if_neg h2,if_neg (by omega)] <;> rfl
 ·
  rw [if_neg h1,if_neg (by omega)] <;> rfl
theorem next_eq (s:ByteArray) (i:Nat) (hs:s.size≤1099511627776) (hi:i<s.size) (k:Nat):spec_l01Next.f (k+10) s i=some (nextV s i):=by
 have hb0:=gb_lt s i
 have hb:=gb_lt s (i+1)
 have hc:=gb_lt s (i+2)
 have hd:=gb_lt s (i+3)
 have e2:=bt_gb s i hi
 have e3:wrap64 ((gb s i:Nat):Int)=(gb s i:Int):=w64 (by omega) (by omega)
 have m32:((gb s i:Nat):Int).tmod 32=((gb s i % 32:Nat):Int):=by rw [Int.tmod_eq_emod_of_nonneg (by omega)];omega
 have m16:((gb s i:Nat):Int).tmod 16=((gb s i % 16:Nat):Int):=by rw [Int.tmod_eq_emod_of_nonneg (by omega)];omega
 have m8:((gb s i:Nat):Int).tmod 8=((gb s i % 8:Nat):Int):=by rw [Int.tmod_eq_emod_of_nonneg (by omega)];omega
 have bad:∀ V:Nat × Nat,V=(65533,1)→(some (65533,1,false):Option (Int × Int × Bool))=some ((V.1:Int),(V.2:Int),decide ¬(V.1=65533∧V.2=1)):=by rintro V rfl;rfl
 have good:∀ (V:Nat × Nat) (p n:Nat),V=(p,n)→n≠1→(some ((p:Int),(n:Int),true):Option (Int × Int × Bool))=some ((V.1:Int),(V.2:Int),decide ¬(V.1=65533∧V.2=1)):=by rintro V p n rfl hn;simp [hn]
 unfold spec_l01Next.f nextV
 rw [if_pos (by omega),if_pos (by omega),e2,e3]
 by_cases h1:gb s i<128
 ·
  rw [if_pos (by omega)]
  have:dec s i=(gb s i,1):=by unfold dec Lib.decodeN;rw [if_pos h1]
  rw [this]
  simp;omega
 ·
  rw [if_neg (by omega)]
  by_cases h2:194≤gb s i∧gb s i<224
  ·
   rw [if_pos (by omega)]
   rw [spec_l01Next.j0,if_pos (by simp;omega),m32,show (1:Int)=((1:Nat):Int) from rfl,next_one s i hs hi _ (by omega)]
   by_cases h3:1<s.size-i∧gb s (i+1) / 64=2∧128≤gb s i % 32*64+gb s (i+1) % 64
   ·
    rw [if_pos h3]
    exact good _ _ 2 (by unfold dec Lib.decodeN;rw [if_neg h1,if_pos ⟨by omega,by omega,by omega⟩,if_pos (by omega)]) (by decide)
   ·
    rw [if_neg h3]
    refine bad _ ?_
    unfold dec Lib.decodeN
    rw [if_neg h1]
    repeat' split
    all_goals first|rfl|(exfalso;omega)
  ·
   by_cases h4:224≤gb s i∧gb s i<240
   ·
    rw [if_pos (by omega)]
    rw [spec_l01Next.j0,if_neg (by simp;omega),if_pos (by omega),spec_l01Next.j1,if_pos (by simp;omega),m16,show (2:Int)=((2:Nat):Int) from rfl,next_two s i hs hi _ (by omega)]
    split
    ·
     rename_i h5
     exact good _ _ 3 (by unfold dec Lib.decodeN;rw [if_neg h1,if_neg (by omega),if_pos ⟨by omega,⟨by omega,by omega⟩,by omega,by omega⟩,if_pos (by omega)]) (by decide)
    ·
     rename_i h5
     refine bad _ ?_
     unfold dec Lib.decodeN
     rw [if_neg h1]
     repeat' split
     all_goals first|rfl|(exfalso;omega)
   ·
    by_cases h6:240≤gb s i∧gb s i<245
    ·
     rw [if_pos (by omega)]
     rw [spec_l01Next.j0,if_neg (by simp;omega),if_pos (by omega),spec_l01Next.j1,if_neg (by simp;omega),if_pos (by omega),if_pos (by omega),m8,show (3:Int)=((3:Nat):Int) from rfl,next_three s i hs hi _ (by omega)]
     split
     ·
      rename_i h5
      exact good _ _ 4 (by unfold dec Lib.decodeN;rw [if_neg h1,if_neg (by omega),if_neg (by omega),if_pos ⟨by omega,⟨by omega,by omega⟩,⟨by omega,by omega⟩,by omega,by omega⟩,if_pos (by omega)]) (by decide)
     ·
      rename_i h5
      refine bad _ ?_
      unfold dec Lib.decodeN
      rw [if_neg h1]
      repeat' split
      all_goals first|rfl|(exfalso;omega)
    ·
     have hbad:dec s i=(65533,1):=by
      unfold dec Lib.decodeN
      rw [if_neg h1]
      repeat' split
      all_goals first|rfl|(exfalso;omega)
     rw [hbad]
     by_cases h7:194≤gb s i
     ·
      rw [if_pos (by omega)]
      rw [spec_l01Next.j0,if_neg (by simp;omega),if_pos (by omega),spec_l01Next.j1,if_neg (by simp;omega),if_pos (by omega),if_neg (by omega)];rfl
     ·
      rw [if_neg (by omega)]
      rw [spec_l01Next.j0,if_neg (by simp),if_neg (by omega),spec_l01Next.j1,if_neg (by simp),if_neg (by omega)];rfl
theorem dec_size (s:ByteArray) (i:Nat) (h:i<s.size):1≤(dec s i).2∧i+(dec s i).2≤s.size∧(dec s i).2≤4:=by
 unfold dec Lib.decodeN
 repeat' split
 all_goals (simp only;omega)
theorem gb_extract (s:ByteArray) (a b i:Nat) (h:a+i<b) (hb:b≤s.size):gb (s.extract a b) i=gb s (a+i):=by
 have h1:i<(s.extract a b).size:=by rw [ByteArray.size_extract];omega
 unfold gb
 rw [get!_eq _ _ h1,get!_eq _ _ (by omega),ByteArray.getElem_extract]
theorem decodeGo_dec (s:ByteArray) (h:0<s.size):Lib.decodeGo s=dec s 0:=by
 unfold Lib.decodeGo dec
 rw [if_neg (by omega),Lib.decode_at]
 rfl
theorem decodeN_cut (n m b0 b1 b2 b3 c1 c2 c3:Nat) (h1:1<n→b1=c1) (h2:2<n→b2=c2) (h3:3<n→b3=c3) (hnm:n=m∨(4≤n∧4≤m)):Lib.decodeN n b0 b1 b2 b3=Lib.decodeN m b0 c1 c2 c3:=by
 have e1:(1<n∧b1 / 64=2) ↔ (1<m∧c1 / 64=2):=⟨fun h=>⟨by omega,h1 h.1 ▸ h.2⟩,fun h=>⟨by omega,by rw [h1 (by omega)];exact h.2⟩⟩
 have e2:(2<n∧b2 / 64=2) ↔ (2<m∧c2 / 64=2):=⟨fun h=>⟨by omega,h2 h.1 ▸ h.2⟩,fun h=>⟨by omega,by rw [h2 (by omega)];exact h.2⟩⟩
 have e3:(3<n∧b3 / 64=2) ↔ (3<m∧c3 / 64=2):=⟨fun h=>⟨by omega,h3 h.1 ▸ h.2⟩,fun h=>⟨by omega,by rw [h3 (by omega)];exact h.2⟩⟩
 by_cases a1:1<n
 ·
  rw [h1 a1] at *
  by_cases a2:2<n
  ·
   rw [h2 a2] at *
   by_cases a3:3<n
   ·
    rw [h3 a3] at *
    unfold Lib.decodeN
    simp only [e1,e2,e3]
   ·
    unfold Lib.decodeN
    have:¬ 3<m:=by omega
    simp only [e1,e2,a3,this,false_and,and_false,if_false]
  ·
   unfold Lib.decodeN
   have:¬ 2<m:=by omega
   simp only [e1,a2,this,false_and,and_false,if_false]
 ·
  unfold Lib.decodeN
  have:¬ 1<m:=by omega
  simp only [a1,this,false_and,and_false,if_false]
theorem dec_tail (s:ByteArray) (i:Nat) (h:i<s.size):Lib.decodeGo (s.extract i s.size)=dec s i:=by
 have hz:(s.extract i s.size).size=s.size-i:=by rw [ByteArray.size_extract];omega
 rw [decodeGo_dec _ (by omega)]
 unfold dec
 rw [hz,gb_extract s i s.size 0 (by omega) (by omega)]
 exact decodeN_cut _ _ _ _ _ _ _ _ _ (fun h1=>gb_extract s i s.size 1 (by omega) (by omega)) (fun h1=>gb_extract s i s.size 2 (by omega) (by omega)) (fun h1=>gb_extract s i s.size 3 (by omega) (by omega)) (by omega)
theorem dec_fst (s:ByteArray) (i:Nat):(dec s i).1≤1114111:=by
 have h0:=gb_lt s i
 unfold dec Lib.decodeN
 repeat' split
 all_goals (simp only;omega)
end Go.Proofs.YtjppikolddklfaaDoor.PW
end
