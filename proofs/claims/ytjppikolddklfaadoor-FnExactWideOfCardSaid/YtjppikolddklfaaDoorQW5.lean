/- Part 5: words, walks of functions, and plain laws of what these compute. (printed by this session's own programs; Lean checks it.) -/
import Derived.Test.YtjppikolddklfaaDoorQW0
import Derived.Test.YtjppikolddklfaaDoorQW1
import Derived.Test.YtjppikolddklfaaDoorQW2
import Derived.Test.YtjppikolddklfaaDoorQW3
import Derived.Test.YtjppikolddklfaaDoorQW4
section
namespace Go.Proofs.YtjppikolddklfaaDoor.PW
open Go.RowKit Go.Proofs.YtjppikolddklfaaDoorW.PrintWords Go.Proofs.YtjppikolddklfaaDoorW.PrintLast Go.Proofs.YtjppikolddklfaaDoorW.PrintMore
set_option linter.unusedVariables false
set_option linter.unusedSimpArgs false
def in2 (a b p:Int):Bool:=decide (a≤p) && decide (p≤b)
theorem in2_t {a b p:Int} (h1:a≤p) (h2:p≤b):in2 a b p=true:=by simp [in2,h1,h2]
theorem in2_f1 {a b p:Int} (h:p<a):in2 a b p=false:=by simp [in2];omega
theorem in2_f2 {a b p:Int} (h:b<p):in2 a b p=false:=by simp [in2];omega
theorem in2_iff {a b p:Int}:in2 a b p=true ↔ a≤p∧p≤b:=by simp [in2]
theorem in_eq (p a b:Int):impl_in.f p a b=some (in2 a b p):=by
 unfold impl_in.f in2
 by_cases h:p≥a
 ·
  rw [if_pos h];simp [h]
 ·
  rw [if_neg h];simp;omega
def k9V (p:Int) (b:Bool):Int × Int:=if b then (10,0) else if in2 10016 10025 p then (8,0) else if in2 24576 26623 p then (7,9) else (0,0)
def k8V (p m:Int) (b:Bool):Int × Int:=if b then (if m<208 then (4,1) else (5,1)) else if in2 9728 9753 p then (4,1) else k9V p (in2 9984 10009 p || in2 10032 10035 p)
def k7V (p m:Int) (b:Bool):Int × Int:=if b then (11,0) else k8V p m (in2 8192 9631 p && decide (m<416))
def k6V (p m:Int) (b:Bool):Int × Int:=if b then (10,0) else k7V p m (in2 7936 7947 p || in2 7953 7954 p)
def k5V (p m:Int) (b:Bool):Int × Int:=if b then (7,7) else if in2 2048 2095 p then (7,8) else if in2 4096 4159 p then (3,0) else k6V p m (in2 7680 7748 p || in2 7760 7785 p)
def k4V (p m:Int) (b:Bool):Int × Int:=if b then (3,6) else if in2 1616 1625 p then (8,6) else k5V p m (in2 1792 1810 p || in2 1824 1844 p || in2 1857 1883 p || in2 12288 23459 p)
def k3V (p m:Int) (b:Bool):Int × Int:=if b then (2,0) else if in2 48 57 p then (8,0) else if in2 65 90 p then (4,1) else if in2 97 122 p then (5,1) else if in2 33 126 p then (9,0) else if in2 173 173 p then (11,0) else if in2 161 191 p then (10,0) else if in2 1280 1311 p then (7,5) else if in2 1360 1369 p then (8,5) else if in2 1536 1567 p then (7,6) else k4V p m (in2 1568 1579 p || in2 1584 1585 p)
def k2V (p m:Int) (b:Bool):Int × Int:=if b then (1,0) else k3V p m (in2 32 32 p || in2 160 160 p || in2 8064 8064 p)
def kcV (k s:Int):Int × Int:=if in2 0 31 k || in2 64 67 k then (4,s) else if in2 32 63 k || in2 72 75 k || in2 96 97 k then (5,s) else if in2 68 71 k then (6,s) else if in2 80 89 k then (8,s) else (0,0)
def kindV (p:Int):Int × Int:=if in2 512 1279 p then kcV (p % 256) (p / 256) else k2V p (p % 512) (in2 0 31 p || in2 127 159 p)
theorem beq_in2 (p a:Int):(p == a)=in2 a a p:=by
 unfold in2
 rw [Bool.eq_iff_iff]
 simp;omega
theorem k9_eq (k:Nat) (p:Int) (b:Bool):impl_kind.j9 (k+1) p b=some (k9V p b):=by
 unfold impl_kind.j9 k9V
 simp only [in_eq,Option.bind_some]
 repeat' split
 all_goals rfl
theorem m512 (p:Int) (h0:0≤p) (h1:p≤1114111) (h:in2 8192 9631 p=true):Int.tmod (wrap64 (p-8192)) 512=p % 512:=by
 have:=in2_iff.1 h
 rw [w64 (by omega) (by omega),Int.tmod_eq_emod_of_nonneg (by omega)];omega
theorem k8_eq (k:Nat) (p:Int) (b:Bool) (hb:b=true→in2 8192 9631 p=true) (h0:0≤p) (h1:p≤1114111):impl_kind.j8 (k+2) p b=some (k8V p (p % 512) b):=by
 cases b with
 | true =>
  rw [impl_kind.j8,if_pos rfl,m512 p h0 h1 (hb rfl)]
  simp only [k8V,if_true]
  split <;> rfl
 | false =>
  rw [impl_kind.j8,if_neg (by simp)]
  simp only [in_eq,Option.bind_some,k8V,k9_eq]
  by_cases c1:in2 9728 9753 p=true
  ·
   simp [c1]
  ·
   by_cases c2:in2 9984 10009 p=true
   ·
    simp [c1,c2]
   ·
    simp [c1,c2]
theorem k7_eq (k:Nat) (p:Int) (b:Bool) (h0:0≤p) (h1:p≤1114111):impl_kind.j7 (k+3) p b=some (k7V p (p % 512) b):=by
 cases b with
 | true=>rw [impl_kind.j7,if_pos rfl];rfl
 | false =>
  rw [impl_kind.j7,if_neg (by simp)]
  simp only [in_eq,Option.bind_some]
  by_cases c:in2 8192 9631 p=true
  ·
   rw [if_pos c,m512 p h0 h1 c,k8_eq k p _ (fun _=>c) h0 h1]
   simp [k7V,c]
  ·
   rw [if_neg c,k8_eq k p false (by simp) h0 h1]
   simp [k7V,c]
theorem k6_eq (k:Nat) (p:Int) (b:Bool) (h0:0≤p) (h1:p≤1114111):impl_kind.j6 (k+4) p b=some (k6V p (p % 512) b):=by
 cases b with
 | true=>rw [impl_kind.j6,if_pos rfl];rfl
 | false =>
  rw [impl_kind.j6,if_neg (by simp)]
  simp only [in_eq,Option.bind_some,k7_eq k p _ h0 h1,k6V]
  have e:in2 7953 7954 p=(decide (p=7953) || (p == 7954)):=by unfold in2;rw [Bool.eq_iff_iff];simp;omega
  by_cases c:in2 7936 7947 p=true
  ·
   simp [c]
  ·
   by_cases d:p=7953
   ·
    rw [if_neg c,if_pos d,e,decide_eq_true d];simp
   ·
    rw [if_neg c,if_neg d,e,decide_eq_false d];simp [c]
theorem k5_eq (k:Nat) (p:Int) (b:Bool) (h0:0≤p) (h1:p≤1114111):impl_kind.j5 (k+5) p b=some (k5V p (p % 512) b):=by
 cases b with
 | true=>rw [impl_kind.j5,if_pos rfl];rfl
 | false =>
  rw [impl_kind.j5,if_neg (by simp)]
  simp only [in_eq,Option.bind_some,k6_eq k p _ h0 h1,k5V]
  by_cases c:in2 2048 2095 p=true
  ·
   simp [c]
  ·
   by_cases d:in2 4096 4159 p=true
   ·
    simp [c,d]
   ·
    by_cases e:in2 7680 7748 p=true
    ·
     simp [c,d,e]
    ·
     simp [c,d,e]
theorem k4_eq (k:Nat) (p:Int) (b:Bool) (h0:0≤p) (h1:p≤1114111):impl_kind.j4 (k+6) p b=some (k4V p (p % 512) b):=by
 cases b with
 | true=>rw [impl_kind.j4,if_pos rfl];rfl
 | false =>
  rw [impl_kind.j4,if_neg (by simp)]
  simp only [in_eq,Option.bind_some,k5_eq k p _ h0 h1,k4V]
  by_cases c:in2 1616 1625 p=true
  ·
   simp [c]
  ·
   by_cases d:in2 1792 1810 p=true
   ·
    simp [c,d]
   ·
    by_cases e:in2 1824 1844 p=true
    ·
     simp [c,d,e]
    ·
     by_cases f:in2 1857 1883 p=true
     ·
      simp [c,d,e,f]
     ·
      simp [c,d,e,f]
theorem k3_eq (k:Nat) (p:Int) (b:Bool) (h0:0≤p) (h1:p≤1114111):impl_kind.j3 (k+7) p b=some (k3V p (p % 512) b):=by
 cases b with
 | true=>rw [impl_kind.j3,if_pos rfl];rfl
 | false =>
  rw [impl_kind.j3,if_neg (by simp)]
  have e1:(p=173)=(in2 173 173 p=true):=by rw [← beq_in2];simp
  have e2:in2 1584 1585 p=(decide (p=1584) || (p == 1585)):=by unfold in2;rw [Bool.eq_iff_iff];simp;omega
  simp only [in_eq,Option.bind_some,k4_eq k p _ h0 h1,k3V,e1]
  by_cases c1:in2 48 57 p=true
  ·
   simp [c1]
  ·
   by_cases c2:in2 65 90 p=true
   ·
    simp [c1,c2]
   ·
    by_cases c3:in2 97 122 p=true
    ·
     simp [c1,c2,c3]
    ·
     by_cases c4:in2 33 126 p=true
     ·
      simp [c1,c2,c3,c4]
     ·
      by_cases c5:in2 173 173 p=true
      ·
       simp [c1,c2,c3,c4,c5]
      ·
       by_cases c6:in2 161 191 p=true
       ·
        simp [c1,c2,c3,c4,c5,c6]
       ·
        by_cases c7:in2 1280 1311 p=true
        ·
         simp [c1,c2,c3,c4,c5,c6,c7]
        ·
         by_cases c8:in2 1360 1369 p=true
         ·
          simp [c1,c2,c3,c4,c5,c6,c7,c8]
         ·
          by_cases c9:in2 1536 1567 p=true
          ·
           simp [c1,c2,c3,c4,c5,c6,c7,c8,c9]
          ·
           by_cases c10:in2 1568 1579 p=true
           ·
            simp [c1,c2,c3,c4,c5,c6,c7,c8,c9,c10]
           ·
            simp only [c1,c2,c3,c4,c5,c6,c7,c8,c9,c10,e2,if_false,Bool.false_eq_true,Bool.false_or]
            by_cases c11:p=1584
            ·
             rw [if_pos c11,decide_eq_true c11,Bool.true_or]
            ·
             rw [if_neg c11,decide_eq_false c11,Bool.false_or]
theorem k2_eq (k:Nat) (p:Int) (b:Bool) (h0:0≤p) (h1:p≤1114111):impl_kind.j2 (k+8) p b=some (k2V p (p % 512) b):=by
 cases b with
 | true=>rw [impl_kind.j2,if_pos rfl];rfl
 | false =>
  rw [impl_kind.j2,if_neg (by simp)]
  have e1:(p=32)=(in2 32 32 p=true):=by rw [← beq_in2];simp
  have e2:(p=160)=(in2 160 160 p=true):=by rw [← beq_in2];simp
  simp only [k3_eq k p _ h0 h1,k2V,e1,e2,beq_in2]
  by_cases c1:in2 32 32 p=true
  ·
   simp [c1]
  ·
   by_cases c2:in2 160 160 p=true
   ·
    simp [c1,c2]
   ·
    simp [c1,c2]
theorem bits256:∀ n:Fin 768,Go.bits .andNot .i64 (512+(n.val:Int)) 255=(512+(n.val:Int))-(512+(n.val:Int)) % 256∧Go.bits .and .i64 (512+(n.val:Int)) 255=(512+(n.val:Int)) % 256:=by decide +kernel
theorem kc_eq (k:Nat) (x s:Int) (h0:0≤x):impl_kind.j0 (k+2) x s (in2 0 31 x || in2 64 67 x)=some (kcV x s):=by
 have e:∀ b:Bool,impl_kind.j1 (k+1) x s b=some (if b then (5,s) else if in2 68 71 x then (6,s) else if in2 80 89 x then (8,s) else (0,0)):=by
  intro b
  cases b with
  | true=>rw [impl_kind.j1,if_pos rfl];rfl
  | false =>
   rw [impl_kind.j1,if_neg (by simp)]
   simp only [in_eq,Option.bind_some]
   repeat' split
   all_goals first|rfl|(exfalso;simp_all;done)
 by_cases c1:in2 0 31 x=true
 ·
  simp [impl_kind.j0,kcV,c1]
 ·
  by_cases c2:in2 64 67 x=true
  ·
   simp [impl_kind.j0,kcV,c1,c2]
  ·
   have c3:in2 32 63 x=decide (x<64):=by unfold in2;rw [Bool.eq_iff_iff];simp [in2] at c1;simp;omega
   rw [impl_kind.j0,if_neg (by simp [c1,c2])]
   simp only [e,in_eq,Option.bind_some,kcV,c1,c2,c3,Bool.or_self,Bool.false_eq_true,if_false]
   by_cases c4:x<64
   ·
    simp [c4]
   ·
    by_cases c5:in2 72 75 x=true
    ·
     simp [c4,c5]
    ·
     simp [c4,c5]
theorem kind_eq (k:Nat) (p:Int) (h0:0≤p) (h1:p≤1114111):impl_kind.f (k+8) p=some (kindV p):=by
 unfold impl_kind.f impl_block.f kindV
 by_cases c:in2 512 1279 p=true
 ·
  have hc:=in2_iff.1 c
  have hb:=bits256 ⟨(p-512).toNat,by omega⟩
  have e:(512:Int)+(((p-512).toNat:Nat):Int)=p:=by omega
  simp only [e] at hb
  rw [if_pos (by omega),if_pos (by omega),Option.bind_some,hb.1,hb.2,if_pos c]
  simp only
  rw [if_pos (by omega),show (p-p % 256) / 256=p / 256 from by omega,in_eq,Option.bind_some,← kc_eq (k+6) (p % 256) (p / 256) (by omega)]
  by_cases d:p % 256<32
  ·
   rw [if_pos d,in2_t (by omega) (by omega),Bool.true_or]
  ·
   rw [if_neg d,in2_f2 (a:=0) (b:=31) (by omega),Bool.false_or]
 ·
  have hc:¬ (512≤p∧p≤1279):=fun h=>c (in2_iff.2 h)
  have e:(if p≥512 then (if p<1280 then (some (Go.bits .andNot .i64 p 255,Go.bits .and .i64 p 255)) else (some (0,0))) else (some (0,0)))=some ((0:Int),(0:Int)):=by
   by_cases d:p≥512
   ·
    rw [if_pos d,if_neg (by omega)]
   ·
    rw [if_neg d]
  rw [e,Option.bind_some,if_neg c]
  simp only
  rw [if_neg (by omega)]
  simp only [in_eq,Option.bind_some,k2_eq k p _ h0 h1]
  by_cases d:in2 0 31 p=true
  ·
   rw [if_pos d,d,Bool.true_or]
  ·
   rw [if_neg d,show in2 0 31 p=false by simpa using d,Bool.false_or]
theorem rd78 (l:List S78) (i:Nat) (h:i<l.length):rd_T78 l (i:Int)=l[i]:=by simp [rd_T78,List.getD_eq_getElem?_getD,List.getElem?_eq_getElem h]
def fstR (p:Int):List S78→Int × Int
 | []=>(0,0)
 | r :: rs=>if in2 r.f0 r.f1 p=true then (r.f2,r.f3) else fstR p rs
def fstC (p s:Int):List S78→Int × Int
 | []=>(0,0)
 | r :: rs=>if in2 r.f0 r.f1 p=true then (r.f2,s) else fstC p s rs
theorem l1_eq (p:Int) (L:List S78) (hL:L.length≤1000):∀ n i:Nat,L.length≤i+n → ∀ k,spec_l01Known.l1 (k+n+1) p L (i:Int)=some (fstR p (L.drop i))
 | n,i,h,k=>by
  unfold spec_l01Known.l1
  by_cases c:i<L.length
  ·
   obtain ⟨n,rfl⟩:∃ m,n=m+1:=⟨n-1,by omega⟩
   have ih:=l1_eq p L hL n (i+1) (by omega) k
   rw [if_pos (by omega),if_pos (by omega),rd78 L i c,w64 (by omega) (by omega),show ((i:Int)+1)=((i+1:Nat):Int) from by omega,show k+(n+1)=k+n+1 from rfl,ih,List.drop_eq_getElem_cons c]
   simp only [fstR,in2]
   by_cases a:p≥L[i].f0
   ·
    by_cases b:p≤L[i].f1
    ·
     simp [a,b]
    ·
     simp [a,b]
   ·
    simp [a]
  ·
   rw [if_neg (by omega),List.drop_eq_nil_of_le (by omega)];rfl
theorem l0_eq (p:Int) (h0:0≤p) (h1:p≤1114111) (L:List S78) (hL:L.length≤1000):∀ n i:Nat,L.length≤i+n → ∀ k,spec_l01Known.l0 (k+n+1) p L (i:Int)=some (fstC (p % 256) (p / 256) (L.drop i))
 | n,i,h,k=>by
  unfold spec_l01Known.l0
  by_cases c:i<L.length
  ·
   obtain ⟨n,rfl⟩:∃ m,n=m+1:=⟨n-1,by omega⟩
   have ih:=l0_eq p h0 h1 L hL n (i+1) (by omega) k
   rw [if_pos (by omega),if_pos (by omega),rd78 L i c,w64 (x:=(i:Int)+1) (by omega) (by omega),show ((i:Int)+1)=((i+1:Nat):Int) from by omega,show k+(n+1)=k+n+1 from rfl,ih,List.drop_eq_getElem_cons c,Int.tmod_eq_emod_of_nonneg h0,Int.tdiv_eq_ediv_of_nonneg h0,w64 (x:=p / 256) (by omega) (by omega)]
   simp only [fstC,in2]
   by_cases a:p % 256≥L[i].f0
   ·
    by_cases b:p % 256≤L[i].f1
    ·
     simp [a,b]
    ·
     simp [a,b]
   ·
    simp [a]
  ·
   rw [if_neg (by omega),List.drop_eq_nil_of_le (by omega)];rfl
def casedL:List S78:=[⟨0,31,4,0⟩,⟨32,63,5,0⟩,⟨64,67,4,0⟩,⟨68,71,6,0⟩,⟨72,75,5,0⟩,⟨80,89,8,0⟩,⟨96,97,5,0⟩]
theorem cased_eq (m s:Int) (h0:0≤m):fstC m s casedL=kcV m s:=by
 unfold casedL kcV
 simp only [fstC]
 rcases Int.lt_or_le m 32 with h|g
 ·
  simp (disch:=omega) only [in2_t,in2_f1,in2_f2,Bool.or_false,Bool.false_or,Bool.true_or,Bool.or_true,Bool.false_and,↓reduceIte,Bool.false_eq_true]
 clear h0;have h0:=g;clear g
 rcases Int.lt_or_le m 64 with h|g
 ·
  simp (disch:=omega) only [in2_t,in2_f1,in2_f2,Bool.or_false,Bool.false_or,Bool.true_or,Bool.or_true,Bool.false_and,↓reduceIte,Bool.false_eq_true]
 clear h0;have h0:=g;clear g
 rcases Int.lt_or_le m 68 with h|g
 ·
  simp (disch:=omega) only [in2_t,in2_f1,in2_f2,Bool.or_false,Bool.false_or,Bool.true_or,Bool.or_true,Bool.false_and,↓reduceIte,Bool.false_eq_true]
 clear h0;have h0:=g;clear g
 rcases Int.lt_or_le m 72 with h|g
 ·
  simp (disch:=omega) only [in2_t,in2_f1,in2_f2,Bool.or_false,Bool.false_or,Bool.true_or,Bool.or_true,Bool.false_and,↓reduceIte,Bool.false_eq_true]
 clear h0;have h0:=g;clear g
 rcases Int.lt_or_le m 76 with h|g
 ·
  simp (disch:=omega) only [in2_t,in2_f1,in2_f2,Bool.or_false,Bool.false_or,Bool.true_or,Bool.or_true,Bool.false_and,↓reduceIte,Bool.false_eq_true]
 clear h0;have h0:=g;clear g
 rcases Int.lt_or_le m 80 with h|g
 ·
  simp (disch:=omega) only [in2_t,in2_f1,in2_f2,Bool.or_false,Bool.false_or,Bool.true_or,Bool.or_true,Bool.false_and,↓reduceIte,Bool.false_eq_true]
 clear h0;have h0:=g;clear g
 rcases Int.lt_or_le m 90 with h|g
 ·
  simp (disch:=omega) only [in2_t,in2_f1,in2_f2,Bool.or_false,Bool.false_or,Bool.true_or,Bool.or_true,Bool.false_and,↓reduceIte,Bool.false_eq_true]
 clear h0;have h0:=g;clear g
 rcases Int.lt_or_le m 96 with h|g
 ·
  simp (disch:=omega) only [in2_t,in2_f1,in2_f2,Bool.or_false,Bool.false_or,Bool.true_or,Bool.or_true,Bool.false_and,↓reduceIte,Bool.false_eq_true]
 clear h0;have h0:=g;clear g
 rcases Int.lt_or_le m 98 with h|g
 ·
  simp (disch:=omega) only [in2_t,in2_f1,in2_f2,Bool.or_false,Bool.false_or,Bool.true_or,Bool.or_true,Bool.false_and,↓reduceIte,Bool.false_eq_true]
 clear h0;have h0:=g;clear g
 simp (disch:=omega) only [in2_t,in2_f1,in2_f2,Bool.or_false,Bool.false_or,Bool.true_or,Bool.or_true,Bool.false_and,↓reduceIte,Bool.false_eq_true]
def rowsL:List S78:=[⟨0,31,1,0⟩,⟨32,32,2,0⟩,⟨48,57,8,0⟩,⟨65,90,4,1⟩,⟨97,122,5,1⟩,⟨33,126,9,0⟩,⟨127,159,1,0⟩,⟨160,160,2,0⟩,⟨173,173,11,0⟩,⟨161,191,10,0⟩,⟨1280,1311,7,5⟩,⟨1360,1369,8,5⟩,⟨1536,1567,7,6⟩,⟨1568,1579,3,6⟩,⟨1584,1585,3,6⟩,⟨1616,1625,8,6⟩,⟨1792,1810,7,7⟩,⟨1824,1844,7,7⟩,⟨1857,1883,7,7⟩,⟨2048,2095,7,8⟩,⟨4096,4159,3,0⟩,⟨7680,7748,10,0⟩,⟨7760,7785,10,0⟩,⟨7936,7947,11,0⟩,⟨7953,7954,11,0⟩,⟨8064,8064,2,0⟩,⟨9728,9753,4,1⟩,⟨9984,10009,10,0⟩,⟨10016,10025,8,0⟩,⟨10032,10035,10,0⟩,⟨12288,23459,7,7⟩,⟨24576,26623,7,9⟩]
theorem rows_eq (p:Int) (h0:0≤p) (hc:p<512∨1280≤p) (hd:p<8192∨9728≤p):fstR p rowsL=kindV p:=by
 unfold rowsL kindV
 simp only [fstR,k2V,k3V,k4V,k5V,k6V,k7V,k8V,k9V]
 rcases Int.lt_or_le p 32 with h|g
 ·
  simp (disch:=omega) only [in2_t,in2_f1,in2_f2,Bool.or_false,Bool.false_or,Bool.true_or,Bool.or_true,Bool.false_and,↓reduceIte,Bool.false_eq_true]
 clear h0;have h0:=g;clear g
 rcases Int.lt_or_le p 33 with h|g
 ·
  simp (disch:=omega) only [in2_t,in2_f1,in2_f2,Bool.or_false,Bool.false_or,Bool.true_or,Bool.or_true,Bool.false_and,↓reduceIte,Bool.false_eq_true]
 clear h0;have h0:=g;clear g
 rcases Int.lt_or_le p 48 with h|g
 ·
  simp (disch:=omega) only [in2_t,in2_f1,in2_f2,Bool.or_false,Bool.false_or,Bool.true_or,Bool.or_true,Bool.false_and,↓reduceIte,Bool.false_eq_true]
 clear h0;have h0:=g;clear g
 rcases Int.lt_or_le p 58 with h|g
 ·
  simp (disch:=omega) only [in2_t,in2_f1,in2_f2,Bool.or_false,Bool.false_or,Bool.true_or,Bool.or_true,Bool.false_and,↓reduceIte,Bool.false_eq_true]
 clear h0;have h0:=g;clear g
 rcases Int.lt_or_le p 65 with h|g
 ·
  simp (disch:=omega) only [in2_t,in2_f1,in2_f2,Bool.or_false,Bool.false_or,Bool.true_or,Bool.or_true,Bool.false_and,↓reduceIte,Bool.false_eq_true]
 clear h0;have h0:=g;clear g
 rcases Int.lt_or_le p 91 with h|g
 ·
  simp (disch:=omega) only [in2_t,in2_f1,in2_f2,Bool.or_false,Bool.false_or,Bool.true_or,Bool.or_true,Bool.false_and,↓reduceIte,Bool.false_eq_true]
 clear h0;have h0:=g;clear g
 rcases Int.lt_or_le p 97 with h|g
 ·
  simp (disch:=omega) only [in2_t,in2_f1,in2_f2,Bool.or_false,Bool.false_or,Bool.true_or,Bool.or_true,Bool.false_and,↓reduceIte,Bool.false_eq_true]
 clear h0;have h0:=g;clear g
 rcases Int.lt_or_le p 123 with h|g
 ·
  simp (disch:=omega) only [in2_t,in2_f1,in2_f2,Bool.or_false,Bool.false_or,Bool.true_or,Bool.or_true,Bool.false_and,↓reduceIte,Bool.false_eq_true]
 clear h0;have h0:=g;clear g
 rcases Int.lt_or_le p 127 with h|g
 ·
  simp (disch:=omega) only [in2_t,in2_f1,in2_f2,Bool.or_false,Bool.false_or,Bool.true_or,Bool.or_true,Bool.false_and,↓reduceIte,Bool.false_eq_true]
 clear h0;have h0:=g;clear g
 rcases Int.lt_or_le p 160 with h|g
 ·
  simp (disch:=omega) only [in2_t,in2_f1,in2_f2,Bool.or_false,Bool.false_or,Bool.true_or,Bool.or_true,Bool.false_and,↓reduceIte,Bool.false_eq_true]
 clear h0;have h0:=g;clear g
 rcases Int.lt_or_le p 161 with h|g
 ·
  simp (disch:=omega) only [in2_t,in2_f1,in2_f2,Bool.or_false,Bool.false_or,Bool.true_or,Bool.or_true,Bool.false_and,↓reduceIte,Bool.false_eq_true]
 clear h0;have h0:=g;clear g
 rcases Int.lt_or_le p 173 with h|g
 ·
  simp (disch:=omega) only [in2_t,in2_f1,in2_f2,Bool.or_false,Bool.false_or,Bool.true_or,Bool.or_true,Bool.false_and,↓reduceIte,Bool.false_eq_true]
 clear h0;have h0:=g;clear g
 rcases Int.lt_or_le p 174 with h|g
 ·
  simp (disch:=omega) only [in2_t,in2_f1,in2_f2,Bool.or_false,Bool.false_or,Bool.true_or,Bool.or_true,Bool.false_and,↓reduceIte,Bool.false_eq_true]
 clear h0;have h0:=g;clear g
 rcases Int.lt_or_le p 192 with h|g
 ·
  simp (disch:=omega) only [in2_t,in2_f1,in2_f2,Bool.or_false,Bool.false_or,Bool.true_or,Bool.or_true,Bool.false_and,↓reduceIte,Bool.false_eq_true]
 clear h0;have h0:=g;clear g
 rcases Int.lt_or_le p 512 with h|g
 ·
  simp (disch:=omega) only [in2_t,in2_f1,in2_f2,Bool.or_false,Bool.false_or,Bool.true_or,Bool.or_true,Bool.false_and,↓reduceIte,Bool.false_eq_true]
 clear h0;have h0:=g;clear g
 rcases Int.lt_or_le p 1280 with h|g
 ·
  omega
 clear h0;have h0:=g;clear g
 rcases Int.lt_or_le p 1312 with h|g
 ·
  simp (disch:=omega) only [in2_t,in2_f1,in2_f2,Bool.or_false,Bool.false_or,Bool.true_or,Bool.or_true,Bool.false_and,↓reduceIte,Bool.false_eq_true]
 clear h0;have h0:=g;clear g
 rcases Int.lt_or_le p 1360 with h|g
 ·
  simp (disch:=omega) only [in2_t,in2_f1,in2_f2,Bool.or_false,Bool.false_or,Bool.true_or,Bool.or_true,Bool.false_and,↓reduceIte,Bool.false_eq_true]
 clear h0;have h0:=g;clear g
 rcases Int.lt_or_le p 1370 with h|g
 ·
  simp (disch:=omega) only [in2_t,in2_f1,in2_f2,Bool.or_false,Bool.false_or,Bool.true_or,Bool.or_true,Bool.false_and,↓reduceIte,Bool.false_eq_true]
 clear h0;have h0:=g;clear g
 rcases Int.lt_or_le p 1536 with h|g
 ·
  simp (disch:=omega) only [in2_t,in2_f1,in2_f2,Bool.or_false,Bool.false_or,Bool.true_or,Bool.or_true,Bool.false_and,↓reduceIte,Bool.false_eq_true]
 clear h0;have h0:=g;clear g
 rcases Int.lt_or_le p 1568 with h|g
 ·
  simp (disch:=omega) only [in2_t,in2_f1,in2_f2,Bool.or_false,Bool.false_or,Bool.true_or,Bool.or_true,Bool.false_and,↓reduceIte,Bool.false_eq_true]
 clear h0;have h0:=g;clear g
 rcases Int.lt_or_le p 1580 with h|g
 ·
  simp (disch:=omega) only [in2_t,in2_f1,in2_f2,Bool.or_false,Bool.false_or,Bool.true_or,Bool.or_true,Bool.false_and,↓reduceIte,Bool.false_eq_true]
 clear h0;have h0:=g;clear g
 rcases Int.lt_or_le p 1584 with h|g
 ·
  simp (disch:=omega) only [in2_t,in2_f1,in2_f2,Bool.or_false,Bool.false_or,Bool.true_or,Bool.or_true,Bool.false_and,↓reduceIte,Bool.false_eq_true]
 clear h0;have h0:=g;clear g
 rcases Int.lt_or_le p 1586 with h|g
 ·
  simp (disch:=omega) only [in2_t,in2_f1,in2_f2,Bool.or_false,Bool.false_or,Bool.true_or,Bool.or_true,Bool.false_and,↓reduceIte,Bool.false_eq_true]
 clear h0;have h0:=g;clear g
 rcases Int.lt_or_le p 1616 with h|g
 ·
  simp (disch:=omega) only [in2_t,in2_f1,in2_f2,Bool.or_false,Bool.false_or,Bool.true_or,Bool.or_true,Bool.false_and,↓reduceIte,Bool.false_eq_true]
 clear h0;have h0:=g;clear g
 rcases Int.lt_or_le p 1626 with h|g
 ·
  simp (disch:=omega) only [in2_t,in2_f1,in2_f2,Bool.or_false,Bool.false_or,Bool.true_or,Bool.or_true,Bool.false_and,↓reduceIte,Bool.false_eq_true]
 clear h0;have h0:=g;clear g
 rcases Int.lt_or_le p 1792 with h|g
 ·
  simp (disch:=omega) only [in2_t,in2_f1,in2_f2,Bool.or_false,Bool.false_or,Bool.true_or,Bool.or_true,Bool.false_and,↓reduceIte,Bool.false_eq_true]
 clear h0;have h0:=g;clear g
 rcases Int.lt_or_le p 1811 with h|g
 ·
  simp (disch:=omega) only [in2_t,in2_f1,in2_f2,Bool.or_false,Bool.false_or,Bool.true_or,Bool.or_true,Bool.false_and,↓reduceIte,Bool.false_eq_true]
 clear h0;have h0:=g;clear g
 rcases Int.lt_or_le p 1824 with h|g
 ·
  simp (disch:=omega) only [in2_t,in2_f1,in2_f2,Bool.or_false,Bool.false_or,Bool.true_or,Bool.or_true,Bool.false_and,↓reduceIte,Bool.false_eq_true]
 clear h0;have h0:=g;clear g
 rcases Int.lt_or_le p 1845 with h|g
 ·
  simp (disch:=omega) only [in2_t,in2_f1,in2_f2,Bool.or_false,Bool.false_or,Bool.true_or,Bool.or_true,Bool.false_and,↓reduceIte,Bool.false_eq_true]
 clear h0;have h0:=g;clear g
 rcases Int.lt_or_le p 1857 with h|g
 ·
  simp (disch:=omega) only [in2_t,in2_f1,in2_f2,Bool.or_false,Bool.false_or,Bool.true_or,Bool.or_true,Bool.false_and,↓reduceIte,Bool.false_eq_true]
 clear h0;have h0:=g;clear g
 rcases Int.lt_or_le p 1884 with h|g
 ·
  simp (disch:=omega) only [in2_t,in2_f1,in2_f2,Bool.or_false,Bool.false_or,Bool.true_or,Bool.or_true,Bool.false_and,↓reduceIte,Bool.false_eq_true]
 clear h0;have h0:=g;clear g
 rcases Int.lt_or_le p 2048 with h|g
 ·
  simp (disch:=omega) only [in2_t,in2_f1,in2_f2,Bool.or_false,Bool.false_or,Bool.true_or,Bool.or_true,Bool.false_and,↓reduceIte,Bool.false_eq_true]
 clear h0;have h0:=g;clear g
 rcases Int.lt_or_le p 2096 with h|g
 ·
  simp (disch:=omega) only [in2_t,in2_f1,in2_f2,Bool.or_false,Bool.false_or,Bool.true_or,Bool.or_true,Bool.false_and,↓reduceIte,Bool.false_eq_true]
 clear h0;have h0:=g;clear g
 rcases Int.lt_or_le p 4096 with h|g
 ·
  simp (disch:=omega) only [in2_t,in2_f1,in2_f2,Bool.or_false,Bool.false_or,Bool.true_or,Bool.or_true,Bool.false_and,↓reduceIte,Bool.false_eq_true]
 clear h0;have h0:=g;clear g
 rcases Int.lt_or_le p 4160 with h|g
 ·
  simp (disch:=omega) only [in2_t,in2_f1,in2_f2,Bool.or_false,Bool.false_or,Bool.true_or,Bool.or_true,Bool.false_and,↓reduceIte,Bool.false_eq_true]
 clear h0;have h0:=g;clear g
 rcases Int.lt_or_le p 7680 with h|g
 ·
  simp (disch:=omega) only [in2_t,in2_f1,in2_f2,Bool.or_false,Bool.false_or,Bool.true_or,Bool.or_true,Bool.false_and,↓reduceIte,Bool.false_eq_true]
 clear h0;have h0:=g;clear g
 rcases Int.lt_or_le p 7749 with h|g
 ·
  simp (disch:=omega) only [in2_t,in2_f1,in2_f2,Bool.or_false,Bool.false_or,Bool.true_or,Bool.or_true,Bool.false_and,↓reduceIte,Bool.false_eq_true]
 clear h0;have h0:=g;clear g
 rcases Int.lt_or_le p 7760 with h|g
 ·
  simp (disch:=omega) only [in2_t,in2_f1,in2_f2,Bool.or_false,Bool.false_or,Bool.true_or,Bool.or_true,Bool.false_and,↓reduceIte,Bool.false_eq_true]
 clear h0;have h0:=g;clear g
 rcases Int.lt_or_le p 7786 with h|g
 ·
  simp (disch:=omega) only [in2_t,in2_f1,in2_f2,Bool.or_false,Bool.false_or,Bool.true_or,Bool.or_true,Bool.false_and,↓reduceIte,Bool.false_eq_true]
 clear h0;have h0:=g;clear g
 rcases Int.lt_or_le p 7936 with h|g
 ·
  simp (disch:=omega) only [in2_t,in2_f1,in2_f2,Bool.or_false,Bool.false_or,Bool.true_or,Bool.or_true,Bool.false_and,↓reduceIte,Bool.false_eq_true]
 clear h0;have h0:=g;clear g
 rcases Int.lt_or_le p 7948 with h|g
 ·
  simp (disch:=omega) only [in2_t,in2_f1,in2_f2,Bool.or_false,Bool.false_or,Bool.true_or,Bool.or_true,Bool.false_and,↓reduceIte,Bool.false_eq_true]
 clear h0;have h0:=g;clear g
 rcases Int.lt_or_le p 7953 with h|g
 ·
  simp (disch:=omega) only [in2_t,in2_f1,in2_f2,Bool.or_false,Bool.false_or,Bool.true_or,Bool.or_true,Bool.false_and,↓reduceIte,Bool.false_eq_true]
 clear h0;have h0:=g;clear g
 rcases Int.lt_or_le p 7955 with h|g
 ·
  simp (disch:=omega) only [in2_t,in2_f1,in2_f2,Bool.or_false,Bool.false_or,Bool.true_or,Bool.or_true,Bool.false_and,↓reduceIte,Bool.false_eq_true]
 clear h0;have h0:=g;clear g
 rcases Int.lt_or_le p 8064 with h|g
 ·
  simp (disch:=omega) only [in2_t,in2_f1,in2_f2,Bool.or_false,Bool.false_or,Bool.true_or,Bool.or_true,Bool.false_and,↓reduceIte,Bool.false_eq_true]
 clear h0;have h0:=g;clear g
 rcases Int.lt_or_le p 8065 with h|g
 ·
  simp (disch:=omega) only [in2_t,in2_f1,in2_f2,Bool.or_false,Bool.false_or,Bool.true_or,Bool.or_true,Bool.false_and,↓reduceIte,Bool.false_eq_true]
 clear h0;have h0:=g;clear g
 rcases Int.lt_or_le p 8192 with h|g
 ·
  simp (disch:=omega) only [in2_t,in2_f1,in2_f2,Bool.or_false,Bool.false_or,Bool.true_or,Bool.or_true,Bool.false_and,↓reduceIte,Bool.false_eq_true]
 clear h0;have h0:=g;clear g
 rcases Int.lt_or_le p 9728 with h|g
 ·
  omega
 clear h0;have h0:=g;clear g
 rcases Int.lt_or_le p 9754 with h|g
 ·
  simp (disch:=omega) only [in2_t,in2_f1,in2_f2,Bool.or_false,Bool.false_or,Bool.true_or,Bool.or_true,Bool.false_and,↓reduceIte,Bool.false_eq_true]
 clear h0;have h0:=g;clear g
 rcases Int.lt_or_le p 9984 with h|g
 ·
  simp (disch:=omega) only [in2_t,in2_f1,in2_f2,Bool.or_false,Bool.false_or,Bool.true_or,Bool.or_true,Bool.false_and,↓reduceIte,Bool.false_eq_true]
 clear h0;have h0:=g;clear g
 rcases Int.lt_or_le p 10010 with h|g
 ·
  simp (disch:=omega) only [in2_t,in2_f1,in2_f2,Bool.or_false,Bool.false_or,Bool.true_or,Bool.or_true,Bool.false_and,↓reduceIte,Bool.false_eq_true]
 clear h0;have h0:=g;clear g
 rcases Int.lt_or_le p 10016 with h|g
 ·
  simp (disch:=omega) only [in2_t,in2_f1,in2_f2,Bool.or_false,Bool.false_or,Bool.true_or,Bool.or_true,Bool.false_and,↓reduceIte,Bool.false_eq_true]
 clear h0;have h0:=g;clear g
 rcases Int.lt_or_le p 10026 with h|g
 ·
  simp (disch:=omega) only [in2_t,in2_f1,in2_f2,Bool.or_false,Bool.false_or,Bool.true_or,Bool.or_true,Bool.false_and,↓reduceIte,Bool.false_eq_true]
 clear h0;have h0:=g;clear g
 rcases Int.lt_or_le p 10032 with h|g
 ·
  simp (disch:=omega) only [in2_t,in2_f1,in2_f2,Bool.or_false,Bool.false_or,Bool.true_or,Bool.or_true,Bool.false_and,↓reduceIte,Bool.false_eq_true]
 clear h0;have h0:=g;clear g
 rcases Int.lt_or_le p 10036 with h|g
 ·
  simp (disch:=omega) only [in2_t,in2_f1,in2_f2,Bool.or_false,Bool.false_or,Bool.true_or,Bool.or_true,Bool.false_and,↓reduceIte,Bool.false_eq_true]
 clear h0;have h0:=g;clear g
 rcases Int.lt_or_le p 12288 with h|g
 ·
  simp (disch:=omega) only [in2_t,in2_f1,in2_f2,Bool.or_false,Bool.false_or,Bool.true_or,Bool.or_true,Bool.false_and,↓reduceIte,Bool.false_eq_true]
 clear h0;have h0:=g;clear g
 rcases Int.lt_or_le p 23460 with h|g
 ·
  simp (disch:=omega) only [in2_t,in2_f1,in2_f2,Bool.or_false,Bool.false_or,Bool.true_or,Bool.or_true,Bool.false_and,↓reduceIte,Bool.false_eq_true]
 clear h0;have h0:=g;clear g
 rcases Int.lt_or_le p 24576 with h|g
 ·
  simp (disch:=omega) only [in2_t,in2_f1,in2_f2,Bool.or_false,Bool.false_or,Bool.true_or,Bool.or_true,Bool.false_and,↓reduceIte,Bool.false_eq_true]
 clear h0;have h0:=g;clear g
 rcases Int.lt_or_le p 26624 with h|g
 ·
  simp (disch:=omega) only [in2_t,in2_f1,in2_f2,Bool.or_false,Bool.false_or,Bool.true_or,Bool.or_true,Bool.false_and,↓reduceIte,Bool.false_eq_true]
 clear h0;have h0:=g;clear g
 simp (disch:=omega) only [in2_t,in2_f1,in2_f2,Bool.or_false,Bool.false_or,Bool.true_or,Bool.or_true,Bool.false_and,↓reduceIte,Bool.false_eq_true]
theorem known_eq (k:Nat) (p:Int) (h0:0≤p) (h1:p≤1114111):spec_l01Known.f (k+40) p=some (kindV p):=by
 have e:spec_l01Known.f (k+40) p=spec_l01Known.j0 (k+40) p (in2 512 1279 p):=by
  unfold spec_l01Known.f in2
  by_cases a:p≥512
  ·
   rw [if_pos a,show decide (512≤p)=true from decide_eq_true (by omega),Bool.true_and,show decide (p<1280)=decide (p≤1279) from by simp;omega]
  ·
   rw [if_neg a,show decide (512≤p)=false from decide_eq_false (by omega),Bool.false_and]
 rw [e,show k+40=(k+39)+1 from rfl,spec_l01Known.j0]
 by_cases c:in2 512 1279 p=true
 ·
  rw [if_pos c,show spec_l01Cased.f=some casedL from rfl,Option.bind_some,show k+39=(k+31)+7+1 from rfl,show (0:Int)=((0:Nat):Int) from rfl,l0_eq p h0 h1 casedL (by decide) 7 0 (by decide) (k+31),List.drop_zero,cased_eq _ _ (by omega),kindV,if_pos c]
 ·
  rw [if_neg c]
  have hc:¬ (512≤p∧p≤1279):=fun h=>c (in2_iff.2 h)
  have hr:∀ b:Bool,b=false→(p<8192∨9728≤p)→spec_l01Known.j2 (k+39) p b=some (kindV p):=by
   rintro _ rfl hd
   rw [show k+39=(k+38)+1 from rfl,spec_l01Known.j2]
   rw [if_neg (by simp),show spec_l01Rows.f=some rowsL from rfl,Option.bind_some,show k+38=(k+5)+32+1 from rfl,show (0:Int)=((0:Nat):Int) from rfl,l1_eq p rowsL (by decide) 32 0 (by decide) (k+5),List.drop_zero,rows_eq p h0 (by omega) hd]
  by_cases a:p≥8192
  ·
   rw [if_pos a]
   by_cases b:p<9728
   ·
    rw [decide_eq_true b]
    rw [show k+39=(k+38)+1 from rfl,spec_l01Known.j2]
    rw [if_pos rfl,Int.tmod_eq_emod_of_nonneg h0]
    have em:(in2 8192 9631 p && decide (p % 512<416))=decide (p % 512<416):=by
     unfold in2
     rw [Bool.eq_iff_iff];simp;omega
    unfold kindV
    simp only [k2V,k3V,k4V,k5V,k6V,k7V,k8V,k9V,em]
    simp (disch:=omega) only [in2_t,in2_f1,in2_f2,Bool.or_false,Bool.false_or,Bool.true_or,Bool.or_true,Bool.false_and,↓reduceIte,Bool.false_eq_true]
    by_cases d:p % 512≥416
    ·
     rw [if_pos d,if_neg (show ¬ decide (p % 512<416)=true from by simp;omega)]
    ·
     rw [if_neg d,if_pos (show decide (p % 512<416)=true from decide_eq_true (by omega))]
     by_cases f:p % 512<208
     ·
      rw [if_pos f,if_pos f]
     ·
      rw [if_neg f,if_neg f]
   ·
    exact hr _ (decide_eq_false b) (by omega)
  ·
   rw [if_neg a];exact hr _ rfl (by omega)
def catV (p:Int):Int:=(kindV p).1
def ctlV (p:Int):Bool:=(catV p == 1) || (p == 7954)
def mrkV (p:Int):Bool:=(catV p == 3) || ((p == 7936) || in2 7744 7748 p)
def openV (p:Int):Bool:=in2 12288 23459 p && (Int.tmod (wrap64 (p-12288)) 28 == 0)
def clT (p:Int):Int:=if in2 1792 1810 p=true then 3 else if in2 1824 1844 p=true then 4 else if in2 1857 1883 p=true then 5 else if openV p=true then 6 else if in2 12288 23459 p=true then 7 else if in2 7680 7743 p=true then 8 else if in2 7760 7785 p=true then 9 else 0
def clV (p:Int):Int:=if ctlV p=true then 1 else if mrkV p=true then 2 else clT p
def partV (p:Int):Int:=if in2 1792 1810 p=true then 1 else if in2 1824 1844 p=true then 2 else if in2 1857 1883 p=true then 3 else if openV p=true then 4 else if in2 12288 23459 p=true then 5 else 0
theorem icat_eq (k:Nat) (p:Int) (h0:0≤p) (h1:p≤1114111):impl_Category.f (k+8) p=some (catV p):=by
 unfold impl_Category.f;rw [kind_eq k p h0 h1];rfl
theorem scat_eq (k:Nat) (p:Int) (h0:0≤p) (h1:p≤1114111):spec_l01Cat.f (k+40) p=some (catV p):=by
 unfold spec_l01Cat.f;rw [known_eq k p h0 h1];rfl
theorem ctl_eq (k:Nat) (p:Int) (h0:0≤p) (h1:p≤1114111):spec_l07Control.f (k+40) p=some (ctlV p):=by
 unfold spec_l07Control.f ctlV;rw [scat_eq k p h0 h1,Option.bind_some]
 by_cases c:catV p=1
 ·
  rw [if_pos c];simp [c]
 ·
  rw [if_neg c];simp [c]
theorem mrk_eq (k:Nat) (p:Int) (h0:0≤p) (h1:p≤1114111):spec_l07Mark.f (k+40) p=some (mrkV p):=by
 unfold spec_l07Mark.f mrkV;rw [scat_eq k p h0 h1,Option.bind_some]
 by_cases c:catV p=3
 ·
  rw [if_pos c];simp [c]
 ·
  rw [if_neg c]
  by_cases d:p=7936
  ·
   rw [if_pos d,d];simp
  ·
   rw [if_neg d,show (catV p == 3)=false by simpa using c,show (p == 7936)=false by simpa using d,Bool.false_or,Bool.false_or]
   unfold in2
   by_cases e:p≥7744
   ·
    rw [if_pos e,decide_eq_true (show 7744≤p from e),Bool.true_and]
   ·
    rw [if_neg e,decide_eq_false (show ¬ 7744≤p from e),Bool.false_and]
theorem pic_eq (p:Int):spec_l07Picture.f p=some (in2 7680 7743 p):=by
 unfold spec_l07Picture.f in2
 by_cases e:p≥7680
 ·
  rw [if_pos e,decide_eq_true (show 7680≤p from e),Bool.true_and]
 ·
  rw [if_neg e,decide_eq_false (show ¬ 7680≤p from e),Bool.false_and]
theorem flg_eq (p:Int):spec_l07Flag.f p=some (in2 7760 7785 p):=by
 unfold spec_l07Flag.f in2
 by_cases e:p≥7760
 ·
  rw [if_pos e,decide_eq_true (show 7760≤p from e),Bool.true_and]
 ·
  rw [if_neg e,decide_eq_false (show ¬ 7760≤p from e),Bool.false_and]
theorem ite_in2 {α:Type} (p a b:Int) (f:Bool→Option α):(if p≥a then f (decide (p≤b)) else f false)=f (in2 a b p):=by
 unfold in2
 by_cases e:p≥a
 ·
  rw [if_pos e,decide_eq_true (show a≤p from e),Bool.true_and]
 ·
  rw [if_neg e,decide_eq_false (show ¬ a≤p from e),Bool.false_and]
theorem part_eq (k:Nat) (p:Int):spec_l07Part.f (k+5) p=some (partV p):=by
 have e3:∀ b,b=openV p→spec_l07Part.j3 (k+2) p b=some (if b=true then 4 else if in2 12288 23459 p=true then 5 else 0):=by
  intro b hb
  rw [spec_l07Part.j3]
  cases b with
  | true=>rfl
  | false =>
   simp only [Bool.false_eq_true,if_false]
   unfold in2
   by_cases e:p≥12288
   ·
    by_cases f:p≤23459
    ·
     simp [e,f]
    ·
     simp [e,f]
   ·
    simp [e]
 have e2:∀ b,spec_l07Part.j2 (k+3) p b=some (if b=true then 3 else if openV p=true then 4 else if in2 12288 23459 p=true then 5 else 0):=by
  intro b
  rw [spec_l07Part.j2]
  cases b with
  | true=>rfl
  | false =>
   simp only [Bool.false_eq_true,if_false]
   by_cases e:p≥12288
   ·
    by_cases f:p≤23459
    ·
     rw [if_pos e,if_pos f]
     have h:(Int.tmod (wrap64 (p-12288)) 28 == 0)=openV p:=by unfold openV;rw [in2_t e f,Bool.true_and]
     rw [e3 _ h,h]
    ·
     rw [if_pos e,if_neg f,e3 false (by unfold openV;rw [in2_f2 (by omega),Bool.false_and])]
     have h:openV p=false:=by unfold openV;rw [in2_f2 (by omega),Bool.false_and]
     rw [h]
   ·
    rw [if_neg e]
    have h:openV p=false:=by unfold openV;rw [in2_f1 (by omega),Bool.false_and]
    rw [e3 false h.symm,h]
 have e1:∀ b,spec_l07Part.j1 (k+4) p b=some (if b=true then 2 else if in2 1857 1883 p=true then 3 else if openV p=true then 4 else if in2 12288 23459 p=true then 5 else 0):=by
  intro b
  rw [spec_l07Part.j1]
  cases b with
  | true=>rfl
  | false =>
   simp only [Bool.false_eq_true,if_false];rw [ite_in2 p 1857 1883 (fun b=>spec_l07Part.j2 (k+3) p b)]
   exact e2 _
 have e0:∀ b,spec_l07Part.j0 (k+5) p b=some (if b=true then 1 else if in2 1824 1844 p=true then 2 else if in2 1857 1883 p=true then 3 else if openV p=true then 4 else if in2 12288 23459 p=true then 5 else 0):=by
  intro b
  rw [spec_l07Part.j0]
  cases b with
  | true=>rfl
  | false =>
   simp only [Bool.false_eq_true,if_false];rw [ite_in2 p 1824 1844 (fun b=>spec_l07Part.j1 (k+4) p b)]
   exact e1 _
 unfold spec_l07Part.f
 rw [ite_in2 p 1792 1810 (fun b=>spec_l07Part.j0 (k+5) p b)]
 exact e0 _
theorem class_eq (k:Nat) (p:Int) (h0:0≤p) (h1:p≤1114111):impl_charClass.f (k+12) p=some (clV p):=by
 have eo:impl_isOpen.f p=some (openV p):=by
  unfold impl_isOpen.f impl_isSyllable.f openV
  simp only [in_eq,Option.bind_some]
  cases in2 12288 23459 p <;> rfl
 have e1:∀ b,impl_charClass.j1 (k+11) p b=some (if b=true then 2 else clT p):=by
  intro b
  rw [impl_charClass.j1]
  cases b with
  | true=>rfl
  | false =>
   simp only [Bool.false_eq_true,if_false]
   simp only [in_eq,eo,impl_isSyllable.f,impl_isPicture.f,Option.bind_some,clT]
   repeat' split
   all_goals rfl
 have e0:∀ b,impl_charClass.j0 (k+12) p b=some (if b=true then 1 else if mrkV p=true then 2 else clT p):=by
  intro b
  rw [impl_charClass.j0]
  cases b with
  | true=>rfl
  | false =>
   simp only [Bool.false_eq_true,if_false]
   unfold impl_isMark.f
   rw [show k+11=(k+3)+8 from rfl,icat_eq (k+3) p h0 h1,Option.bind_some,Option.bind_some]
   simp only [show k+3+8=k+11 from rfl,e1,in_eq,Option.bind_some]
   unfold mrkV
   by_cases c:(catV p == 3)=true
   ·
    rw [if_pos c,c];rfl
   ·
    rw [if_neg c,show (catV p == 3)=false by simpa using c,Bool.false_or]
    by_cases d:p=7936
    ·
     rw [if_pos d,d];rfl
    ·
     rw [if_neg d,show (p == 7936)=false by simpa using d,Bool.false_or]
 unfold impl_charClass.f
 rw [show k+12=(k+4)+8 from rfl,icat_eq (k+4) p h0 h1,Option.bind_some]
 simp only [show k+4+8=k+12 from rfl,e0,clV]
 by_cases c:catV p=1
 ·
  have h:ctlV p=true:=by simp [ctlV,c]
  rw [if_pos c,h];rfl
 ·
  have h:ctlV p=(p == 7954):=by simp [ctlV,c]
  rw [if_neg c,h]
theorem cat7 (p:Int) (h:(1792≤p∧p≤1810)∨(1824≤p∧p≤1844)∨(1857≤p∧p≤1883)∨(12288≤p∧p≤23459)):catV p=7:=by
 unfold catV kindV
 simp only [k2V,k3V,k4V,k5V,k6V,k7V,k8V,k9V]
 rcases h with h|h|h|h <;> simp (disch:=omega) only [in2_t,in2_f1,in2_f2,Bool.or_false,Bool.false_or,Bool.true_or,Bool.or_true,Bool.false_and,↓reduceIte,Bool.false_eq_true]
theorem cat10 (p:Int) (h:(7680≤p∧p≤7748)∨(7760≤p∧p≤7785)):catV p=10:=by
 unfold catV kindV
 simp only [k2V,k3V,k4V,k5V,k6V,k7V,k8V,k9V]
 rcases h with h|h <;> simp (disch:=omega) only [in2_t,in2_f1,in2_f2,Bool.or_false,Bool.false_or,Bool.true_or,Bool.or_true,Bool.false_and,↓reduceIte,Bool.false_eq_true]
theorem cat11 (p:Int) (h:p=7936∨p=7954):catV p=11:=by
 rcases h with rfl|rfl <;> decide
theorem cls (p:Int):(clV p,ctlV p,mrkV p,partV p,in2 7680 7743 p,in2 7760 7785 p) ∈ [(1,true,false,0,false,false),(2,false,true,0,false,false),(3,false,false,1,false,false),(4,false,false,2,false,false),(5,false,false,3,false,false),(6,false,false,4,false,false),(7,false,false,5,false,false),(8,false,false,0,true,false),(9,false,false,0,false,true),((0:Int),false,false,(0:Int),false,false)]:=by
 have hm:∀ c,catV p=c→c≠1→c≠3→p≠7954→p≠7936→(p<7744∨7748<p)→ctlV p=false∧mrkV p=false:=by
  intro c h1 h2 h3 h4 h5 h6
  refine ⟨by simp [ctlV,h1,h2,h4],?_⟩
  unfold mrkV
  rw [h1,show (c == 3)=false by simpa using h3,show (p == 7936)=false by simpa using h5]
  rcases h6 with h|h
  ·
   rw [in2_f1 h];rfl
  ·
   rw [in2_f2 h];rfl
 have hn:∀ a b:Int,in2 a b p=true→a≤p∧p≤b:=fun a b h=>in2_iff.1 h
 by_cases c1:in2 1792 1810 p=true
 ·
  have h:=hn _ _ c1;obtain ⟨m1,m2⟩:=hm 7 (cat7 p (by omega)) (by decide) (by decide) (by omega) (by omega) (by omega)
  simp [clV,clT,partV,m1,m2,c1,in2_f1 (a:=7680) (b:=7743) (p:=p) (by omega),in2_f1 (a:=7760) (b:=7785) (p:=p) (by omega)]
 ·
  by_cases c2:in2 1824 1844 p=true
  ·
   have h:=hn _ _ c2;obtain ⟨m1,m2⟩:=hm 7 (cat7 p (by omega)) (by decide) (by decide) (by omega) (by omega) (by omega)
   simp [clV,clT,partV,m1,m2,c1,c2,in2_f1 (a:=7680) (b:=7743) (p:=p) (by omega),in2_f1 (a:=7760) (b:=7785) (p:=p) (by omega)]
  ·
   by_cases c3:in2 1857 1883 p=true
   ·
    have h:=hn _ _ c3;obtain ⟨m1,m2⟩:=hm 7 (cat7 p (by omega)) (by decide) (by decide) (by omega) (by omega) (by omega)
    simp [clV,clT,partV,m1,m2,c1,c2,c3,in2_f1 (a:=7680) (b:=7743) (p:=p) (by omega),in2_f1 (a:=7760) (b:=7785) (p:=p) (by omega)]
   ·
    by_cases c5:in2 12288 23459 p=true
    ·
     have h:=hn _ _ c5;obtain ⟨m1,m2⟩:=hm 7 (cat7 p (by omega)) (by decide) (by decide) (by omega) (by omega) (by omega)
     have f1:=in2_f2 (a:=7680) (b:=7743) (p:=p) (by omega)
     have f2:=in2_f2 (a:=7760) (b:=7785) (p:=p) (by omega)
     by_cases c4:openV p=true
     ·
      simp [clV,clT,partV,m1,m2,c1,c2,c3,c4,c5,f1,f2]
     ·
      simp [clV,clT,partV,m1,m2,c1,c2,c3,c4,c5,f1,f2]
    ·
     have c4:openV p=false:=by unfold openV;rw [show in2 12288 23459 p=false by simpa using c5];rfl
     have hp:partV p=0:=by simp [partV,c1,c2,c3,c4,c5]
     by_cases c6:in2 7680 7743 p=true
     ·
      have h:=hn _ _ c6;obtain ⟨m1,m2⟩:=hm 10 (cat10 p (by omega)) (by decide) (by decide) (by omega) (by omega) (by omega)
      simp [clV,clT,hp,m1,m2,c1,c2,c3,c4,c5,c6,in2_f1 (a:=7760) (b:=7785) (p:=p) (by omega)]
     ·
      by_cases c7:in2 7760 7785 p=true
      ·
       have h:=hn _ _ c7;obtain ⟨m1,m2⟩:=hm 10 (cat10 p (by omega)) (by decide) (by decide) (by omega) (by omega) (by omega)
       simp [clV,clT,hp,m1,m2,c1,c2,c3,c4,c5,c6,c7]
      ·
       by_cases m1:ctlV p=true
       ·
        have m2:mrkV p=false:=by
         by_cases d:p=7954
         ·
          subst d;decide
         ·
          have hc:catV p=1:=by simpa [ctlV,d] using m1
          unfold mrkV
          rw [hc]
          by_cases e:p=7936
          ·
           rw [cat11 p (Or.inl e)] at hc;exact absurd hc (by decide)
          ·
           by_cases f:in2 7744 7748 p=true
           ·
            have:=hn _ _ f;rw [cat10 p (by omega)] at hc;exact absurd hc (by decide)
           ·
            simp [e,f]
        simp [clV,hp,m1,m2,c6,c7]
       ·
        by_cases m2:mrkV p=true
        ·
         simp [clV,hp,m1,m2,c6,c7]
        ·
         simp [clV,clT,hp,m1,m2,c1,c2,c3,c4,c5,c6,c7]
abbrev Ten:=Int × Bool × Bool × Int × Bool × Bool
def tens:List Ten:=[(1,true,false,0,false,false),(2,false,true,0,false,false),(3,false,false,1,false,false),(4,false,false,2,false,false),(5,false,false,3,false,false),(6,false,false,4,false,false),(7,false,false,5,false,false),(8,false,false,0,true,false),(9,false,false,0,false,true),(0,false,false,0,false,false)]
def sylV (a b:Int):Bool:=if a=1 then (b == 1 || (b == 2 || (b == 4 || b == 5))) else if a=2∨a=4 then (b == 2 || b == 3) else if a=3∨a=5 then b == 3 else false
def cutS (t u:Ten) (a inb bnd e pic x:Bool):Bool :=
 if a=true then false else if (t.2.1 || u.2.1)=true then true else if (sylV t.2.2.2.1 u.2.2.2.1 || u.2.2.1)=true then false else if (inb && bnd)=true then false else if (e && u.2.2.2.2.1)=true then !pic else if (t.2.2.2.2.2 && u.2.2.2.2.2)=true then !x else true
def cutC (d c:Int) (a inb bnd e pic x:Bool):Bool :=
 if a=true then false
 else if (c == 1 || d == 1)=true then true
 else if (d == 3 && (c == 3 || c == 4 || c == 6 || c == 7))=true then false
 else if ((d == 4 || d == 6) && (c == 4 || c == 5))=true then false
 else if ((d == 5 || d == 7) && c == 5)=true then false
 else if (c == 2)=true then false
 else if (inb && bnd)=true then false
 else if (e && c == 8 && pic)=true then false
 else if (c == 9 && d == 9 && x)=true then false
 else true
theorem cut_tab:∀ t ∈ tens,∀ u ∈ tens,∀ a inb bnd e pic x:Bool,cutS t u a inb bnd e pic x=cutC t.1 u.1 a inb bnd e pic x:=by decide +kernel
def ten (p:Int):Ten:=(clV p,ctlV p,mrkV p,partV p,in2 7680 7743 p,in2 7760 7785 p)
theorem ten_mem (p:Int):ten p ∈ tens:=cls p
theorem cut_bool (q p:Int) (bnd pic:Bool) (fl:Int):cutS (ten q) (ten p) (q == 13 && p == 10) (in2 1536 1567 p) bnd (q == 7936) pic (Int.tmod fl 2 == 1)=cc_cutB q p (clV p) (clV q) bnd pic fl (in2 1536 1567 p) :=
 cut_tab _ (ten_mem q) _ (ten_mem p) _ _ _ _ _ _
theorem tens_m:∀ t ∈ tens,(t.2.2.1=true ↔ t.1=2)∧(t.2.2.2.2.1=true ↔ t.1=8)∧(t.2.2.2.2.2=true ↔ t.1=9):=by decide
theorem mrk_cl (p:Int):mrkV p=true ↔ clV p=2:=(tens_m _ (ten_mem p)).1
theorem pic_cl (p:Int):in2 7680 7743 p=true ↔ clV p=8:=(tens_m _ (ten_mem p)).2.1
theorem flg_cl (p:Int):in2 7760 7785 p=true ↔ clV p=9:=(tens_m _ (ten_mem p)).2.2
def picA (L:List Int):Nat→Bool
 | 0=>false
 | n+1=>if clV (rd L n)=2 then picA L n else (clV (rd L n) == 8)
def bndA (L:List Int):Nat→Bool
 | 0=>false
 | n+1=>(rd L n == 1584) || ((rd L n == 1585) && bndA L n)
def flA (L:List Int):Nat→Nat
 | 0=>0
 | n+1=>if clV (rd L n)=9 then flA L n+1 else 0
theorem flA_le (L:List Int):∀ n,flA L n≤n
 | 0=>Nat.le_refl 0
 | n+1=>by have:=flA_le L n;unfold flA;split <;> omega
def cutV (L:List Int) (i:Nat):Bool:=cc_cutB (rd L ((i:Int)-1)) (rd L i) (clV (rd L i)) (clV (rd L ((i:Int)-1))) (bndA L i) (picA L i) (flA L i) (in2 1536 1567 (rd L i))
def okL (L:List Int):Prop:=L.length≤1048576 ∧ ∀ i:Nat,i<L.length→0≤rd L i∧rd L i≤1114111
theorem ctl_ge {k:Nat} {p:Int} (hk:40≤k) (h0:0≤p) (h1:p≤1114111):spec_l07Control.f k p=some (ctlV p):=by
 obtain ⟨m,rfl⟩:∃ m,k=m+40:=⟨k-40,by omega⟩;exact ctl_eq m p h0 h1
theorem mrk_ge {k:Nat} {p:Int} (hk:40≤k) (h0:0≤p) (h1:p≤1114111):spec_l07Mark.f k p=some (mrkV p):=by
 obtain ⟨m,rfl⟩:∃ m,k=m+40:=⟨k-40,by omega⟩;exact mrk_eq m p h0 h1
theorem class_ge {k:Nat} {p:Int} (hk:12≤k) (h0:0≤p) (h1:p≤1114111):impl_charClass.f k p=some (clV p):=by
 obtain ⟨m,rfl⟩:∃ m,k=m+12:=⟨k-12,by omega⟩;exact class_eq m p h0 h1
theorem part_ge {k:Nat} {p:Int} (hk:5≤k):spec_l07Part.f k p=some (partV p):=by
 obtain ⟨m,rfl⟩:∃ m,k=m+5:=⟨k-5,by omega⟩;exact part_eq m p
theorem syl_ge {k:Nat} {q p:Int} (hk:6≤k):spec_l07Syllable.f k q p=some (sylV (partV q) (partV p)):=by
 obtain ⟨m,rfl⟩:∃ m,k=m+1:=⟨k-1,by omega⟩
 unfold spec_l07Syllable.f
 rw [part_ge (by omega),part_ge (by omega),Option.bind_some,Option.bind_some]
 generalize partV q=a;generalize partV p=b
 unfold sylV
 simp only [spec_l07Syllable.j0]
 by_cases a1:a=1
 ·
  subst a1;simp only [if_true]
  by_cases b1:b=1
  ·
   simp [b1]
  ·
   by_cases b2:b=2
   ·
    simp [b2]
   ·
    by_cases b4:b=4
    ·
     simp [b4]
    ·
     simp [b1,b2,b4,show (b == 1)=false by simpa using b1,show (b == 2)=false by simpa using b2,show (b == 4)=false by simpa using b4]
 ·
  by_cases a2:a=2
  ·
   subst a2
   by_cases b2:b=2
   ·
    simp [b2]
   ·
    simp [b2]
  ·
   by_cases a4:a=4
   ·
    subst a4
    by_cases b2:b=2
    ·
     simp [b2]
    ·
     simp [b2]
   ·
    by_cases a3:a=3
    ·
     subst a3;simp
    ·
     by_cases a5:a=5
     ·
      subst a5;simp
     ·
      simp [a1,a2,a3,a4,a5]
theorem bnd_eq (L:List Int) (hL:okL L):∀ n:Nat,n<L.length → ∀ k,spec_l07Bound.l0 (k+n+1) L (n:Int)=some (bndA L (n+1))
 | 0,h,k=>by
  rw [spec_l07Bound.l0,if_neg (by decide),if_pos (by decide),if_pos (by omega)]
  simp [bndA]
 | n+1,h,k=>by
  have hl:=hL.1
  have ih:=bnd_eq L hL n (by omega) k
  rw [spec_l07Bound.l0,if_pos (by omega),if_pos (by omega),if_pos (by omega),w64 (by omega) (by omega),show ((n+1:Nat):Int)-1=(n:Int) from by omega,show k+(n+1)=k+n+1 from rfl,ih]
  rw [show bndA L (n+1+1)=((rd L ((n+1:Nat):Int) == 1584) || ((rd L ((n+1:Nat):Int) == 1585) && bndA L (n+1))) from rfl]
  by_cases c:rd L ((n+1:Nat):Int)=1585
  ·
   rw [if_pos c,c];simp
  ·
   rw [if_neg c,show (rd L ((n+1:Nat):Int) == 1585)=false by simpa using c];simp
theorem fl_eq (L:List Int) (hL:okL L) (a:Nat) (ha:a<L.length):∀ j m:Nat,j+m=a+1 → ∀ k,spec_l07Flags.l0 (k+j+1) L (a:Int) (m:Int)=some ((m+flA L j:Nat):Int)
 | 0,m,h,k=>by
  have hl:=hL.1
  rw [spec_l07Flags.l0,w64 (by omega) (by omega),if_neg (by omega)];rfl
 | j+1,m,h,k=>by
  have hl:=hL.1
  have ih:=fl_eq L hL a ha j (m+1) (by omega) k
  rw [spec_l07Flags.l0,w64 (x:=(a:Int)-m) (by omega) (by omega),if_pos (by omega),if_pos (by omega),if_pos (by omega),flg_eq,Option.bind_some,show (a:Int)-(m:Int)=(j:Int) from by omega,w64 (by omega) (by omega),show (m:Int)+1=((m+1:Nat):Int) from by omega,show k+(j+1)=k+j+1 from rfl,ih]
  rw [show flA L (j+1)=if clV (rd L (j:Int))=9 then flA L j+1 else 0 from rfl]
  by_cases c:in2 7760 7785 (rd L (j:Int))=true
  ·
   rw [if_pos c,if_pos ((flg_cl _).1 c)];congr 2;omega
  ·
   rw [if_neg c,if_neg (fun h=>c ((flg_cl _).2 h))];rfl
theorem skip_eq (L:List Int) (hL:okL L):∀ j:Nat,j≤L.length → ∀ k,spec_l07Char.l0 (k+j+41) L ((j:Int)-1)=some (!picA L j)
 | 0,h,k=>by
  rw [show k+0+41=(k+40)+1 from rfl,spec_l07Char.l0,if_neg (by decide),if_pos (by decide)];rfl
 | j+1,h,k=>by
  have hl:=hL.1
  have hj:=hL.2 j (by omega)
  have ih:=skip_eq L hL j (by omega) k
  rw [show k+(j+1)+41=(k+j+41)+1 from by omega,spec_l07Char.l0,show ((j+1:Nat):Int)-1=(j:Int) from by omega,if_pos (by omega),if_pos (by omega),if_pos (by omega),mrk_ge (by omega) hj.1 hj.2,Option.bind_some,w64 (by omega) (by omega),ih]
  rw [show picA L (j+1)=if clV (rd L (j:Int))=2 then picA L j else (clV (rd L (j:Int)) == 8) from rfl]
  by_cases c:mrkV (rd L (j:Int))=true
  ·
   rw [if_pos c,if_pos ((mrk_cl _).1 c)]
  ·
   rw [if_neg c,if_neg (show ¬ ((j:Int)<0) from by omega),pic_eq,Option.bind_some,if_neg (fun h=>c ((mrk_cl _).2 h)),show (in2 7680 7743 (rd L (j:Int)))=(clV (rd L (j:Int)) == 8) from by rw [Bool.eq_iff_iff,pic_cl];simp]
theorem char_eq (L:List Int) (hL:okL L) (i:Nat) (h0:0<i) (hi:i<L.length) (k:Nat) (hk:L.length+60≤k):spec_l07Char.f k L (i:Int)=some (cutV L i):=by
 have hl:=hL.1
 obtain ⟨j,rfl⟩:∃ j,i=j+1:=⟨i-1,by omega⟩
 obtain ⟨m,rfl⟩:∃ m,k=m+6:=⟨k-6,by omega⟩
 have hq:=hL.2 j (by omega)
 have hp:=hL.2 (j+1) hi
 have ej:((j+1:Nat):Int)-1=(j:Int):=by omega
 have e4:∀ b,b=(rd L (j:Int) == 7936 && in2 7680 7743 (rd L ((j+1:Nat):Int)))→spec_l07Char.j4 (m+2) L ((j+1:Nat):Int) (rd L (j:Int)) (rd L ((j+1:Nat):Int)) b=some (if b=true then !picA L (j+1) else if (in2 7760 7785 (rd L (j:Int)) && in2 7760 7785 (rd L ((j+1:Nat):Int)))=true then !(Int.tmod (flA L (j+1):Int) 2 == 1) else true):=by
  intro b hb
  rw [spec_l07Char.j4]
  cases b with
  | true =>
   rw [if_pos rfl,if_pos rfl,w64 (by omega) (by omega),show ((j+1:Nat):Int)-2=(j:Int)-1 from by omega]
   have hs:=skip_eq L hL j (by omega) (m+1-j-41)
   rw [show m+1-j-41+j+41=m+1 from by omega] at hs
   rw [hs]
   have h79:rd L (j:Int)=7936:=by have:=hb.symm;simp at this;exact this.1
   rw [show picA L (j+1)=picA L j from by unfold picA;rw [h79,if_pos (by decide)];cases j <;> rfl]
  | false =>
   simp only [Bool.false_eq_true,if_false]
   rw [flg_eq,flg_eq,Option.bind_some,Option.bind_some,w64 (by omega) (by omega),ej]
   have hf:=fl_eq L hL j (by omega) (j+1) 0 (by omega) (m-(j+1))
   rw [show m-(j+1)+(j+1)+1=m+1 from by omega,Nat.zero_add] at hf
   unfold spec_l07Flags.f
   rw [show (0:Int)=((0:Nat):Int) from rfl,hf,Option.bind_some]
   have e2:(Int.tmod (flA L (j+1):Int) 2 == ((0:Nat):Int)) = !(Int.tmod (flA L (j+1):Int) 2 == 1):=by
    rw [Int.tmod_eq_emod_of_nonneg (by omega),Bool.eq_iff_iff];simp;omega
   rw [e2]
   cases in2 7760 7785 (rd L (j:Int)) <;> cases in2 7760 7785 (rd L ((j+1:Nat):Int)) <;> rfl
 have e3:∀ b,spec_l07Char.j3 (m+3) L ((j+1:Nat):Int) (rd L (j:Int)) (rd L ((j+1:Nat):Int)) b=some (if b=true then false else if (rd L (j:Int) == 7936 && in2 7680 7743 (rd L ((j+1:Nat):Int)))=true then !picA L (j+1) else if (in2 7760 7785 (rd L (j:Int)) && in2 7760 7785 (rd L ((j+1:Nat):Int)))=true then !(Int.tmod (flA L (j+1):Int) 2 == 1) else true):=by
  intro b
  rw [spec_l07Char.j3]
  cases b with
  | true=>rfl
  | false =>
   simp only [Bool.false_eq_true,if_false]
   by_cases c:rd L (j:Int)=7936
   ·
    rw [if_pos c,pic_eq,Option.bind_some,e4 _ (by rw [c];rfl),show (rd L (j:Int) == 7936)=true from by rw [c];rfl,Bool.true_and]
   ·
    rw [if_neg c,e4 false (by rw [show (rd L (j:Int) == 7936)=false by simpa using c,Bool.false_and]),show (rd L (j:Int) == 7936)=false by simpa using c,Bool.false_and]
 have e2:∀ b,spec_l07Char.j2 (m+4) L ((j+1:Nat):Int) (rd L (j:Int)) (rd L ((j+1:Nat):Int)) b=some (if b=true then false else if (in2 1536 1567 (rd L ((j+1:Nat):Int)) && bndA L (j+1))=true then false else if (rd L (j:Int) == 7936 && in2 7680 7743 (rd L ((j+1:Nat):Int)))=true then !picA L (j+1) else if (in2 7760 7785 (rd L (j:Int)) && in2 7760 7785 (rd L ((j+1:Nat):Int)))=true then !(Int.tmod (flA L (j+1):Int) 2 == 1) else true):=by
  intro b
  rw [spec_l07Char.j2]
  cases b with
  | true=>rfl
  | false =>
   simp only [Bool.false_eq_true,if_false]
   have hb:=bnd_eq L hL j (by omega) (m+2-j)
   rw [show m+2-j+j+1=m+3 from by omega] at hb
   unfold spec_l07Bound.f
   rw [w64 (by omega) (by omega),ej,hb,Option.bind_some]
   by_cases c:rd L ((j+1:Nat):Int)≥1536
   ·
    by_cases d:rd L ((j+1:Nat):Int)≤1567
    ·
     rw [if_pos c,if_pos d,e3,in2_t c d,Bool.true_and]
    ·
     rw [if_pos c,if_neg d,e3,in2_f2 (a:=1536) (b:=1567) (by omega),Bool.false_and]
   ·
    rw [if_neg c,e3,in2_f1 (a:=1536) (b:=1567) (by omega),Bool.false_and]
 have e1:∀ b,spec_l07Char.j1 (m+5) L ((j+1:Nat):Int) (rd L (j:Int)) (rd L ((j+1:Nat):Int)) b=some (if b=true then true else if (sylV (partV (rd L (j:Int))) (partV (rd L ((j+1:Nat):Int))) || mrkV (rd L ((j+1:Nat):Int)))=true then false else if (in2 1536 1567 (rd L ((j+1:Nat):Int)) && bndA L (j+1))=true then false else if (rd L (j:Int) == 7936 && in2 7680 7743 (rd L ((j+1:Nat):Int)))=true then !picA L (j+1) else if (in2 7760 7785 (rd L (j:Int)) && in2 7760 7785 (rd L ((j+1:Nat):Int)))=true then !(Int.tmod (flA L (j+1):Int) 2 == 1) else true):=by
  intro b
  rw [spec_l07Char.j1]
  cases b with
  | true=>rfl
  | false =>
   simp only [Bool.false_eq_true,if_false]
   rw [syl_ge (by omega),mrk_ge (by omega) hp.1 hp.2,Option.bind_some,Option.bind_some,e2,e2]
   cases sylV (partV (rd L (j:Int))) (partV (rd L ((j+1:Nat):Int))) <;> rfl
 have e0:∀ b,spec_l07Char.j0 (m+6) L ((j+1:Nat):Int) (rd L (j:Int)) (rd L ((j+1:Nat):Int)) b=some (cutS (ten (rd L (j:Int))) (ten (rd L ((j+1:Nat):Int))) b (in2 1536 1567 (rd L ((j+1:Nat):Int))) (bndA L (j+1)) (rd L (j:Int) == 7936) (picA L (j+1)) (Int.tmod (flA L (j+1):Int) 2 == 1)):=by
  intro b
  rw [spec_l07Char.j0]
  cases b with
  | true=>rfl
  | false =>
   simp only [Bool.false_eq_true,if_false]
   rw [ctl_ge (by omega) hq.1 hq.2,ctl_ge (by omega) hp.1 hp.2,Option.bind_some,Option.bind_some,e1,e1]
   unfold cutS ten
   cases ctlV (rd L (j:Int)) <;> rfl
 unfold spec_l07Char.f cutV
 rw [← cut_bool,w64 (by omega) (by omega),ej,if_pos (by omega),if_pos (by omega),if_pos (by omega),if_pos (by omega),e0,e0]
 by_cases c:rd L (j:Int)=13
 ·
  rw [if_pos c,show (rd L (j:Int) == 13)=true by simpa using c,Bool.true_and]
 ·
  rw [if_neg c,show (rd L (j:Int) == 13)=false by simpa using c,Bool.false_and]
def rws (s:ByteArray):Nat→Nat→List (Int × Int)
 | 0,_=>[]
 | n+1,i=>if i<s.size then (((dec s i).1:Int),(i:Int)) :: rws s n (i+(dec s i).2) else []
def rds (s:ByteArray):Nat→Nat→List S45
 | 0,_=>[]
 | n+1,i=>if i<s.size then (if ((dec s i).1:Int)=65533 then ⟨((dec s i).1:Int),(i:Int),((i+(dec s i).2:Nat):Int),(((dec s i).2:Int) == 1)⟩ else ⟨((dec s i).1:Int),(i:Int),((i+(dec s i).2:Nat):Int),false⟩) :: rds s n (i+(dec s i).2) else []
theorem rds_f0 (s:ByteArray):∀ n i,(rds s n i).map (·.f0)=(rws s n i).map (·.1)
 | 0,_=>rfl
 | n+1,i=>by
  unfold rds rws
  split
  ·
   rw [List.map_cons,List.map_cons,rds_f0 s n];split <;> rfl
  ·
   rfl
theorem rds_f1 (s:ByteArray):∀ n i,(rds s n i).map (·.f1)=(rws s n i).map (·.2)
 | 0,_=>rfl
 | n+1,i=>by
  unfold rds rws
  split
  ·
   rw [List.map_cons,List.map_cons,rds_f1 s n];split <;> rfl
  ·
   rfl
theorem rws_len (s:ByteArray):∀ n i,(rws s n i).length≤n
 | 0,_=>Nat.le_refl 0
 | n+1,i=>by
  unfold rws
  split
  ·
   rw [List.length_cons];have:=rws_len s n (i+(dec s i).2);omega
  ·
   simp
theorem rds_len (s:ByteArray) (n i:Nat):(rds s n i).length=(rws s n i).length:=by
 have:=congrArg List.length (rds_f0 s n i);simpa using this
theorem rws_in (s:ByteArray):∀ n i x,x ∈ rws s n i→(0≤x.1∧x.1≤1114111)∧(i:Int)≤x.2∧x.2<(s.size:Int)
 | 0,_,_,h=>by simp [rws] at h
 | n+1,i,x,h=>by
  unfold rws at h
  split at h
  ·
   rename_i hi
   rcases List.mem_cons.1 h with rfl|h
   ·
    have:=dec_fst s i
    exact ⟨⟨by simp only;omega,by simp only;omega⟩,by simp only;omega,by simp only;omega⟩
   ·
    obtain ⟨h1,h2,h3⟩:=rws_in s n _ x h
    exact ⟨h1,by omega,h3⟩
  ·
   simp at h
theorem rws_up (s:ByteArray):∀ n i,(rws s n i).Pairwise (fun a b=>a.2<b.2)
 | 0,_=>List.Pairwise.nil
 | n+1,i=>by
  unfold rws
  split
  ·
   rename_i hi
   refine List.Pairwise.cons (fun x hx=>?_) (rws_up s n _)
   have:=(rws_in s n _ x hx).2.1
   have:=(dec_size s i hi).1
   simp only;omega
  ·
   exact List.Pairwise.nil
theorem rowOf_l0 (s:ByteArray) (hs:s.size≤1048576):∀ (n i:Nat) (P Q:List Int),s.size≤i+n→P.length+n≤2097152→Q.length+n≤2097152 → ∀ k,spec_l07RowOf.l0 (k+n+12) s (i:Int) P Q=some (P ++ (rws s n i).map (·.1),(Q ++ (rws s n i).map (·.2)) ++ [(s.size:Int)])
 | 0,i,P,Q,h,hP,hQ,k=>by
  rw [spec_l07RowOf.l0,if_neg (by omega),if_pos (by omega)];simp [rws]
 | n+1,i,P,Q,h,hP,hQ,k=>by
  by_cases c:i<s.size
  ·
   have hd:=dec_size s i c
   have ih:=rowOf_l0 s hs n (i+(dec s i).2) (P ++ [((dec s i).1:Int)]) (Q ++ [(i:Int)]) (by omega) (by simp;omega) (by simp;omega) k
   rw [show k+(n+1)+12=(k+n+12)+1 from by omega,spec_l07RowOf.l0,if_pos (by omega),show k+n+12=(k+n+2)+10 from by omega,next_eq s i (by omega) c,Option.bind_some,if_pos (by omega),if_pos (by omega)]
   unfold nextV
   simp only
   rw [w64 (by omega) (by omega),show (i:Int)+((dec s i).2:Int)=((i+(dec s i).2:Nat):Int) from by omega,show k+n+2+10=k+n+12 from by omega,ih]
   simp only [rws,if_pos c,List.map_cons,List.append_assoc,List.singleton_append,List.cons_append,List.nil_append]
  ·
   rw [show k+(n+1)+12=(k+n+12)+1 from by omega,spec_l07RowOf.l0,if_neg (by omega),if_pos (by omega)];simp [rws,c]
theorem rowOf_eq (s:ByteArray) (hs:s.size≤1048576) (k:Nat):spec_l07RowOf.f (k+s.size+12) s=some ((rws s s.size 0).map (·.1),(rws s s.size 0).map (·.2) ++ [(s.size:Int)]):=by
 have:=rowOf_l0 s hs s.size 0 [] [] (by omega) (by simp;omega) (by simp;omega) k
 simpa [spec_l07RowOf.f] using this
theorem read_l0 (s:ByteArray) (hs:s.size≤1048576):∀ (n i:Nat) (R:List S45),s.size≤i+n→i≤s.size→R.length+n≤2097152 → ∀ k,impl_read.l0 (k+n+1) s R (i:Int)=some (R ++ rds s n i)
 | 0,i,R,h,hi,hR,k=>by
  rw [impl_read.l0,if_neg (by omega)];simp [rds]
 | n+1,i,R,h,hi,hR,k=>by
  by_cases c:i<s.size
  ·
   have hd:=dec_size s i c
   have hp:=dec_fst s i
   rw [show k+(n+1)+1=(k+n+1)+1 from by omega,impl_read.l0,if_pos (by omega),if_pos (by omega),if_pos (by omega)]
   unfold utf8_DecodeRuneInString.f
   rw [show ((i:Int)).toNat=i from by omega,dec_tail s i c,Option.bind_some]
   simp only
   rw [w64 (x:=((dec s i).1:Int)) (by omega) (by omega),w64 (by omega) (by omega),show (i:Int)+((dec s i).2:Int)=((i+(dec s i).2:Nat):Int) from by omega]
   have ih:=fun x=>read_l0 s hs n (i+(dec s i).2) (R ++ [x]) (by omega) (by omega) (by simp;omega) k
   rw [rds,if_pos c]
   by_cases e:((dec s i).1:Int)=65533
   ·
    rw [if_pos e,if_pos (by omega),ih,if_pos e,List.append_assoc];rfl
   ·
    rw [if_neg e,if_pos (by omega),ih,if_neg e,List.append_assoc];rfl
  ·
   rw [show k+(n+1)+1=(k+n+1)+1 from by omega,impl_read.l0,if_neg (by omega)];simp [rds,c]
theorem read_eq (s:ByteArray) (hs:s.size≤1048576) (k:Nat):impl_read.f (k+s.size+1) s=some (rds s s.size 0):=by
 have:=read_l0 s hs s.size 0 [] (by omega) (by omega) (by simp;omega) k
 simpa [impl_read.f] using this
theorem rd45 (l:List S45) (i:Nat) (h:i<l.length):rd_T45 l (i:Int)=l[i]:=by simp [rd_T45,List.getD_eq_getElem?_getD,List.getElem?_eq_getElem h]
theorem rd_nat (l:List Int) (i:Nat) (h:i<l.length):rd l (i:Int)=l[i]:=by simp [rd,List.getD_eq_getElem?_getD,List.getElem?_eq_getElem h]
theorem only_l0 (R:List S45) (hR:R.length≤2097152):∀ (n i:Nat) (x3:List Int),R.length=i+n→x3.length=R.length→x3.take i=(R.map (·.f0)).take i → ∀ k,impl_onlyPoints.l0 (k+n+1) x3 R (R.length:Int) (i:Int)=some (R.map (·.f0))
 | 0,i,x3,h,hl,ht,k=>by
  rw [impl_onlyPoints.l0,if_neg (by omega)]
  rw [List.take_of_length_le (by omega),List.take_of_length_le (by simp;omega)] at ht
  rw [ht]
 | n+1,i,x3,h,hl,ht,k=>by
  rw [show k+(n+1)+1=(k+n+1)+1 from by omega,impl_onlyPoints.l0,if_pos (by omega),if_pos (by omega),if_pos (by omega),if_pos (by omega),rd45 R i (by omega),w64 (by omega) (by omega),show (i:Int)+1=((i+1:Nat):Int) from by omega,show ((i:Int)).toNat=i from by omega]
  refine only_l0 R hR n (i+1) _ (by omega) (by simpa using hl) ?_ k
  rw [List.take_add_one,List.take_add_one,List.take_set_of_le (Nat.le_refl i),ht,List.getElem?_set_self (by omega),List.getElem?_map,List.getElem?_eq_getElem (by omega)]
  rfl
theorem only_eq (R:List S45) (hR:R.length≤2097152) (k:Nat):impl_onlyPoints.f (k+R.length+1) R=some (R.map (·.f0)):=by
 unfold impl_onlyPoints.f
 rw [if_pos (by omega),if_pos (by omega)]
 exact only_l0 R hR R.length 0 _ (by omega) (by simp) (by simp) k
theorem points_l0 (R:List S45) (hR:R.length≤2097152):∀ (n i:Nat),R.length=i+n → ∀ k,impl_points.l0 (k+n+1) ((R.map (·.f0)).take i) R (R.length:Int) (i:Int)=some (R.map (·.f0))
 | 0,i,h,k=>by
  rw [impl_points.l0,if_neg (by omega),List.take_of_length_le (by simp;omega)]
 | n+1,i,h,k=>by
  rw [show k+(n+1)+1=(k+n+1)+1 from by omega,impl_points.l0,if_pos (by omega),if_pos (by omega),if_pos (by omega),if_pos (by simp;omega),rd45 R i (by omega),w64 (by omega) (by omega),show (i:Int)+1=((i+1:Nat):Int) from by omega,show (R.map (·.f0)).take i ++ [R[i].f0]=(R.map (·.f0)).take (i+1) from by rw [List.take_add_one,List.getElem?_map,List.getElem?_eq_getElem (by omega)];rfl]
  exact points_l0 R hR n (i+1) (by omega) k
theorem points_eq (s:ByteArray) (hs:s.size≤1048576) (k:Nat):impl_points.f (k+s.size+1) s=some ((rws s s.size 0).map (·.1)):=by
 unfold impl_points.f
 have hl:=rws_len s s.size 0
 have h2:=rds_len s s.size 0
 rw [read_eq s hs k,Option.bind_some,← rds_f0]
 have:=points_l0 (rds s s.size 0) (by omega) (rds s s.size 0).length 0 (by omega) (k+s.size-(rds s s.size 0).length)
 rw [show k+s.size-(rds s s.size 0).length+(rds s s.size 0).length+1=k+s.size+1 from by omega] at this
 simpa using this
theorem rdB_set (l:List Bool) (i j:Nat) (b:Bool) (hi:i<l.length):rdOf false (l.set i b) (j:Int)=if j=i then b else rdOf false l (j:Int):=by
 unfold rdOf
 rw [show ((j:Int)).toNat=j from by omega,List.getD_eq_getElem?_getD,List.getD_eq_getElem?_getD]
 by_cases c:j=i
 ·
  subst c;rw [if_pos rfl,List.getElem?_set_self hi];rfl
 ·
  rw [if_neg c,List.getElem?_set_ne (by omega)]
theorem cuts_l0 (L:List Int) (hL:okL L):∀ (n i:Nat) (out:List Bool),L.length=i+n→out.length=L.length→(∀ j,0<j→j<i→rdOf false out (j:Int)=cutV L j) → ∃ o:List Bool,o.length=L.length∧(∀ j:Nat,0<j→j<L.length→rdOf false o (j:Int)=cutV L j) ∧ ∀ k,impl_charCuts.l0 (k+n+13) L out (i:Int) (picA L i) (bndA L i) (flA L i:Int)=some o
 | 0,i,out,h,ho,hc=>⟨out,ho,fun j h0 h1=>hc j h0 (by omega),fun k=>by
  rw [show k+0+13=(k+12)+1 from rfl,impl_charCuts.l0,if_neg (by omega)]⟩
 | n+1,i,out,h,ho,hc=>by
  have hl:=hL.1
  have hp:=hL.2 i (by omega)
  have hf:=flA_le L i
  have es:(if clV (rd L (i:Int))=2 then picA L i else (clV (rd L (i:Int)) == 8))=picA L (i+1):=rfl
  have eb:((rd L (i:Int) == 1584) || ((rd L (i:Int) == 1585) && bndA L i))=bndA L (i+1):=rfl
  have ef:(if clV (rd L (i:Int))=9 then wrap64 ((flA L i:Int)+1) else 0)=(flA L (i+1):Int):=by
   rw [show flA L (i+1)=if clV (rd L (i:Int))=9 then flA L i+1 else 0 from rfl,w64 (by omega) (by omega)]
   split <;> rfl
  by_cases c:i=0
  ·
   obtain ⟨o,h1,h2,h3⟩:=cuts_l0 L hL n (i+1) out (by omega) ho (fun j h0 h1=>absurd h1 (by omega))
   refine ⟨o,h1,h2,fun k=>?_⟩
   rw [show k+(n+1)+13=(k+n+13)+1 from by omega,impl_charCuts.l0,if_pos (by omega),if_pos (by omega),class_ge (by omega) hp.1 hp.2,Option.bind_some,if_neg (by omega),es,eb,ef]
   exact h3 k
  ·
   have hq:=hL.2 (i-1) (by omega)
   have ei:((i-1:Nat):Int)=(i:Int)-1:=by omega
   rw [ei] at hq
   obtain ⟨o,h1,h2,h3⟩:=cuts_l0 L hL n (i+1) (out.set i (cutV L i)) (by omega) (by simpa using ho) (fun j h0 h1=>by
    rw [rdB_set _ _ _ _ (by omega)]
    by_cases d:j=i
    ·
     rw [if_pos d,d]
    ·
     rw [if_neg d];exact hc j h0 (by omega))
   refine ⟨o,h1,h2,fun k=>?_⟩
   rw [show k+(n+1)+13=(k+n+13)+1 from by omega,impl_charCuts.l0,if_pos (by omega),if_pos (by omega),class_ge (by omega) hp.1 hp.2,Option.bind_some,if_pos (by omega),class_ge (by omega) hq.1 hq.2,Option.bind_some,if_pos (by omega),es,eb,ef]
   exact h3 k
theorem cuts_eq (L:List Int) (hL:okL L):∃ o:List Bool,o.length=L.length∧(∀ j:Nat,0<j→j<L.length→rdOf false o (j:Int)=cutV L j) ∧ ∀ k,impl_charCuts.f (k+L.length+13) L=some o:=by
 have hl:=hL.1
 obtain ⟨o,h1,h2,h3⟩:=cuts_l0 L hL L.length 0 (List.replicate L.length false) (by omega) (by simp) (fun j h0 h1=>absurd h1 (by omega))
 refine ⟨o,h1,h2,fun k=>?_⟩
 unfold impl_charCuts.f
 rw [if_pos (by omega)]
 exact h3 k
def plc (L Q:List Int):Nat→Nat→List Int
 | 0,_=>[]
 | n+1,i=>if cutV L i=true then rd Q (i:Int) :: plc L Q n (i+1) else plc L Q n (i+1)
theorem plc_len (L Q:List Int):∀ n i,(plc L Q n i).length≤n
 | 0,_=>Nat.le_refl 0
 | n+1,i=>by have:=plc_len L Q n (i+1);unfold plc;split <;> simp <;> omega
theorem plc_ok (L Q:List Int) (S:Int) (N:Nat) (hQ:∀ a b:Nat,a<b→b<N→rd Q (a:Int)<rd Q (b:Int)) (hS:∀ a:Nat,a<N→rd Q (a:Int)<S):∀ n i,i+n=N→(plc L Q n i).Pairwise (· < ·) ∧ ∀ x ∈ plc L Q n i,∃ a:Nat,i≤a∧a<N∧x=rd Q (a:Int)
 | 0,i,h=>⟨List.Pairwise.nil,fun x hx=>by simp [plc] at hx⟩
 | n+1,i,h=>by
  obtain ⟨h1,h2⟩:=plc_ok L Q S N hQ hS n (i+1) (by omega)
  unfold plc
  split
  ·
   refine ⟨List.Pairwise.cons (fun x hx=>?_) h1,fun x hx=>?_⟩
   ·
    obtain ⟨a,ha,hb,rfl⟩:=h2 x hx;exact hQ i a (by omega) hb
   ·
    rcases List.mem_cons.1 hx with rfl|hx
    ·
     exact ⟨i,Nat.le_refl i,by omega,rfl⟩
    ·
     obtain ⟨a,ha,hb,e⟩:=h2 x hx;exact ⟨a,by omega,hb,e⟩
  ·
   refine ⟨h1,fun x hx=>?_⟩
   obtain ⟨a,ha,hb,e⟩:=h2 x hx;exact ⟨a,by omega,hb,e⟩
theorem places_l0 (L:List Int) (R:List S45) (o:List Bool) (S:Int) (hR:R.length≤1048576) (hL:L.length=R.length) (ho:o.length=L.length) (hc:∀ j:Nat,0<j→j<L.length→rdOf false o (j:Int)=cutV L j):∀ (n i:Nat) (x:List Int),0<i→R.length=i+n→x.length+n≤2097152 → ∀ k,impl_placesOf.l0 (k+n+1) S o x R (R.length:Int) (i:Int)=some (x ++ plc L (R.map (·.f1)) n i ++ [S])
 | 0,i,x,hi,h,hx,k=>by
  rw [impl_placesOf.l0,if_neg (by omega),if_pos (by omega)];simp [plc]
 | n+1,i,x,hi,h,hx,k=>by
  have e1:rd (R.map (·.f1)) (i:Int)=R[i].f1:=by rw [rd_nat _ i (by simp;omega)];simp
  rw [show k+(n+1)+1=(k+n+1)+1 from by omega,impl_placesOf.l0,if_pos (by omega),if_pos (by omega),if_pos (by omega),if_pos (by omega),if_pos (by omega),hc i hi (by omega),rd45 R i (by omega),w64 (by omega) (by omega),show (i:Int)+1=((i+1:Nat):Int) from by omega]
  unfold plc
  by_cases c:cutV L i=true
  ·
   rw [if_pos c,if_pos c,if_pos (by omega),places_l0 L R o S hR hL ho hc n (i+1) _ (by omega) (by omega) (by simp;omega) k,e1]
   simp
  ·
   rw [if_neg c,if_neg c,places_l0 L R o S hR hL ho hc n (i+1) _ (by omega) (by omega) (by omega) k]
theorem chars_l0 (L Q:List Int) (s:ByteArray) (hL:okL L) (hQ:Q.length=L.length+1) (hs:0<s.size):∀ (n i:Nat) (x:List Int),0<i→L.length=i+n→x.length+n≤2097152 → ∀ k,spec_l07Chars.l0 (k+n+L.length+62) s x (i:Int) L Q=some (x ++ plc L Q n i ++ [(s.size:Int)])
 | 0,i,x,hi,h,hx,k=>by
  rw [show k+0+L.length+62=(k+L.length+61)+1 from by omega,spec_l07Chars.l0,if_neg (by omega),if_pos (by omega),if_pos (by omega)];simp [plc]
 | n+1,i,x,hi,h,hx,k=>by
  have hl:=hL.1
  rw [show k+(n+1)+L.length+62=(k+n+L.length+62)+1 from by omega,spec_l07Chars.l0,if_pos (by omega),if_neg (by omega),char_eq L hL i hi (by omega) _ (by omega),Option.bind_some,w64 (by omega) (by omega),show (i:Int)+1=((i+1:Nat):Int) from by omega]
  unfold plc
  by_cases c:cutV L i=true
  ·
   rw [if_pos c,if_pos c,if_pos (by omega),if_pos (by omega),if_pos (by omega),chars_l0 L Q s hL hQ hs n (i+1) _ (by omega) (by omega) (by simp;omega) k]
   simp
  ·
   rw [if_neg c,if_neg c,chars_l0 L Q s hL hQ hs n (i+1) _ (by omega) (by omega) (by omega) k]
def ptsL (s:ByteArray):List Int:=(rws s s.size 0).map (·.1)
def stsL (s:ByteArray):List Int:=(rws s s.size 0).map (·.2)
def cutL (s:ByteArray):List Int:=if s.size=0 then [] else [0] ++ plc (ptsL s) (stsL s) ((ptsL s).length-1) 1 ++ [(s.size:Int)]
theorem pts_len (s:ByteArray):(ptsL s).length≤s.size:=by unfold ptsL;rw [List.length_map];exact rws_len s _ _
theorem sts_len (s:ByteArray):(stsL s).length=(ptsL s).length:=by unfold stsL ptsL;rw [List.length_map,List.length_map]
theorem pts_ok (s:ByteArray) (hs:s.size≤65536):okL (ptsL s):=by
 have hl:=pts_len s
 refine ⟨by omega,fun i hi=>?_⟩
 rw [rd_nat _ i hi]
 have hm:(ptsL s)[i] ∈ ptsL s:=List.getElem_mem hi
 unfold ptsL at hm
 obtain ⟨x,hx,e⟩:=List.mem_map.1 hm
 have:=(rws_in s _ _ x hx).1
 unfold ptsL
 rw [← e];exact this
theorem sts_up (s:ByteArray) (a b:Nat) (h:a<b) (hb:b<(ptsL s).length):rd (stsL s) (a:Int)<rd (stsL s) (b:Int):=by
 have hl:=sts_len s
 rw [rd_nat _ a (by omega),rd_nat _ b (by omega)]
 have h1:(stsL s).Pairwise (· < ·):=by unfold stsL;rw [List.pairwise_map];exact rws_up s _ _
 exact List.pairwise_iff_getElem.1 h1 a b (by omega) (by omega) h
theorem sts_in (s:ByteArray) (a:Nat) (ha:a<(ptsL s).length):0≤rd (stsL s) (a:Int)∧rd (stsL s) (a:Int)<(s.size:Int):=by
 have hl:=sts_len s
 rw [rd_nat _ a (by omega)]
 have hm:(stsL s)[a]'(by omega) ∈ stsL s:=List.getElem_mem _
 unfold stsL at hm
 obtain ⟨x,hx,e⟩:=List.mem_map.1 hm
 have:=(rws_in s _ _ x hx).2
 unfold stsL
 rw [← e];exact ⟨by omega,this.2⟩
theorem sts_head (s:ByteArray) (h:0<s.size):0<(ptsL s).length∧rd (stsL s) 0=0:=by
 obtain ⟨m,hm⟩:∃ m,s.size=m+1:=⟨s.size-1,by omega⟩
 unfold ptsL stsL
 rw [hm,rws,if_pos h]
 exact ⟨by simp,rfl⟩
theorem plc_congr (L Q Q' : List Int) (N:Nat) (h:∀ a:Nat,a<N→rd Q (a:Int)=rd Q' (a:Int)):∀ n i,i+n≤N→plc L Q n i=plc L Q' n i
 | 0,_,_=>rfl
 | n+1,i,hi=>by
  unfold plc
  rw [plc_congr L Q Q' N h n (i+1) (by omega),h i (by omega)]
theorem spec_chars (s:ByteArray) (hs:s.size≤65536) (k:Nat) (hk:3*s.size+200≤k):spec_l07Chars.f k s=some (cutL s):=by
 have hl:=pts_len s
 have hl2:=sts_len s
 unfold spec_l07Chars.f
 obtain ⟨m,rfl⟩:∃ m,k=m+s.size+12:=⟨k-s.size-12,by omega⟩
 rw [rowOf_eq s (by omega) m,Option.bind_some]
 simp only
 rw [show (rws s s.size 0).map (·.1)=ptsL s from rfl,show (rws s s.size 0).map (·.2)=stsL s from rfl]
 unfold cutL
 by_cases c:s.size=0
 ·
  rw [if_pos c,show m+s.size+12=(m+s.size+11)+1 from rfl,spec_l07Chars.l0,if_neg (by omega),if_neg (by omega)]
 ·
  rw [if_neg c]
  obtain ⟨h1,h2⟩:=sts_head s (by omega)
  have hd:rd (stsL s ++ [(s.size:Int)]) 0=0:=by
   have:rd (stsL s ++ [(s.size:Int)]) ((0:Nat):Int)=rd (stsL s) ((0:Nat):Int):=by
    rw [rd_nat _ 0 (by simp),rd_nat _ 0 (by omega),List.getElem_append_left]
   exact this.trans h2
  rw [show m+s.size+12=(m+s.size+11)+1 from rfl,spec_l07Chars.l0,if_pos (by omega),if_pos rfl,if_pos (by omega),if_pos (by simp <;> omega),if_pos (by simp),w64 (by omega) (by omega),hd]
  have:=chars_l0 (ptsL s) (stsL s ++ [(s.size:Int)]) s (pts_ok s hs) (by simp;omega) (by omega) ((ptsL s).length-1) 1 [0] (by omega) (by omega) (by simp;omega) (m+s.size+11-((ptsL s).length-1)-(ptsL s).length-62)
  rw [show m+s.size+11-((ptsL s).length-1)-(ptsL s).length-62+((ptsL s).length-1)+(ptsL s).length+62=m+s.size+11 from by omega] at this
  rw [List.nil_append]
  refine Eq.trans this ?_
  rw [plc_congr (ptsL s) (stsL s ++ [(s.size:Int)]) (stsL s) (ptsL s).length (fun a ha=>by rw [rd_nat _ a (by simp;omega),rd_nat _ a (by omega),List.getElem_append_left]) _ _ (by omega)]
theorem impl_chars_places (s:ByteArray) (hs:s.size≤65536) (k:Nat) (hk:3*s.size+200≤k):impl_charPlaces.f k s=some (cutL s):=by
 have hl:=pts_len s
 have hl2:=sts_len s
 have hr:=rds_len s s.size 0
 have hr2:(rds s s.size 0).length=(ptsL s).length:=by rw [hr];unfold ptsL;rw [List.length_map]
 unfold impl_charPlaces.f
 obtain ⟨o,h1,h2,h3⟩:=cuts_eq (ptsL s) (pts_ok s hs)
 have e1:impl_read.f k s=some (rds s s.size 0):=by
  have:=read_eq s (by omega) (k-s.size-1);rwa [show k-s.size-1+s.size+1=k from by omega] at this
 have e2:impl_onlyPoints.f k (rds s s.size 0)=some (ptsL s):=by
  have:=only_eq (rds s s.size 0) (by omega) (k-(rds s s.size 0).length-1)
  rw [show k-(rds s s.size 0).length-1+(rds s s.size 0).length+1=k from by omega,rds_f0] at this;exact this
 have e3:impl_charCuts.f k (ptsL s)=some o:=by
  have:=h3 (k-(ptsL s).length-13);rwa [show k-(ptsL s).length-13+(ptsL s).length+13=k from by omega] at this
 rw [e1,Option.bind_some,e2,Option.bind_some,e3,Option.bind_some]
 unfold impl_placesOf.f cutL
 by_cases c:s.size=0
 ·
  rw [if_pos (by omega),if_pos c];rfl
 ·
  obtain ⟨g1,g2⟩:=sts_head s (by omega)
  rw [if_neg (by omega),if_neg c]
  obtain ⟨m,rfl⟩:∃ m,k=m+1:=⟨k-1,by omega⟩
  rw [impl_placesOf.l0,if_pos (by omega),if_pos (by omega),if_pos (by omega),if_neg (by omega),w64 (by omega) (by omega)]
  have:=places_l0 (ptsL s) (rds s s.size 0) o (s.size:Int) (by omega) (by omega) h1 h2 ((ptsL s).length-1) 1 [0] (by omega) (by omega) (by simp;omega) (m-((ptsL s).length-1)-1)
  rw [show m-((ptsL s).length-1)-1+((ptsL s).length-1)+1=m from by omega,rds_f1] at this
  refine Eq.trans (congrArg (fun z=>Option.bind z _) this) ?_
  rfl
def CutOk (s:ByteArray) (C:List Int):Prop:=∀ a:Nat,a+1<C.length→0≤rd C (a:Int)∧rd C (a:Int)<rd C ((a+1:Nat):Int)∧rd C ((a+1:Nat):Int)≤(s.size:Int)
theorem cutL_ok (s:ByteArray) (hs:s.size≤65536):CutOk s (cutL s)∧(cutL s).length≤65540:=by
 have hl:=pts_len s
 unfold cutL
 by_cases c:s.size=0
 ·
  rw [if_pos c];exact ⟨fun a h=>absurd h (by simp),by simp⟩
 ·
  rw [if_neg c]
  obtain ⟨g1,g2⟩:=sts_head s (by omega)
  obtain ⟨h1,h2⟩:=plc_ok (ptsL s) (stsL s) (s.size:Int) (ptsL s).length (fun a b h hb=>sts_up s a b h hb) (fun a ha=>(sts_in s a ha).2) ((ptsL s).length-1) 1 (by omega)
  have hx:∀ x ∈ plc (ptsL s) (stsL s) ((ptsL s).length-1) 1,0<x∧x<(s.size:Int):=by
   intro x hx
   obtain ⟨a,ha,hb,rfl⟩:=h2 x hx
   refine ⟨?_,(sts_in s a hb).2⟩
   have:=sts_up s 0 a (by omega) hb
   rw [show ((0:Nat):Int)=0 from rfl,g2] at this;exact this
  have hp:=plc_len (ptsL s) (stsL s) ((ptsL s).length-1) 1
  refine ⟨fun a h=>?_,by simp;omega⟩
  have hall:([0] ++ plc (ptsL s) (stsL s) ((ptsL s).length-1) 1 ++ [(s.size:Int)]).Pairwise (· < ·):=by
   rw [List.pairwise_append,List.pairwise_append]
   refine ⟨⟨by simp,h1,fun x hx0 y hy=>?_⟩,by simp,fun x hx0 y hy=>?_⟩
   ·
    simp only [List.mem_singleton] at hx0;rw [hx0];exact (hx y hy).1
   ·
    simp only [List.mem_singleton] at hy;rw [hy]
    rcases List.mem_append.1 hx0 with h|h
    ·
     simp only [List.mem_singleton] at h;rw [h];omega
    ·
     exact (hx x h).2
  have hin:∀ x ∈ ([0] ++ plc (ptsL s) (stsL s) ((ptsL s).length-1) 1 ++ [(s.size:Int)]),0≤x∧x≤(s.size:Int):=by
   intro x h
   rcases List.mem_append.1 h with h|h
   ·
    rcases List.mem_append.1 h with h|h
    ·
     simp only [List.mem_singleton] at h;rw [h];omega
    ·
     have:=hx x h;omega
   ·
    simp only [List.mem_singleton] at h;rw [h];omega
  rw [rd_nat _ a (by omega),rd_nat _ (a+1) h]
  exact ⟨(hin _ (List.getElem_mem _)).1,List.pairwise_iff_getElem.1 hall a (a+1) (by omega) h (by omega),(hin _ (List.getElem_mem _)).2⟩
def pcs (s:ByteArray) (C:List Int):Nat→Nat→List ByteArray
 | 0,_=>[]
 | n+1,j=>s.extract (rd C (j:Int)).toNat (rd C ((j+1:Nat):Int)).toNat :: pcs s C n (j+1)
theorem pcs_in (s:ByteArray) (C:List Int) (hC:CutOk s C):∀ n j,C.length-1-j=n → ∀ p ∈ pcs s C n j,0<p.size∧p.size≤s.size
 | 0,_,_,p,h=>by simp [pcs] at h
 | n+1,j,h,p,hp=>by
  rcases List.mem_cons.1 hp with rfl|hp
  ·
   have:=hC j (by omega)
   rw [ByteArray.size_extract];omega
  ·
   exact pcs_in s C hC n (j+1) (by omega) p hp
theorem pcs_len (s:ByteArray) (C:List Int):∀ n j,(pcs s C n j).length=n
 | 0,_=>rfl
 | n+1,j=>by unfold pcs;rw [List.length_cons,pcs_len s C n]
theorem spieces_l0 (s:ByteArray) (C:List Int) (hC:CutOk s C) (hl:C.length≤65540):∀ (n j:Nat) (x:List ByteArray),C.length-1-j=n→j≤C.length→x.length+n≤2097152 → ∀ k,spec_l07Pieces.l0 (k+n+1) s C x (j:Int)=some (x ++ pcs s C n j)
 | 0,j,x,h,hj,hx,k=>by
  rw [spec_l07Pieces.l0,w64 (by omega) (by omega),if_neg (by omega)];simp [pcs]
 | n+1,j,x,h,hj,hx,k=>by
  have hc:=hC j (by omega)
  rw [show k+(n+1)+1=(k+n+1)+1 from by omega,spec_l07Pieces.l0,w64 (by omega) (by omega),show (j:Int)+1=((j+1:Nat):Int) from by omega,if_pos (by omega),if_pos (by omega),if_pos (by omega),if_pos (by omega),if_pos hc.1,if_pos (by omega),if_pos hc.2.2,if_pos (by omega),spieces_l0 s C hC hl n (j+1) _ (by omega) (by omega) (by simp;omega) k]
  simp [pcs]
theorem ipieces_l0 (s:ByteArray) (C:List Int) (hC:CutOk s C) (hl:C.length≤65540):∀ (n j:Nat) (x:List ByteArray),C.length-1-j=n→j≤C.length→x.length+n≤2097152 → ∀ k,impl_piecesOf.l0 (k+n+1) s C x ((j+1:Nat):Int)=some (x ++ pcs s C n j)
 | 0,j,x,h,hj,hx,k=>by
  rw [impl_piecesOf.l0,if_neg (by omega)];simp [pcs]
 | n+1,j,x,h,hj,hx,k=>by
  have hc:=hC j (by omega)
  rw [show k+(n+1)+1=(k+n+1)+1 from by omega,impl_piecesOf.l0,w64 (x:=((j+1:Nat):Int)-1) (by omega) (by omega),show ((j+1:Nat):Int)-1=(j:Int) from by omega,if_pos (by omega),if_pos (by omega),if_pos (by omega),if_pos (by omega),if_pos hc.1,if_pos (by omega),if_pos hc.2.2,if_pos (by omega),w64 (by omega) (by omega),show ((j+1:Nat):Int)+1=((j+1+1:Nat):Int) from by omega,ipieces_l0 s C hC hl n (j+1) _ (by omega) (by omega) (by simp;omega) k]
  simp [pcs]
def pieceL (s:ByteArray):List ByteArray:=pcs s (cutL s) ((cutL s).length-1) 0
theorem spec_pieces (s:ByteArray) (hs:s.size≤65536) (k:Nat) (hk:70000≤k):spec_l07Pieces.f k s (cutL s)=some (pieceL s):=by
 obtain ⟨h1,h2⟩:=cutL_ok s hs
 have:=spieces_l0 s (cutL s) h1 h2 ((cutL s).length-1) 0 [] (by omega) (by omega) (by simp;omega) (k-((cutL s).length-1)-1)
 rw [show k-((cutL s).length-1)-1+((cutL s).length-1)+1=k from by omega] at this
 unfold spec_l07Pieces.f;exact this
theorem impl_pieces (s:ByteArray) (hs:s.size≤65536) (k:Nat) (hk:70000≤k):impl_piecesOf.f k s (cutL s)=some (pieceL s):=by
 obtain ⟨h1,h2⟩:=cutL_ok s hs
 have:=ipieces_l0 s (cutL s) h1 h2 ((cutL s).length-1) 0 [] (by omega) (by omega) (by simp;omega) (k-((cutL s).length-1)-1)
 rw [show k-((cutL s).length-1)-1+((cutL s).length-1)+1=k from by omega] at this
 unfold impl_piecesOf.f;exact this
def wideB (c:Int):Bool:=in2 12288 23459 c || (in2 24576 26623 c || in2 7680 7743 c)
def chV (c:Int):Int:=if wideB c=true then 2 else if catV c=1 then 0 else if catV c=11 then 0 else if catV c=3 then 0 else 1
def pt0 (p:ByteArray):Int:=((dec p 0).1:Int)
def sumV:List ByteArray→Int
 | []=>0
 | p :: ps=>chV (pt0 p)+sumV ps
theorem chV_in (c:Int):0≤chV c∧chV c≤2:=by
 unfold chV
 repeat' split
 all_goals decide
theorem schar_eq (k:Nat) (p:ByteArray) (hp:0<p.size) (hs:p.size≤65536):spec_l22Char.f (k+41) p=some (chV (pt0 p)):=by
 have hd:=dec_fst p 0
 have e0:∀ b,spec_l22Char.j0 (k+41) (catV (pt0 p)) b=some (if b=true then 2 else if catV (pt0 p)=1 then 0 else if catV (pt0 p)=11 then 0 else if catV (pt0 p)=3 then 0 else 1):=by
  intro b
  rw [show k+41=(k+40)+1 from rfl,spec_l22Char.j0]
  cases b with
  | true=>rfl
  | false =>
   simp only [Bool.false_eq_true,if_false]
   repeat' split
   all_goals rfl
 unfold spec_l22Char.f
 rw [show k+41=(k+31)+10 from rfl,show (0:Int)=((0:Nat):Int) from rfl,next_eq p 0 (by omega) hp,Option.bind_some]
 unfold nextV
 simp only
 rw [show k+31+10=(k+1)+40 from rfl,scat_eq (k+1) _ (by omega) (by omega),Option.bind_some,show ((dec p 0).1:Int)=pt0 p from rfl,show k+1+40=k+41 from by omega]
 simp only [pic_eq,Option.bind_some,e0]
 unfold chV wideB in2
 by_cases a:pt0 p≥12288
 ·
  by_cases b:pt0 p≤23459
  ·
   simp [a,b]
  ·
   by_cases c:pt0 p≥24576
   ·
    by_cases d:pt0 p≤26623
    ·
     simp [a,b,c,d]
    ·
     simp [a,b,c,d]
   ·
    simp [a,b,c]
 ·
  have c:¬ pt0 p≥24576:=by omega
  simp [a,c]
theorem rdP (P:List ByteArray) (i:Nat) (h:i<P.length):rdOf ByteArray.empty P (i:Int)=P[i]:=by simp [rdOf,List.getD_eq_getElem?_getD,List.getElem?_eq_getElem h]
theorem swide_l0 (P:List ByteArray) (hP:∀ p ∈ P,0<p.size∧p.size≤65536) (hl:P.length≤65540):∀ (n i:Nat) (x:Int),P.length=i+n→0≤x→x≤2*i → ∀ k,spec_l22Wide.l0 (k+n+42) P x (i:Int)=some (x+sumV (P.drop i))
 | 0,i,x,h,h0,h1,k=>by
  rw [spec_l22Wide.l0,if_neg (by omega),List.drop_eq_nil_of_le (by omega)];simp [sumV]
 | n+1,i,x,h,h0,h1,k=>by
  have hi:i<P.length:=by omega
  have hp:=hP _ (List.getElem_mem hi)
  have hc:=chV_in (pt0 P[i])
  rw [show k+(n+1)+42=(k+n+42)+1 from by omega,spec_l22Wide.l0,if_pos (by omega),if_pos (by omega),rdP P i hi,show k+n+42=(k+n+1)+41 from by omega,schar_eq _ _ hp.1 hp.2,Option.bind_some,w64 (by omega) (by omega),w64 (by omega) (by omega),show (i:Int)+1=((i+1:Nat):Int) from by omega,show k+n+1+41=k+n+42 from by omega,swide_l0 P hP hl n (i+1) _ (by omega) (by omega) (by omega) k,List.drop_eq_getElem_cons hi,sumV]
  congr 1;omega
theorem pts_head (p:ByteArray) (h:0<p.size):0<(ptsL p).length∧rd (ptsL p) 0=pt0 p:=by
 obtain ⟨m,hm⟩:∃ m,p.size=m+1:=⟨p.size-1,by omega⟩
 unfold ptsL
 rw [hm,rws,if_pos h]
 exact ⟨by simp,rfl⟩
theorem iwide_l0 (P:List ByteArray) (hP:∀ p ∈ P,0<p.size∧p.size≤65536) (hl:P.length≤65540):∀ (n i:Nat) (x:Int),P.length=i+n→0≤x→x≤2*i → ∀ k,impl_wideOf.l0 (k+2*n+65550) x P (P.length:Int) (i:Int)=some (x+sumV (P.drop i))
 | 0,i,x,h,h0,h1,k=>by
  rw [show k+2*0+65550=(k+65549)+1 from by omega,impl_wideOf.l0,if_neg (by omega),List.drop_eq_nil_of_le (by omega)];simp [sumV]
 | n+1,i,x,h,h0,h1,k=>by
  have hi:i<P.length:=by omega
  have hp:=hP _ (List.getElem_mem hi)
  have hd:=dec_fst P[i] 0
  have hpt:0≤pt0 P[i]∧pt0 P[i]≤1114111:=by unfold pt0;omega
  obtain ⟨g1,g2⟩:=pts_head P[i] hp.1
  have hc:=chV_in (pt0 P[i])
  have ih:=fun y hy0 hy1=>iwide_l0 P hP hl n (i+1) y (by omega) hy0 hy1 k
  have e1:∀ b,b=wideB (pt0 P[i])→impl_wideOf.j1 (k+2*n+65551) x (catV (pt0 P[i])) P (P.length:Int) (i:Int) b=some (x+sumV (P.drop i)):=by
   intro b hb
   rw [show k+2*n+65551=(k+2*n+65550)+1 from rfl,impl_wideOf.j1,w64 (x:=(i:Int)+1) (by omega) (by omega),show (i:Int)+1=((i+1:Nat):Int) from by omega,w64 (by omega) (by omega),w64 (by omega) (by omega),ih _ (by omega) (by omega),ih _ (by omega) (by omega),ih _ (by omega) (by omega),List.drop_eq_getElem_cons hi,sumV]
   subst hb
   unfold chV
   split
   ·
    congr 1;omega
   ·
    split
    ·
     congr 1;omega
    ·
     split
     ·
      congr 1;omega
     ·
      split
      ·
       congr 1;omega
      ·
       congr 1;omega
  have ep:impl_points.f (k+2*n+65551) P[i]=some (ptsL P[i]):=by
   have:=points_eq P[i] (by omega) (k+2*n+65551-P[i].size-1)
   rwa [show k+2*n+65551-P[i].size-1+P[i].size+1=k+2*n+65551 from by omega] at this
  rw [show k+2*(n+1)+65550=(k+2*n+65551)+1 from by omega,impl_wideOf.l0,if_pos (by omega),if_pos (by omega),if_pos (by omega),rdP P i hi,ep,Option.bind_some,if_pos (by omega),g2,show k+2*n+65551=(k+2*n+65543)+8 from by omega,icat_eq _ _ hpt.1 hpt.2,Option.bind_some,show k+2*n+65543+8=k+2*n+65551 from by omega]
  unfold impl_isSyllable.f impl_isPicture.f
  simp only [in_eq,Option.bind_some]
  by_cases a:in2 12288 23459 (pt0 P[i])=true
  ·
   rw [if_pos a,e1 true (by unfold wideB;rw [a,Bool.true_or])]
  ·
   rw [if_neg a]
   by_cases b:in2 24576 26623 (pt0 P[i])=true
   ·
    rw [if_pos b,e1 true (by unfold wideB;rw [b,Bool.true_or,Bool.or_true])]
   ·
    rw [if_neg b,e1 _ (by unfold wideB;rw [show in2 12288 23459 (pt0 P[i])=false by simpa using a,show in2 24576 26623 (pt0 P[i])=false by simpa using b,Bool.false_or,Bool.false_or])]
theorem law_eq (s:ByteArray):laws_FnExactWideOf.f 300000 s=some true:=by
 unfold laws_FnExactWideOf.f
 by_cases c:(s.size:Int)>1048576
 ·
  rw [if_pos c]
 ·
  rw [if_neg c]
  unfold spec_WideOf.f impl_WideOf.f impl_long.f
  by_cases d:(s.size:Int)>65536
  ·
   rw [if_pos d,decide_eq_true d];rfl
  ·
   have hs:s.size≤65536:=by omega
   rw [if_neg d,decide_eq_false d]
   obtain ⟨h1,h2⟩:=cutL_ok s hs
   have hin:∀ p ∈ pieceL s,0<p.size∧p.size≤65536:=fun p hp=>by have:=pcs_in s (cutL s) h1 _ 0 (by omega) p hp;omega
   have hlen:(pieceL s).length=(cutL s).length-1:=pcs_len s _ _ _
   have w1:spec_l22Wide.f 300000 s=some (sumV (pieceL s)):=by
    unfold spec_l22Wide.f
    rw [spec_chars s hs 300000 (by omega),Option.bind_some,spec_pieces s hs 300000 (by omega),Option.bind_some]
    have:=swide_l0 (pieceL s) hin (by omega) (pieceL s).length 0 0 (by omega) (by omega) (by omega) (300000-(pieceL s).length-42)
    rw [show 300000-(pieceL s).length-42+(pieceL s).length+42=300000 from by omega,List.drop_zero,Int.zero_add] at this
    exact this
   have w2:impl_wideOf.f 300000 s=some (sumV (pieceL s)):=by
    unfold impl_wideOf.f impl_chars.f
    rw [impl_chars_places s hs 300000 (by omega),Option.bind_some,impl_pieces s hs 300000 (by omega),Option.bind_some,Option.bind_some]
    have:=iwide_l0 (pieceL s) hin (by omega) (pieceL s).length 0 0 (by omega) (by omega) (by omega) (300000-2*(pieceL s).length-65550)
    rw [show 300000-2*(pieceL s).length-65550+2*(pieceL s).length+65550=300000 from by omega,List.drop_zero,Int.zero_add] at this
    exact this
   rw [w1,w2]
   simp
theorem Pure.FnExactWideOf (s:ByteArray) (h:s.size≤maxLen):∃ k,laws_FnExactWideOf.f k s=some true:=⟨300000,law_eq s⟩
end Go.Proofs.YtjppikolddklfaaDoor.PW
end
