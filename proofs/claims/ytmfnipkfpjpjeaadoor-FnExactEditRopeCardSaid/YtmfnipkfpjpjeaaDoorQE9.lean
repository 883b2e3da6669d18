/- Part 9: words, walks of functions, and plain laws of what these compute. (printed by this session's own programs; Lean checks it.) -/
import Derived.Test.YtmfnipkfpjpjeaaDoorQE0
import Derived.Test.YtmfnipkfpjpjeaaDoorQE1
import Derived.Test.YtmfnipkfpjpjeaaDoorQE2
import Derived.Test.YtmfnipkfpjpjeaaDoorQE3
import Derived.Test.YtmfnipkfpjpjeaaDoorQE4
import Derived.Test.YtmfnipkfpjpjeaaDoorQE5
import Derived.Test.YtmfnipkfpjpjeaaDoorQE6
import Derived.Test.YtmfnipkfpjpjeaaDoorQE7
import Derived.Test.YtmfnipkfpjpjeaaDoorQE8
import Derived.Lib.DecodeN
import Derived.Shelf.Unicode.DecodeSlow
section
namespace Go.Proofs.YtmfnipkfpjpjeaaDoor.PE
open Go.RowKit Go.Proofs.YtmfnipkfpjpjeaaDoorW.PrintWords Go.Proofs.YtmfnipkfpjpjeaaDoorW.PrintLast Go.Proofs.YtmfnipkfpjpjeaaDoorW.PrintMore
set_option linter.unusedVariables false
set_option linter.unusedSimpArgs false
theorem Ev.succ {α:Type} {g:Nat→Option α} {r:α} (h:Ev (fun k=>g (k+1)) r):Ev g r:=by
 obtain ⟨K,hK⟩:=h
 refine ⟨K+1,fun k hk=>?_⟩
 obtain ⟨m,rfl⟩:∃ m,k=m+1:=⟨k-1,by omega⟩
 exact hK m (by omega)
theorem w64 {x:Int} (h1 : -9223372036854775808≤x) (h2:x≤9223372036854775807):wrap64 x=x:=by unfold wrap64;omega
def gb (s:ByteArray) (i:Nat):Nat:=(s.get! i).toNat
theorem gb_lt (s:ByteArray) (i:Nat):gb s i<256:=(s.get! i).toNat_lt
theorem get!_eq (s:ByteArray) (i:Nat) (h:i<s.size):s.get! i=s[i]'h:=by
 cases s with|mk d=>exact getElem!_pos d i h
theorem bt_gb (s:ByteArray) (i:Nat) (h:i<s.size):bt s (i:Int)=(gb s i:Int):=by
 unfold bt gb
 rw [Int.toNat_natCast,dif_pos h,get!_eq s i h]
def dec (s:ByteArray) (i:Nat):Nat × Nat:=Lib.decodeN (s.size-i) (gb s i) (gb s (i+1)) (gb s (i+2)) (gb s (i+3))
theorem strOfNums_size (l:List Int):(strOfNums l).size=l.length:=by simp [strOfNums,ByteArray.size]
def wr1 (x0:Int):ByteArray:=if x0<128 then (strOfNums (([(x0) % 256]:List Int))) else (if x0<2048 then (strOfNums (([(wrap64 (192+(wrap64 (Int.tdiv x0 64)))) % 256,(wrap64 (128+(Int.tmod x0 64))) % 256]:List Int))) else (if x0<65536 then (strOfNums (([(wrap64 (224+(wrap64 (Int.tdiv x0 4096)))) % 256,(wrap64 (128+(Int.tmod (wrap64 (Int.tdiv x0 64)) 64))) % 256,(wrap64 (128+(Int.tmod x0 64))) % 256]:List Int))) else (strOfNums (([(wrap64 (240+(wrap64 (Int.tdiv x0 262144)))) % 256,(wrap64 (128+(Int.tmod (wrap64 (Int.tdiv x0 4096)) 64))) % 256,(wrap64 (128+(Int.tmod (wrap64 (Int.tdiv x0 64)) 64))) % 256,(wrap64 (128+(Int.tmod x0 64))) % 256]:List Int)))))
def isPt (p:Int):Bool:=decide (0≤p) && decide (p≤1114111) && (decide (p<55296) || decide (p>57343))
def wr (p:Int):ByteArray:=if isPt p=true then wr1 p else wr1 65533
theorem isPoint_eq (p:Int):spec_l01IsPoint.f p=some (isPt p):=by
 unfold spec_l01IsPoint.f isPt
 by_cases h0:p≥0
 ·
  rw [if_pos h0]
  by_cases h1:p≤1114111
  ·
   rw [if_pos h1]
   by_cases h2:p<55296
   ·
    rw [if_pos h2];simp [h1,h2];omega
   ·
    rw [if_neg h2];simp [h1,h2];omega
  ·
   rw [if_neg h1];simp [h1]
 ·
  rw [if_neg h0];simp;omega
theorem write_eq (k:Nat) (p:Int):spec_l01Write.f (k+1) p=some (wr p):=by
 unfold spec_l01Write.f
 rw [isPoint_eq]
 simp only [Option.bind_some]
 have hj:∀ x,spec_l01Write.j0 (k+1) x=some (wr1 x):=fun x=>by
  simp only [spec_l01Write.j0,wr1]
  repeat' split
  all_goals rfl
 rw [hj,hj]
 unfold wr
 split <;> rfl
theorem wr1_size (p:Int):(wr1 p).size=if p<128 then 1 else if p<2048 then 2 else if p<65536 then 3 else 4:=by
 unfold wr1
 repeat' split
 all_goals simp [strOfNums_size]
theorem wr_size (p:Int) (h:isPt p=true):(wr p).size=if p<128 then 1 else if p<2048 then 2 else if p<65536 then 3 else 4:=by
 unfold wr;rw [if_pos h,wr1_size]
theorem next_step (s:ByteArray) (i n j:Nat) (p:Nat) (hs:s.size≤1099511627776) (hj:j≤n) (hn:i+n<s.size) (hp:p<2097152) (k:Nat) :
  spec_l01Next.l0 (k+1) s i n p j=if 128≤gb s (i+j)∧gb s (i+j)<192 then spec_l01Next.l0 k s i n ((p*64+gb s (i+j) % 64:Nat):Int) ((j+1:Nat):Int) else some (65533,1,false):=by
 have hb:=gb_lt s (i+j)
 have e1:wrap64 ((i:Int)+(j:Int))=((i+j:Nat):Int):=by rw [w64 (by omega) (by omega)];omega
 have e2:=bt_gb s (i+j) (by omega)
 have e3:wrap64 ((gb s (i+j):Nat):Int)=(gb s (i+j):Int):=w64 (by omega) (by omega)
 simp only [spec_l01Next.l0,e1,e2,e3]
 rw [if_pos (by omega),if_pos (by omega),if_pos (by omega)]
 by_cases h1:gb s (i+j)<128
 ·
  rw [if_pos (by omega),if_neg (by omega)]
 ·
  rw [if_neg (by omega)]
  by_cases h2:gb s (i+j)<192
  ·
   rw [if_neg (by omega),if_pos (by omega)]
   have e4:wrap64 (wrap64 ((p:Int)*64)+((gb s (i+j):Nat):Int).tmod 64)=((p*64+gb s (i+j) % 64:Nat):Int):=by
    rw [w64 (x:=(p:Int)*64) (by omega) (by omega),Int.tmod_eq_emod_of_nonneg (by omega),w64 (by omega) (by omega)];omega
   have e5:wrap64 ((j:Int)+1)=((j+1:Nat):Int):=by rw [w64 (by omega) (by omega)];omega
   rw [e4,e5]
  ·
   rw [if_pos (by omega),if_neg (by omega)]
theorem next_end (s:ByteArray) (i n:Nat) (p:Nat) (hn:n≤3) (k:Nat) :
  spec_l01Next.l0 (k+2) s i n p ((n+1:Nat):Int)=if isPt p=true∧(wr p).size=n+1 then some ((p:Int),((n+1:Nat):Int),true) else some (65533,1,false):=by
 have e1:wrap64 ((n:Int)+1)=((n+1:Nat):Int):=by rw [w64 (by omega) (by omega)];omega
 rw [spec_l01Next.l0,if_neg (by omega),isPoint_eq,Option.bind_some,write_eq,Option.bind_some,e1]
 by_cases h1:isPt p=true
 ·
  rw [if_pos h1]
  by_cases h2:(wr p).size=n+1
  ·
   rw [if_pos (by omega),if_pos ⟨h1,h2⟩]
  ·
   rw [if_neg (by omega),if_neg (fun h=>h2 h.2)]
 ·
  rw [if_neg h1,if_neg (fun h=>h1 h.1)]
theorem next_j2 (s:ByteArray) (i n:Nat) (p:Nat) (hs:s.size≤1099511627776) (hi:i<s.size) (hn:n≤3) (k:Nat) :
  spec_l01Next.j2 (k+1) s i n p=if i+n<s.size then spec_l01Next.l0 k s i n p 1 else some (65533,1,false):=by
 have e1:wrap64 ((i:Int)+(n:Int))=((i+n:Nat):Int):=by rw [w64 (by omega) (by omega)];omega
 simp only [spec_l01Next.j2,e1]
 by_cases h:i+n<s.size
 ·
  rw [if_neg (by omega),if_pos h]
 ·
  rw [if_pos (by omega),if_neg h]
theorem isPt_nat (p:Nat):isPt (p:Int)=decide (p≤1114111∧(p<55296∨57344≤p)):=by
 unfold isPt
 rw [Bool.eq_iff_iff]
 simp only [Bool.and_eq_true,Bool.or_eq_true,decide_eq_true_eq]
 omega
theorem wr_size_nat (p:Nat) (h:isPt (p:Int)=true):(wr (p:Int)).size=if p<128 then 1 else if p<2048 then 2 else if p<65536 then 3 else 4:=by
 rw [wr_size _ h]
 repeat' split
 all_goals first|rfl|(exfalso;omega)
def nextV (s:ByteArray) (i:Nat):Int × Int × Bool:=(((dec s i).1:Int),((dec s i).2:Int),decide ¬((dec s i).1=65533∧(dec s i).2=1))
theorem next_one (s:ByteArray) (i:Nat) (hs:s.size≤1099511627776) (hi:i<s.size) (p:Nat) (hp:p<32) (k:Nat) :
  spec_l01Next.j2 (k+5) s i ((1:Nat):Int) p=if 1<s.size-i∧gb s (i+1) / 64=2∧128≤p*64+gb s (i+1) % 64 then some (((p*64+gb s (i+1) % 64:Nat):Int),2,true) else some (65533,1,false):=by
 have hb:=gb_lt s (i+1)
 rw [next_j2 s i 1 p hs hi (by omega)]
 by_cases h1:i+1<s.size
 ·
  rw [if_pos h1,show (1:Int)=((1:Nat):Int) from rfl,next_step s i 1 1 p hs (by omega) (by omega) (by omega)]
  by_cases h2:128≤gb s (i+1)∧gb s (i+1)<192
  ·
   rw [if_pos h2,next_end s i 1 _ (by omega)]
   have hpt:isPt ((p*64+gb s (i+1) % 64:Nat):Int)=true:=by rw [isPt_nat];simp;omega
   by_cases h3:128≤p*64+gb s (i+1) % 64
   ·
    have hz:=wr_size_nat _ hpt
    rw [if_neg (by omega),if_pos (by omega)] at hz
    rw [if_pos ⟨hpt,hz⟩,if_pos (by omega)];rfl
   ·
    have hz:=wr_size_nat _ hpt
    rw [if_pos (by omega)] at hz
    rw [if_neg (fun h=>by have:=h.2;omega),if_neg (by omega)] <;> rfl
  ·
   rw [if_neg h2,if_neg (by omega)] <;> rfl
 ·
  rw [if_neg h1,if_neg (by omega)] <;> rfl
theorem next_two (s:ByteArray) (i:Nat) (hs:s.size≤1099511627776) (hi:i<s.size) (p:Nat) (hp:p<16) (k:Nat) :
  spec_l01Next.j2 (k+6) s i ((2:Nat):Int) p=if (2<s.size-i∧gb s (i+1) / 64=2∧gb s (i+2) / 64=2)∧(p*4096+gb s (i+1) % 64*64+gb s (i+2) % 64≥2048∧(p*4096+gb s (i+1) % 64*64+gb s (i+2) % 64<55296∨57344≤p*4096+gb s (i+1) % 64*64+gb s (i+2) % 64)) then some (((p*4096+gb s (i+1) % 64*64+gb s (i+2) % 64:Nat):Int),3,true) else some (65533,1,false):=by
 have hb:=gb_lt s (i+1)
 have hc:=gb_lt s (i+2)
 rw [next_j2 s i 2 p hs hi (by omega)]
 by_cases h1:i+2<s.size
 ·
  rw [if_pos h1,show (1:Int)=((1:Nat):Int) from rfl,next_step s i 2 1 p hs (by omega) (by omega) (by omega)]
  by_cases h2:128≤gb s (i+1)∧gb s (i+1)<192
  ·
   rw [if_pos h2,next_step s i 2 2 _ hs (by omega) (by omega) (by omega)]
   by_cases h3:128≤gb s (i+2)∧gb s (i+2)<192
   ·
    rw [if_pos h3,next_end s i 2 _ (by omega)]
    have he:(p*64+gb s (i+1) % 64)*64+gb s (i+2) % 64=p*4096+gb s (i+1) % 64*64+gb s (i+2) % 64:=by omega
    rw [he]
    obtain ⟨q,hq⟩:∃ q,p*4096+gb s (i+1) % 64*64+gb s (i+2) % 64=q:=⟨_,rfl⟩
    rw [hq]
    by_cases hpt:isPt (q:Int)=true
    ·
     have hpt2:=hpt
     rw [isPt_nat] at hpt2
     simp only [decide_eq_true_eq] at hpt2
     have hz:=wr_size_nat _ hpt
     by_cases h4:2048≤q
     ·
      rw [if_neg (by omega),if_neg (by omega),if_pos (by omega)] at hz
      rw [if_pos ⟨hpt,hz⟩,if_pos (by omega)];rfl
     ·
      rw [if_neg (fun h=>by have h2:=h.2;rw [hz] at h2;split at h2 <;> (try split at h2) <;> (try split at h2) <;> omega),if_neg (by omega)] <;> rfl
    ·
     have hpt2:=hpt
     rw [isPt_nat] at hpt2
     simp only [decide_eq_true_eq] at hpt2
     rw [if_neg (fun h=>hpt h.1),if_neg (by omega)] <;> rfl
   ·
    rw [if_neg h3,if_neg (by omega)] <;> rfl
  ·
   rw [if_neg h2,if_neg (by omega)] <;> rfl
 ·
  rw [if_neg h1,if_neg (by omega)] <;> rfl
theorem next_three (s:ByteArray) (i:Nat) (hs:s.size≤1099511627776) (hi:i<s.size) (p:Nat) (hp:p<8) (k:Nat) :
  spec_l01Next.j2 (k+7) s i ((3:Nat):Int) p=if (3<s.size-i∧gb s (i+1) / 64=2∧gb s (i+2) / 64=2∧gb s (i+3) / 64=2)∧(p*262144+gb s (i+1) % 64*4096+gb s (i+2) % 64*64+gb s (i+3) % 64≥65536∧p*262144+gb s (i+1) % 64*4096+gb s (i+2) % 64*64+gb s (i+3) % 64≤1114111) then some (((p*262144+gb s (i+1) % 64*4096+gb s (i+2) % 64*64+gb s (i+3) % 64:Nat):Int),4,true) else some (65533,1,false):=by
 have hb:=gb_lt s (i+1)
 have hc:=gb_lt s (i+2)
 have hd:=gb_lt s (i+3)
 rw [next_j2 s i 3 p hs hi (by omega)]
 by_cases h1:i+3<s.size
 ·
  rw [if_pos h1,show (1:Int)=((1:Nat):Int) from rfl,next_step s i 3 1 p hs (by omega) (by omega) (by omega)]
  by_cases h2:128≤gb s (i+1)∧gb s (i+1)<192
  ·
   rw [if_pos h2,next_step s i 3 2 _ hs (by omega) (by omega) (by omega)]
   by_cases h3:128≤gb s (i+2)∧gb s (i+2)<192
   ·
    rw [if_pos h3,next_step s i 3 3 _ hs (by omega) (by omega) (by omega)]
    by_cases h5:128≤gb s (i+3)∧gb s (i+3)<192
    ·
     rw [if_pos h5,next_end s i 3 _ (by omega)]
     have he:((p*64+gb s (i+1) % 64)*64+gb s (i+2) % 64)*64+gb s (i+3) % 64=p*262144+gb s (i+1) % 64*4096+gb s (i+2) % 64*64+gb s (i+3) % 64:=by omega
     rw [he]
     obtain ⟨q,hq⟩:∃ q,p*262144+gb s (i+1) % 64*4096+gb s (i+2) % 64*64+gb s (i+3) % 64=q:=⟨_,rfl⟩
     rw [hq]
     by_cases hpt:isPt (q:Int)=true
     ·
      have hpt2:=hpt
      rw [isPt_nat] at hpt2
      simp only [decide_eq_true_eq] at hpt2
      have hz:=wr_size_nat _ hpt
      by_cases h4:65536≤q
      ·
       rw [if_neg (by omega),if_neg (by omega),if_neg (by omega)] at hz
       rw [if_pos ⟨hpt,hz⟩,if_pos (by omega)];rfl
      ·
       rw [if_neg (fun h=>by have h2:=h.2;rw [hz] at h2;split at h2 <;> (try split at h2) <;> (try split at h2) <;> omega),if_neg (by omega)] <;> rfl
     ·
      have hpt2:=hpt
      rw [isPt_nat] at hpt2
      simp only [decide_eq_true_eq] at hpt2
      rw [if_neg (fun h=>hpt h.1),if_neg (by omega)] <;> rfl
    ·
     rw [if_neg h5,if_neg (by omega)] <;> rfl
   ·
    rw [if_neg h3,if_neg (by omega)] <;> rfl
  ·
   rw [if_neg h2,if_neg (by omega)] <;> rfl
 ·
  rw [if_neg h1,if_neg (by omega)] <;> rfl
theorem next_eq (s:ByteArray) (i:Nat) (hs:s.size≤1099511627776) (hi:i<s.size) (k:Nat):spec_l01Next.f (k+10) s i=some (nextV s i):=by
 have hb0:=gb_lt s i
 have hb:=gb_lt s (i+1)
 have hc:=gb_lt s (i+2)
 have hd:=gb_lt s (i+3)
 have e2:=bt_gb s i hi
 have e3:wrap64 ((gb s i:Nat):Int)=(gb s i:Int):=w64 (by omega) (by omega)
 have m32:((gb s i:Nat):Int).tmod 32=((gb s i % 32:Nat):Int):=by rw [Int.tmod_eq_emod_of_nonneg (by omega)];omega
 have m16:((gb s i:Nat):Int).tmod 16=((gb s i % 16:Nat):Int):=by rw [Int.tmod_eq_emod_of_nonneg (by omega)];omega
 have m8:((gb s i:Nat):Int).tmod 8=((gb s i % 8:Nat):Int):=by rw [Int.tmod_eq_emod_of_nonneg (by omega)];omega
 have bad:∀ V:Nat × Nat,V=(65533,1)→(some (65533,1,false):Option (Int × Int × Bool))=some ((V.1:Int),(V.2:Int),decide ¬(V.1=65533∧V.2=1)):=by rintro V rfl;rfl
 have good:∀ (V:Nat × Nat) (p n:Nat),V=(p,n)→n≠1→(some ((p:Int),(n:Int),true):Option (Int × Int × Bool))=some ((V.1:Int),(V.2:Int),decide ¬(V.1=65533∧V.2=1)):=by rintro V p n rfl hn;simp [hn]
 unfold spec_l01Next.f nextV
 rw [if_pos (by omega),if_pos (by omega),e2,e3]
 by_cases h1:gb s i<128
 ·
  rw [if_pos (by omega)]
  have:dec s i=(gb s i,1):=by unfold dec Lib.decodeN;rw [if_pos h1]
  rw [this]
  simp;omega
 ·
  rw [if_neg (by omega)]
  by_cases h2:194≤gb s i∧gb s i<224
  ·
   rw [if_pos (by omega)]
   rw [spec_l01Next.j0,if_pos (by simp;omega),m32,show (1:Int)=((1:Nat):Int) from rfl,next_one s i hs hi _ (by omega)]
   by_cases h3:1<s.size-i∧gb s (i+1) / 64=2∧128≤gb s i % 32*64+gb s (i+1) % 64
   ·
    rw [if_pos h3]
    exact good _ _ 2 (by unfold dec Lib.decodeN;rw [if_neg h1,if_pos ⟨by omega,by omega,by omega⟩,if_pos (by omega)]) (by decide)
   ·
    rw [if_neg h3]
    refine bad _ ?_
    unfold dec Lib.decodeN
    rw [if_neg h1]
    repeat' split
    all_goals first|rfl|(exfalso;omega)
  ·
   by_cases h4:224≤gb s i∧gb s i<240
   ·
    rw [if_pos (by omega)]
    rw [spec_l01Next.j0,if_neg (by simp;omega),if_pos (by omega),spec_l01Next.j1,if_pos (by simp;omega),m16,show (2:Int)=((2:Nat):Int) from rfl,next_two s i hs hi _ (by omega)]
    split
    ·
     rename_i h5
     exact good _ _ 3 (by unfold dec Lib.decodeN;rw [if_neg h1,if_neg (by omega),if_pos ⟨by omega,⟨by omega,by omega⟩,by omega,by omega⟩,if_pos (by omega)]) (by decide)
    ·
     rename_i h5
     refine bad _ ?_
     unfold dec Lib.decodeN
     rw [if_neg h1]
     repeat' split
     all_goals first|rfl|(exfalso;omega)
   ·
    by_cases h6:240≤gb s i∧gb s i<245
    ·
     rw [if_pos (by omega)]
     rw [spec_l01Next.j0,if_neg (by simp;omega),if_pos (by omega),spec_l01Next.j1,if_neg (by simp;omega),if_pos (by omega),if_pos (by omega),m8,show (3:Int)=((3:Nat):Int) from rfl,next_three s i hs hi _ (by omega)]
     split
     ·
      rename_i h5
      exact good _ _ 4 (by unfold dec Lib.decodeN;rw [if_neg h1,if_neg (by omega),if_neg (by omega),if_pos ⟨by omega,⟨by omega,by omega⟩,⟨by omega,by omega⟩,by omega,by omega⟩,if_pos (by omega)]) (by decide)
     ·
      rename_i h5
      refine bad _ ?_
      unfold dec Lib.decodeN
      rw [if_neg h1]
      repeat' split
      all_goals first|rfl|(exfalso;omega)
    ·
     have hbad:dec s i=(65533,1):=by
      unfold dec Lib.decodeN
      rw [if_neg h1]
      repeat' split
      all_goals first|rfl|(exfalso;omega)
     rw [hbad]
     by_cases h7:194≤gb s i
     ·
      rw [if_pos (by omega)]
      rw [spec_l01Next.j0,if_neg (by simp;omega),if_pos (by omega),spec_l01Next.j1,if_neg (by simp;omega),if_pos (by omega),if_neg (by omega)];rfl
     ·
      rw [if_neg (by omega)]
      rw [spec_l01Next.j0,if_neg (by simp),if_neg (by omega),spec_l01Next.j1,if_neg (by simp),if_neg (by omega)];rfl
theorem dec_size (s:ByteArray) (i:Nat) (h:i<s.size):1≤(dec s i).2∧i+(dec s i).2≤s.size∧(dec s i).2≤4:=by
 unfold dec Lib.decodeN
 repeat' split
 all_goals (simp only;omega)
theorem gb_extract (s:ByteArray) (a b i:Nat) (h:a+i<b) (hb:b≤s.size):gb (s.extract a b) i=gb s (a+i):=by
 have h1:i<(s.extract a b).size:=by rw [ByteArray.size_extract];omega
 unfold gb
 rw [get!_eq _ _ h1,get!_eq _ _ (by omega),ByteArray.getElem_extract]
theorem decodeGo_dec (s:ByteArray) (h:0<s.size):Lib.decodeGo s=dec s 0:=by
 unfold Lib.decodeGo dec
 rw [if_neg (by omega),Lib.decode_at]
 rfl
theorem decodeN_cut (n m b0 b1 b2 b3 c1 c2 c3:Nat) (h1:1<n→b1=c1) (h2:2<n→b2=c2) (h3:3<n→b3=c3) (hnm:n=m∨(4≤n∧4≤m)):Lib.decodeN n b0 b1 b2 b3=Lib.decodeN m b0 c1 c2 c3:=by
 have e1:(1<n∧b1 / 64=2) ↔ (1<m∧c1 / 64=2):=⟨fun h=>⟨by omega,h1 h.1 ▸ h.2⟩,fun h=>⟨by omega,by rw [h1 (by omega)];exact h.2⟩⟩
 have e2:(2<n∧b2 / 64=2) ↔ (2<m∧c2 / 64=2):=⟨fun h=>⟨by omega,h2 h.1 ▸ h.2⟩,fun h=>⟨by omega,by rw [h2 (by omega)];exact h.2⟩⟩
 have e3:(3<n∧b3 / 64=2) ↔ (3<m∧c3 / 64=2):=⟨fun h=>⟨by omega,h3 h.1 ▸ h.2⟩,fun h=>⟨by omega,by rw [h3 (by omega)];exact h.2⟩⟩
 by_cases a1:1<n
 ·
  rw [h1 a1] at *
  by_cases a2:2<n
  ·
   rw [h2 a2] at *
   by_cases a3:3<n
   ·
    rw [h3 a3] at *
    unfold Lib.decodeN
    simp only [e1,e2,e3]
   ·
    unfold Lib.decodeN
    have:¬ 3<m:=by omega
    simp only [e1,e2,a3,this,false_and,and_false,if_false]
  ·
   unfold Lib.decodeN
   have:¬ 2<m:=by omega
   simp only [e1,a2,this,false_and,and_false,if_false]
 ·
  unfold Lib.decodeN
  have:¬ 1<m:=by omega
  simp only [a1,this,false_and,and_false,if_false]
theorem dec_window (s:ByteArray) (i j:Nat) (h:i<s.size) (hj:j=min s.size (i+4)):dec (s.extract i j) 0=dec s i:=by
 have hz:(s.extract i j).size=j-i:=by rw [ByteArray.size_extract];omega
 unfold dec
 rw [hz,gb_extract s i j 0 (by omega) (by omega)]
 refine decodeN_cut _ _ _ _ _ _ _ _ _ (fun h1=>gb_extract s i j 1 (by omega) (by omega)) (fun h1=>gb_extract s i j 2 (by omega) (by omega)) (fun h1=>gb_extract s i j 3 (by omega) (by omega)) (by omega)
theorem dec_tail (s:ByteArray) (i:Nat) (h:i<s.size):Lib.decodeGo (s.extract i s.size)=dec s i:=by
 have hz:(s.extract i s.size).size=s.size-i:=by rw [ByteArray.size_extract];omega
 rw [decodeGo_dec _ (by omega)]
 unfold dec
 rw [hz,gb_extract s i s.size 0 (by omega) (by omega)]
 exact decodeN_cut _ _ _ _ _ _ _ _ _ (fun h1=>gb_extract s i s.size 1 (by omega) (by omega)) (fun h1=>gb_extract s i s.size 2 (by omega) (by omega)) (fun h1=>gb_extract s i s.size 3 (by omega) (by omega)) (by omega)
theorem read_ev (s:ByteArray) (hs:s.size<4398046511104):∀ (f i:Nat) (L:List S135),i≤s.size→s.size≤i+f→L.length≤i →
  ∃ M,Ev (fun k=>impl_read.l0 k s L (i:Int)) (L ++ M)∧(i<s.size → ∃ y M',M=y :: M' ∧ y.f2=((i+(dec s i).2:Nat):Int)):=by
 intro f
 induction f with
 | zero =>
  intro i L h1 h2 h3
  refine ⟨[],Ev.succ (Ev.congr (fun k=>?_) (Ev.now _)),fun h=>by omega⟩
  rw [impl_read.l0,if_neg (by omega),List.append_nil]
 | succ f ih =>
  intro i L h1 h2 h3
  by_cases h:i<s.size
  ·
   have hd:=dec_size s i h
   have e1:Lib.decodeGo (s.extract (i:Int).toNat s.size)=dec s i:=by rw [Int.toNat_natCast];exact dec_tail s i h
   have e2:wrap64 ((i:Int)+((dec s i).2:Int))=((i+(dec s i).2:Nat):Int):=by rw [w64 (by omega) (by omega)];omega
   have go:∀ y:S135,y.f2=((i+(dec s i).2:Nat):Int) → ∃ M,Ev (fun k=>impl_read.l0 k s (L ++ [y]) ((i+(dec s i).2:Nat):Int)) (L ++ M)∧(i<s.size → ∃ y M',M=y :: M' ∧ y.f2=((i+(dec s i).2:Nat):Int)):=by
    intro y hy
    obtain ⟨M,hM,_⟩:=ih (i+(dec s i).2) (L ++ [y]) (by omega) (by omega) (by simp;omega)
    exact ⟨y :: M,by rw [List.append_assoc] at hM;exact hM,fun _=>⟨y,M,rfl,hy⟩⟩
   have hL:L.length<4398046511104:=by omega
   by_cases h5:((dec s i).1:Int)=65533
   ·
    obtain ⟨M,hM,hh⟩:=go ⟨wrap64 ((dec s i).1:Int),(i:Int),wrap64 ((i:Int)+((dec s i).2:Int)),(((dec s i).2:Int) == 1)⟩ e2
    refine ⟨M,Ev.succ (Ev.congr (fun k=>?_) hM),hh⟩
    rw [impl_read.l0,if_pos (by omega),if_pos (by omega),if_pos (by omega)]
    simp only [utf8_DecodeRuneInString.f,Option.bind_some,e1]
    rw [if_pos h5,if_pos hL,e2]
   ·
    obtain ⟨M,hM,hh⟩:=go ⟨wrap64 ((dec s i).1:Int),(i:Int),wrap64 ((i:Int)+((dec s i).2:Int)),false⟩ e2
    refine ⟨M,Ev.succ (Ev.congr (fun k=>?_) hM),hh⟩
    rw [impl_read.l0,if_pos (by omega),if_pos (by omega),if_pos (by omega)]
    simp only [utf8_DecodeRuneInString.f,Option.bind_some,e1]
    rw [if_neg h5,if_pos hL,e2]
  ·
   refine ⟨[],Ev.succ (Ev.congr (fun k=>?_) (Ev.now _)),fun h'=>absurd h' h⟩
   rw [impl_read.l0,if_neg (by omega),List.append_nil]
theorem read_head (s:ByteArray) (i j:Nat) (hs:s.size≤1099511627776) (h:i<s.size) (hj:j=min s.size (i+4)) :
  ∃ y M,Ev (fun k=>impl_read.f k (s.extract i j)) (y :: M)∧y.f2=((dec s i).2:Int):=by
 have hz:(s.extract i j).size=j-i:=by rw [ByteArray.size_extract];omega
 obtain ⟨M,hM,hh⟩:=read_ev (s.extract i j) (by omega) (s.extract i j).size 0 [] (by omega) (by omega) (by simp)
 obtain ⟨y,M',rfl,hy⟩:=hh (by omega)
 rw [dec_window s i j h hj,Nat.zero_add] at hy
 exact ⟨y,M',hM,hy⟩
def cutL:Nat→ByteArray→Nat→Nat→Nat→Nat
 | 0,_,_,at_,_=>at_
 | f+1,s,most,at_,i=>if i≤most then cutL f s most i (i+(dec s i).2) else at_
def cut (s:ByteArray):Nat:=cutL (s.size+2) s ((s.size+1) / 2) 0 0
theorem most_eq (s:ByteArray) (hs:s.size≤1099511627776):wrap64 (Int.tdiv (wrap64 ((s.size:Int)+1)) 2)=(((s.size+1) / 2:Nat):Int):=by
 rw [w64 (x:=(s.size:Int)+1) (by omega) (by omega),Int.tdiv_eq_ediv_of_nonneg (by omega),w64 (by omega) (by omega)]
 omega
theorem spec_cut (s:ByteArray) (hs:s.size≤1099511627776) (h64:64<s.size):Ev (fun k=>spec_l20Cut.f k s) ((cut s:Nat):Int):=by
 have key:∀ (f i a:Nat),(s.size+1) / 2<i+f→i≤s.size+4→Ev (fun k=>spec_l20Cut.l0 k s (((s.size+1) / 2:Nat):Int) (a:Int) (i:Int)) ((cutL f s ((s.size+1) / 2) a i:Nat):Int):=by
  intro f
  induction f with
  | zero =>
   intro i a h1 h2
   refine Ev.succ (Ev.congr (fun k=>?_) (Ev.now _))
   rw [spec_l20Cut.l0]
   by_cases h3:(i:Int)<s.size
   ·
    rw [if_pos h3,if_neg (by omega)];rfl
   ·
    rw [if_neg h3];rfl
  | succ f ih =>
   intro i a h1 h2
   rw [cutL]
   by_cases h3:i≤(s.size+1) / 2
   ·
    rw [if_pos h3]
    have hi:i<s.size:=by omega
    have hd:=dec_size s i hi
    have e2:wrap64 ((i:Int)+((dec s i).2:Int))=((i+(dec s i).2:Nat):Int):=by rw [w64 (by omega) (by omega)];omega
    obtain ⟨K,hK⟩:=ih (i+(dec s i).2) i (by omega) (by omega)
    refine ⟨K+11,fun k hk=>?_⟩
    obtain ⟨m,rfl⟩:∃ m,k=(m+10)+1:=⟨k-11,by omega⟩
    simp only []
    rw [spec_l20Cut.l0,if_pos (by omega),if_pos (by omega),next_eq s i hs hi,Option.bind_some]
    simp only [nextV]
    rw [e2]
    exact hK _ (by omega)
   ·
    rw [if_neg h3]
    refine Ev.succ (Ev.congr (fun k=>?_) (Ev.now _))
    rw [spec_l20Cut.l0]
    by_cases h3:(i:Int)<s.size
    ·
     rw [if_pos h3,if_neg (by omega)]
    ·
     rw [if_neg h3]
 have:=key (s.size+2) 0 0 (by omega) (by omega)
 refine Ev.congr (fun k=>?_) this
 simp only [spec_l20Cut.f,most_eq s hs]
 rfl
def treeRest (k:Nat) (x0:List S30) (x1:ByteArray) (x5 x6 x7:Int):Option (List S30):=if x0.length<2932031007402 then (if 0≤x7 then (if x7≤(x1.size:Int) then ((impl_ropeTree.f k (x0 ++ [(⟨(⟨#[]⟩:ByteArray),wrap64 ((x0.length:Int)+1),0,x5,x6⟩:S30)]) (x1.extract 0 (x7:Int).toNat)).bind fun t120=>(if 0≤(x0.length:Int) then (if (x0.length:Int)<(t120.length:Int) then ((impl_ropeTree.f k (t120.set ((x0.length:Int):Int).toNat (⟨(rd_T30 t120 (x0.length:Int)).f0,(rd_T30 t120 (x0.length:Int)).f1,(t120.length:Int),(rd_T30 t120 (x0.length:Int)).f3,(rd_T30 t120 (x0.length:Int)).f4⟩:S30)) (x1.extract (x7:Int).toNat x1.size)).bind fun t124=>(some t124)) else (none)) else (none))) else (none)) else (none)) else (none)
theorem tree_cut (x0:List S30) (s:ByteArray) (x5 x6:Int) (r:List S30) (hs:s.size≤1099511627776) (h64:64<s.size):∀ (f i a:Nat),(s.size+1) / 2<i+f →
  Ev (fun k=>treeRest k x0 s x5 x6 ((cutL f s ((s.size+1) / 2) a i:Nat):Int)) r→Ev (fun k=>impl_ropeTree.l0 k x0 s x5 x6 (a:Int) (i:Int)) r:=by
 intro f
 induction f with
 | zero =>
  intro i a h1 hr
  refine Ev.succ (Ev.congr (fun k=>?_) hr)
  rw [impl_ropeTree.l0,most_eq s hs,if_neg (by omega)]
  rfl
 | succ f ih =>
  intro i a h1 hr
  rw [cutL] at hr
  by_cases h3:i≤(s.size+1) / 2
  ·
   rw [if_pos h3] at hr
   have hi:i<s.size:=by omega
   have hd:=dec_size s i hi
   have e2:wrap64 ((i:Int)+((dec s i).2:Int))=((i+(dec s i).2:Nat):Int):=by rw [w64 (by omega) (by omega)];omega
   have e3:mn (s.size:Int) (wrap64 ((i:Int)+4))=((min s.size (i+4):Nat):Int):=by
    rw [w64 (by omega) (by omega)];unfold mn;split <;> omega
   obtain ⟨y,M,hM,hy⟩:=read_head s i (min s.size (i+4)) hs hi rfl
   refine Ev.succ (Ev.congr (fun k=>?_) (Ev.bind (f:=fun k t113=>if 0<(t113.length:Int) then (impl_ropeTree.l0 k x0 s x5 x6 (i:Int) (wrap64 ((i:Int)+((rd_T135 t113 0).f2)))) else (none)) hM (Ev.congr (fun k=>?_) (ih (i+(dec s i).2) i (by omega) hr))))
   ·
    rw [impl_ropeTree.l0,most_eq s hs,if_pos (by omega),if_pos (by omega),e3,if_pos (by omega),if_pos (by omega),Int.toNat_natCast,Int.toNat_natCast]
   ·
    simp only [List.length_cons]
    rw [if_pos (by omega)]
    have:(rd_T135 (y :: M) 0).f2=((dec s i).2:Int):=by simp only [rd_T135];exact hy
    rw [this,e2]
  ·
   rw [if_neg h3] at hr
   refine Ev.succ (Ev.congr (fun k=>?_) hr)
   rw [impl_ropeTree.l0,most_eq s hs,if_neg (by omega)]
   rfl
theorem cutL_le (s:ByteArray) (most:Nat):∀ (f a i:Nat),a≤most→cutL f s most a i≤most
 | 0,_,_,h=>h
 | f+1,a,i,h=>by
  rw [cutL]
  split
  ·
   rename_i h2;exact cutL_le s most f i _ h2
  ·
   exact h
theorem cutL_ge (s:ByteArray) (most:Nat):∀ (f a i:Nat),a≤i→a≤cutL f s most a i
 | 0,_,_,h=>Nat.le_refl _
 | f+1,a,i,h=>by
  rw [cutL]
  split
  ·
   exact Nat.le_trans h (cutL_ge s most f i _ (by omega))
  ·
   exact Nat.le_refl _
theorem cut_pos (s:ByteArray) (h64:64<s.size):1≤cut s∧cut s<s.size:=by
 have hd:=dec_size s 0 (by omega)
 refine ⟨?_,?_⟩
 ·
  unfold cut
  rw [cutL,if_pos (by omega),cutL,if_pos (by omega)]
  refine Nat.le_trans ?_ (cutL_ge s _ _ _ _ (by omega))
  omega
 ·
  have:=cutL_le s ((s.size+1) / 2) (s.size+2) 0 0 (by omega)
  unfold cut
  omega
def ends (s:ByteArray):Nat:=Lib.countByte s.data.toList 10
theorem count_ends (s:ByteArray):strings_Count.f s (⟨#[10]⟩:ByteArray)=some ((ends s:Nat):Int):=rfl
theorem gb_drop (s:ByteArray) (i:Nat) (h:i<s.size):s.data.toList.drop i=UInt8.ofNat (gb s i) :: s.data.toList.drop (i+1):=by
 have h2:i<s.data.toList.length:=by simpa using h
 rw [List.drop_eq_getElem_cons h2]
 congr 1
 unfold gb
 rw [get!_eq s i h]
 simp
 rfl
theorem spec_ends (s:ByteArray) (hs:s.size≤1099511627776):Ev (fun k=>spec_l20Ends.f k s) ((ends s:Nat):Int):=by
 have key:∀ (f i a:Nat),i+f=s.size→a≤i→Ev (fun k=>spec_l20Ends.l0 k s (a:Int) (i:Int)) ((a+Lib.countByte (s.data.toList.drop i) 10:Nat):Int):=by
  intro f
  induction f with
  | zero =>
   intro i a h1 h2
   refine Ev.succ (Ev.congr (fun k=>?_) (Ev.now _))
   have hz:s.data.toList.length=s.size:=by simp
   rw [spec_l20Ends.l0,if_neg (by omega),List.drop_of_length_le (by omega)]
   simp [Lib.countByte]
  | succ f ih =>
   intro i a h1 h2
   have hi:i<s.size:=by omega
   have e1:wrap64 ((i:Int)+1)=((i+1:Nat):Int):=by rw [w64 (by omega) (by omega)];omega
   have e2:wrap64 ((a:Int)+1)=((a+1:Nat):Int):=by rw [w64 (by omega) (by omega)];omega
   have hl:=gb_lt s i
   rw [gb_drop s i hi]
   by_cases h3:gb s i=10
   ·
    have:a+Lib.countByte (UInt8.ofNat (gb s i) :: s.data.toList.drop (i+1)) 10=(a+1)+Lib.countByte (s.data.toList.drop (i+1)) 10:=by
     rw [h3];simp only [Lib.countByte];rw [show (UInt8.ofNat 10)=10 from rfl,List.count_cons_self];omega
    rw [this]
    refine Ev.succ (Ev.congr (fun k=>?_) (ih (i+1) (a+1) (by omega) (by omega)))
    rw [spec_l20Ends.l0,if_pos (by omega),if_pos (by omega),bt_gb s i hi,if_pos (by omega),e1,e2]
   ·
    have:a+Lib.countByte (UInt8.ofNat (gb s i) :: s.data.toList.drop (i+1)) 10=a+Lib.countByte (s.data.toList.drop (i+1)) 10:=by
     simp only [Lib.countByte]
     rw [List.count_cons_of_ne]
     intro h4
     have h5:=congrArg UInt8.toNat h4
     rw [UInt8.toNat_ofNat_of_lt' hl] at h5
     exact h3 h5
    rw [this]
    refine Ev.succ (Ev.congr (fun k=>?_) (ih (i+1) a (by omega) (by omega)))
    rw [spec_l20Ends.l0,if_pos (by omega),if_pos (by omega),bt_gb s i hi,if_neg (by omega),e1]
 have:=key s.size 0 0 (by omega) (by omega)
 refine Ev.congr (fun k=>rfl) (?_:Ev (fun k=>spec_l20Ends.l0 k s 0 0) _)
 simpa [ends] using this
theorem toList_nil (s:ByteArray):s.toList=([]:List UInt8) ↔ s.size=0:=by
 rw [ByteArray.toList_eq,Array.toList_eq_nil_iff]
 exact ⟨fun h=>by show s.data.size=0;rw [h];rfl,fun h=>Array.eq_empty_of_size_eq_zero h⟩
def bld:Nat→Nat→ByteArray→List S30
 | 0,_,_=>[]
 | f+1,b,s=>if s.size≤64 then [⟨s,-1,-1,(s.size:Int),((ends s:Nat):Int)⟩] else
   (⟨⟨#[]⟩,((b+1:Nat):Int),((b+1+(bld f (b+1) (s.extract 0 (cut s))).length:Nat):Int),(s.size:Int),((ends s:Nat):Int)⟩:S30) :: (bld f (b+1) (s.extract 0 (cut s)) ++ bld f (b+1+(bld f (b+1) (s.extract 0 (cut s))).length) (s.extract (cut s) s.size))
theorem bld_len:∀ (f b:Nat) (s:ByteArray),0<s.size→(bld f b s).length+1≤2*s.size
 | 0,b,s,h=>by simp [bld];omega
 | f+1,b,s,h=>by
  rw [bld]
  split
  ·
   simp;omega
  ·
   rename_i h64
   have hc:=cut_pos s (by omega)
   have h1:=bld_len f (b+1) (s.extract 0 (cut s)) (by rw [ByteArray.size_extract];omega)
   have h2:=bld_len f (b+1+(bld f (b+1) (s.extract 0 (cut s))).length) (s.extract (cut s) s.size) (by rw [ByteArray.size_extract];omega)
   rw [ByteArray.size_extract] at h1 h2
   simp only [List.length_cons,List.length_append]
   omega
theorem rd_mid (out:List S30) (n:S30) (L:List S30):rd_T30 (out ++ [n] ++ L) (out.length:Int)=n:=by
 simp [rd_T30,List.getD_eq_getElem?_getD]
theorem set_mid (out:List S30) (n m:S30) (L:List S30):(out ++ [n] ++ L).set ((out.length:Int)).toNat m=out ++ [m] ++ L:=by
 rw [Int.toNat_natCast]
 simp
theorem impl_tree:∀ (f:Nat) (s:ByteArray) (out:List S30),0<s.size→s.size≤f→s.size≤1099511627776→out.length+2*s.size<2932031007402→Ev (fun k=>impl_ropeTree.f k out s) (out ++ bld f out.length s):=by
 intro f
 induction f with
 | zero=>intro s out h1 h2;omega
 | succ f ih =>
  intro s out h1 h2 h3 h4
  by_cases h64:s.size≤64
  ·
   refine Ev.succ (Ev.congr (fun k=>?_) (Ev.now _))
   rw [impl_ropeTree.f,count_ends,Option.bind_some,if_pos (by omega),if_pos (by omega),bld,if_pos h64]
  ·
   have hc:=cut_pos s (by omega)
   have z1:(s.extract 0 (cut s)).size=cut s:=by rw [ByteArray.size_extract];omega
   have z2:(s.extract (cut s) s.size).size=s.size-cut s:=by rw [ByteArray.size_extract];omega
   have l1:=bld_len f (out.length+1) (s.extract 0 (cut s)) (by omega)
   have e1:wrap64 ((out.length:Int)+1)=((out.length+1:Nat):Int):=by rw [w64 (by omega) (by omega)];omega
   have A:=ih (s.extract 0 (cut s)) (out ++ [⟨⟨#[]⟩,((out.length+1:Nat):Int),0,(s.size:Int),((ends s:Nat):Int)⟩]) (by omega) (by omega) (by omega) (by simp;omega)
   have el:(out ++ [(⟨⟨#[]⟩,((out.length+1:Nat):Int),0,(s.size:Int),((ends s:Nat):Int)⟩:S30)]).length=out.length+1:=by simp
   rw [el] at A
   generalize hL:bld f (out.length+1) (s.extract 0 (cut s))=L at A l1
   have B:=ih (s.extract (cut s) s.size) (out ++ [⟨⟨#[]⟩,((out.length+1:Nat):Int),((out.length+1+L.length:Nat):Int),(s.size:Int),((ends s:Nat):Int)⟩] ++ L) (by omega) (by omega) (by omega) (by simp;omega)
   have el2:(out ++ [(⟨⟨#[]⟩,((out.length+1:Nat):Int),((out.length+1+L.length:Nat):Int),(s.size:Int),((ends s:Nat):Int)⟩:S30)] ++ L).length=out.length+1+L.length:=by simp;omega
   rw [el2] at B
   have hr:out ++ bld (f+1) out.length s=(out ++ [⟨⟨#[]⟩,((out.length+1:Nat):Int),((out.length+1+L.length:Nat):Int),(s.size:Int),((ends s:Nat):Int)⟩] ++ L) ++ bld f (out.length+1+L.length) (s.extract (cut s) s.size):=by
    rw [bld,if_neg h64,hL];simp
   rw [hr]
   refine Ev.succ (Ev.congr (fun k=>?_) (tree_cut out s (s.size:Int) ((ends s:Nat):Int) _ h3 (by omega) (s.size+2) 0 0 (by omega) ?_))
   ·
    rw [impl_ropeTree.f,count_ends,Option.bind_some,if_neg (by omega)];rfl
   ·
    have ec:cutL (s.size+2) s ((s.size+1) / 2) 0 0=cut s:=rfl
    rw [ec]
    refine Ev.congr (fun k=>?_) (Ev.bind (f:=fun k t120=>(if 0≤(out.length:Int) then (if (out.length:Int)<(t120.length:Int) then ((impl_ropeTree.f k (t120.set ((out.length:Int):Int).toNat (⟨(rd_T30 t120 (out.length:Int)).f0,(rd_T30 t120 (out.length:Int)).f1,(t120.length:Int),(rd_T30 t120 (out.length:Int)).f3,(rd_T30 t120 (out.length:Int)).f4⟩:S30)) (s.extract (((cut s:Nat):Int):Int).toNat s.size)).bind fun t124=>(some t124)) else (none)) else (none))) A (Ev.congr (fun k=>?_) (Ev.bind (f:=fun _ t=>some t) B (Ev.now _))))
    ·
     rw [treeRest,if_pos (by omega),if_pos (by omega),if_pos (by omega),e1,Int.toNat_natCast]
    ·
     rw [if_pos (by omega),if_pos (by simp;omega),rd_mid,set_mid,Int.toNat_natCast]
     simp only [List.length_append,List.length_cons,List.length_nil,Nat.zero_add]
theorem spec_build:∀ (f:Nat) (s:ByteArray) (out:List S30),0<s.size→s.size≤f→s.size≤1099511627776→out.length+2*s.size<2932031007402→Ev (fun k=>spec_l20Build.f k out s) (out ++ bld f out.length s):=by
 intro f
 induction f with
 | zero=>intro s out h1 h2;omega
 | succ f ih =>
  intro s out h1 h2 h3 h4
  have hne:¬ s.toList=([]:List UInt8):=by
   intro h
   have:=(toList_nil s).1 h
   omega
  have hE:=spec_ends s h3
  by_cases h64:s.size≤64
  ·
   refine Ev.succ (Ev.congr (fun k=>?_) (Ev.bind (f:=fun _ t176=>if (s.size:Int)≤64 then (if out.length<2932031007402 then (some (out ++ [(⟨s,(-1),(-1),(s.size:Int),t176⟩:S30)])) else (none)) else none) hE (Ev.congr (fun k=>?_) (Ev.now _))))
   ·
    rw [spec_l20Build.f,if_neg hne]
    simp only [show ((s.size:Int)≤64)=True from eq_true (by omega),if_true]
   ·
    rw [if_pos (by omega),if_pos (by omega),bld,if_pos h64]
  ·
   have hc:=cut_pos s (by omega)
   have z1:(s.extract 0 (cut s)).size=cut s:=by rw [ByteArray.size_extract];omega
   have z2:(s.extract (cut s) s.size).size=s.size-cut s:=by rw [ByteArray.size_extract];omega
   have l1:=bld_len f (out.length+1) (s.extract 0 (cut s)) (by omega)
   have A:=ih (s.extract 0 (cut s)) (out ++ [⟨⟨#[]⟩,((out.length+1:Nat):Int),-1,(s.size:Int),((ends s:Nat):Int)⟩]) (by omega) (by omega) (by omega) (by simp;omega)
   have el:(out ++ [(⟨⟨#[]⟩,((out.length+1:Nat):Int),-1,(s.size:Int),((ends s:Nat):Int)⟩:S30)]).length=out.length+1:=by simp
   rw [el] at A
   generalize hL:bld f (out.length+1) (s.extract 0 (cut s))=L at A l1
   have B:=ih (s.extract (cut s) s.size) (out ++ [⟨⟨#[]⟩,((out.length+1:Nat):Int),((out.length+1+L.length:Nat):Int),(s.size:Int),((ends s:Nat):Int)⟩] ++ L) (by omega) (by omega) (by omega) (by simp;omega)
   have el2:(out ++ [(⟨⟨#[]⟩,((out.length+1:Nat):Int),((out.length+1+L.length:Nat):Int),(s.size:Int),((ends s:Nat):Int)⟩:S30)] ++ L).length=out.length+1+L.length:=by simp;omega
   rw [el2] at B
   have hr:out ++ bld (f+1) out.length s=(out ++ [⟨⟨#[]⟩,((out.length+1:Nat):Int),((out.length+1+L.length:Nat):Int),(s.size:Int),((ends s:Nat):Int)⟩] ++ L) ++ bld f (out.length+1+L.length) (s.extract (cut s) s.size):=by
    rw [bld,if_neg h64,hL];simp
   rw [hr]
   have r0:rd_T30 (out ++ [(⟨(⟨#[]⟩:ByteArray),(-1),(-1),(s.size:Int),((ends s:Nat):Int)⟩:S30)]) (out.length:Int)=⟨(⟨#[]⟩:ByteArray),(-1),(-1),(s.size:Int),((ends s:Nat):Int)⟩:=by
    have:=rd_mid out (⟨(⟨#[]⟩:ByteArray),(-1),(-1),(s.size:Int),((ends s:Nat):Int)⟩:S30) []
    rwa [List.append_nil] at this
   have s0:∀ m:S30,(out ++ [(⟨(⟨#[]⟩:ByteArray),(-1),(-1),(s.size:Int),((ends s:Nat):Int)⟩:S30)]).set ((out.length:Int)).toNat m=out ++ [m]:=by
    intro m
    have:=set_mid out (⟨(⟨#[]⟩:ByteArray),(-1),(-1),(s.size:Int),((ends s:Nat):Int)⟩:S30) m []
    rwa [List.append_nil,List.append_nil] at this
   refine Ev.succ (Ev.congr (fun k=>by rw [spec_l20Build.f,if_neg hne]) (Ev.bind hE (Ev.congr (fun k=>by rw [if_neg (by omega)]) (Ev.bind (spec_cut s h3 (by omega)) (Ev.congr (fun k=>by rw [if_pos (by omega),Option.bind_some,if_pos (by omega),if_pos (by simp;omega),if_pos (by omega),if_pos (by omega),r0,s0,Int.toNat_natCast]) (Ev.bind (a:=out ++ [⟨⟨#[]⟩,((out.length+1:Nat):Int),-1,(s.size:Int),((ends s:Nat):Int)⟩] ++ L) (f:=fun k t186=>(if (out.length:Int)<(t186.length:Int) then ((spec_l20Build.f k (t186.set ((out.length:Int):Int).toNat (⟨(rd_T30 t186 (out.length:Int)).f0,(rd_T30 t186 (out.length:Int)).f1,(t186.length:Int),(rd_T30 t186 (out.length:Int)).f3,(rd_T30 t186 (out.length:Int)).f4⟩:S30)) (s.extract (cut s) s.size)).bind fun t190=>(some t190)) else (none))) ?_ (Ev.congr (fun k=>by rw [if_pos (by simp;omega),rd_mid,set_mid]) (Ev.bind ?_ (Ev.now _)))))))))
   ·
    refine Ev.congr (fun k=>?_) A
    simp only [List.length_append,List.length_cons,List.length_nil,Nat.zero_add]
   ·
    refine Ev.congr (fun k=>?_) B
    simp only [List.length_append,List.length_cons,List.length_nil,Nat.zero_add]
def textOf (l:List S30):ByteArray:=⟨(ropeJoin l).toArray⟩
theorem textOf_size (l:List S30):(textOf l).size=(ropeJoin l).length:=by simp [textOf,ByteArray.size]
theorem strOfNums_bytes (l:List UInt8):strOfNums (l.map fun b=>(b.toNat:Int))=⟨l.toArray⟩:=by
 unfold strOfNums
 rw [List.map_map]
 congr 2
 conv=>rhs;rw [← List.map_id l]
 apply List.map_congr_left
 intro b _
 simp
theorem impl_text (l:List S30) (m:List S56) (h:(ropeJoin l).length≤140737488355328):impl_ropeText.f l m=some (textOf l):=by
 unfold impl_ropeText.f
 rw [if_pos h];rfl
theorem rd_nat (l:List S30) (i:Nat) (h:i<l.length):rd_T30 l (i:Int)=l[i]:=by simp [rd_T30,List.getD_eq_getElem?_getD,List.getElem?_eq_getElem h]
theorem spec_text (l:List S30) (h:(ropeJoin l).length<140737488355328) (hl:l.length≤1099511627776):Ev (fun k=>spec_l20Text.f k l) (textOf l):=by
 have key:∀ (f i:Nat),i+f=l.length→Ev (fun k=>spec_l20Text.l0 k l ((ropeJoin (l.take i)).map fun b=>(b.toNat:Int)) (i:Int)) (textOf l):=by
  intro f
  induction f with
  | zero =>
   intro i hi
   refine Ev.succ (Ev.congr (fun k=>?_) (Ev.now _))
   rw [spec_l20Text.l0,if_neg (by omega),List.take_of_length_le (by omega),strOfNums_bytes];rfl
  | succ f ih =>
   intro i hi
   have hi' : i<l.length:=by omega
   have e1:wrap64 ((i:Int)+1)=((i+1:Nat):Int):=by rw [w64 (by omega) (by omega)];omega
   have hj:ropeJoin (l.take (i+1))=ropeJoin (l.take i) ++ l[i].f0.data.toList:=by
    rw [List.take_succ_eq_append_getElem hi']
    simp only [ropeJoin,List.flatMap_append,List.flatMap_cons,List.flatMap_nil,List.append_nil]
   have hz:=ropeJoin_take_le l (i+1)
   have hz2:l[i].f0.data.toList.length=l[i].f0.size:=by simp
   rw [hj,List.length_append] at hz
   refine Ev.succ (Ev.congr (fun k=>?_) (ih (i+1) (by omega)))
   rw [spec_l20Text.l0,if_pos (by omega),if_pos (by omega),rd_nat l i hi',if_pos (by rw [List.length_map];omega),e1,hj,List.map_append]
   rfl
 exact key l.length 0 (by omega)
def okAt (s:ByteArray) (i:Nat):Bool:=(decide (97≤gb s i) && decide (gb s i≤122)) || (decide (0<i) && ((decide (48≤gb s i) && decide (gb s i≤57)) || decide (gb s i=45)))
def okFrom:Nat→ByteArray→Nat→Bool
 | 0,_,_=>true
 | f+1,s,i=>okAt s i && okFrom f s (i+1)
def nm (s:ByteArray):Bool:=(decide (1≤s.size) && decide (s.size≤20)) && okFrom s.size s 0
theorem impl_name (s:ByteArray) (hs:s.size≤1099511627776):Ev (fun k=>impl_isName.f k s) (nm s):=by
 have key:∀ (f i:Nat),i+f=s.size→Ev (fun k=>impl_isName.l0 k s (s.size:Int) (i:Int)) (okFrom f s i && (decide (1≤s.size) && decide (s.size≤20))):=by
  intro f
  induction f with
  | zero =>
   intro i hi
   refine Ev.succ (Ev.congr (fun k=>?_) (Ev.now _))
   rw [impl_isName.l0,if_neg (by omega)]
   by_cases h1:(s.size:Int)≥1
   ·
    rw [if_pos h1,okFrom,show decide (1≤s.size)=true from decide_eq_true (by omega),Bool.true_and,Bool.true_and]
    congr 1
    rw [decide_eq_decide];omega
   ·
    rw [if_neg h1,okFrom,show decide (1≤s.size)=false from decide_eq_false (by omega)];simp
  | succ f ih =>
   intro i hi
   have hi' : i<s.size:=by omega
   have e1:wrap64 ((i:Int)+1)=((i+1:Nat):Int):=by rw [w64 (by omega) (by omega)];omega
   cases hok:okAt s i with
   | true =>
    rw [okFrom,hok,Bool.true_and]
    refine Ev.succ (Ev.congr (fun k=>?_) (ih (i+1) (by omega)))
    rw [impl_isName.l0,if_pos (by omega),if_pos (by omega),if_pos (by omega),bt_gb s i hi',e1]
    simp only [okAt,Bool.or_eq_true,Bool.and_eq_true,decide_eq_true_eq] at hok
    repeat' split
    all_goals first|rfl|(exfalso;omega)
   | false =>
    rw [okFrom,hok,Bool.false_and,Bool.false_and]
    refine Ev.succ (Ev.congr (fun k=>?_) (Ev.now _))
    rw [impl_isName.l0,if_pos (by omega),if_pos (by omega),if_pos (by omega),bt_gb s i hi',e1]
    simp only [okAt,Bool.or_eq_false_iff,Bool.and_eq_false_iff,decide_eq_false_iff_not] at hok
    repeat' split
    all_goals first|rfl|(exfalso;omega)
 refine Ev.congr (fun k=>rfl) (?_:Ev (fun k=>impl_isName.l0 k s (s.size:Int) 0) _)
 have:=key s.size 0 (by omega)
 rw [nm,Bool.and_comm]
 exact this
theorem spec_name (s:ByteArray) (hs:s.size≤1099511627776):Ev (fun k=>spec_l17IsName.f k s) (nm s):=by
 have key:∀ (f i:Nat),1≤i→i+f=s.size→Ev (fun k=>spec_l17IsName.l0 k s (i:Int)) (okFrom f s i):=by
  intro f
  induction f with
  | zero =>
   intro i h1 hi
   refine Ev.succ (Ev.congr (fun k=>?_) (Ev.now _))
   rw [spec_l17IsName.l0,if_neg (by omega)];rfl
  | succ f ih =>
   intro i h1 hi
   have hi' : i<s.size:=by omega
   have e1:wrap64 ((i:Int)+1)=((i+1:Nat):Int):=by rw [w64 (by omega) (by omega)];omega
   cases hok:okAt s i with
   | true =>
    rw [okFrom,hok,Bool.true_and]
    refine Ev.succ (Ev.congr (fun k=>?_) (ih (i+1) (by omega) (by omega)))
    rw [spec_l17IsName.l0,if_pos (by omega),if_pos (by omega),bt_gb s i hi',e1]
    simp only [okAt,Bool.or_eq_true,Bool.and_eq_true,decide_eq_true_eq] at hok
    repeat' split
    all_goals first|rfl|(exfalso;omega)
   | false =>
    rw [okFrom,hok,Bool.false_and]
    refine Ev.succ (Ev.congr (fun k=>?_) (Ev.now _))
    rw [spec_l17IsName.l0,if_pos (by omega),if_pos (by omega),bt_gb s i hi',e1]
    simp only [okAt,Bool.or_eq_false_iff,Bool.and_eq_false_iff,decide_eq_false_iff_not] at hok
    repeat' split
    all_goals first|rfl|(exfalso;omega)
 have hno:Ev (fun k=>spec_l17IsName.j0 k s true) false:=Ev.succ (Ev.congr (fun k=>by rw [spec_l17IsName.j0,if_pos rfl]) (Ev.now _))
 by_cases h1:(s.size:Int)<1
 ·
  refine Ev.congr (fun k=>by rw [spec_l17IsName.f,if_pos h1]) ?_
  have:nm s=false:=by unfold nm;rw [show decide (1≤s.size)=false from decide_eq_false (by omega)];rfl
  rw [this];exact hno
 ·
  by_cases h2:(s.size:Int)>20
  ·
   refine Ev.congr (fun k=>by rw [spec_l17IsName.f,if_neg h1,if_pos h2]) ?_
   have:nm s=false:=by unfold nm;rw [show decide (s.size≤20)=false from decide_eq_false (by omega),Bool.and_false];rfl
   rw [this];exact hno
  ·
   have e:nm s=(okAt s 0 && okFrom (s.size-1) s 1):=by
    unfold nm
    obtain ⟨n,hn⟩:∃ n,s.size=n+1:=⟨s.size-1,by omega⟩
    rw [hn,okFrom]
    have:decide (1≤n+1)=true:=by simp
    have h3:decide (n+1≤20)=true:=by simp;omega
    rw [this,h3];simp
   have b0:=bt_gb s 0 (by omega)
   simp only [Int.natCast_zero,Int.cast_ofNat_Int] at b0
   by_cases h3:bt s 0<97
   ·
    refine Ev.congr (fun k=>by rw [spec_l17IsName.f,if_neg h1,if_neg h2,if_pos (by omega),if_pos h3]) ?_
    have:nm s=false:=(by rw [e,show okAt s 0=false from by simp [okAt];omega];rfl)
    rw [this];exact hno
   ·
    refine Ev.congr (fun k=>by rw [spec_l17IsName.f,if_neg h1,if_neg h2,if_pos (by omega),if_neg h3]) ?_
    by_cases h4:bt s 0>122
    ·
     have:nm s=false:=(by rw [e,show okAt s 0=false from by simp [okAt];omega];rfl)
     rw [this,show decide (bt s 0>122)=true from decide_eq_true (by omega)];exact hno
    ·
     have:nm s=okFrom (s.size-1) s 1:=(by rw [e,show okAt s 0=true from by simp [okAt];omega];rfl)
     rw [this,show decide (bt s 0>122)=false from decide_eq_false (by omega)]
     refine Ev.succ (Ev.congr (fun k=>by rw [spec_l17IsName.j0,if_neg (by simp)]) ?_)
     exact key (s.size-1) 1 (by omega) (by omega)
def mkAt (l:List S56) (n:Int) (i:Nat):Bool:=nm (rd_T56 l (i:Int)).f0 && (decide (0≤(rd_T56 l (i:Int)).f1) && (decide ((rd_T56 l (i:Int)).f1≤n) && (decide (i=0) || Op.bytesLess ((rd_T56 l ((i-1:Nat):Int)).f0).toList ((rd_T56 l (i:Int)).f0).toList)))
def mkFrom:Nat→List S56→Int→Nat→Bool
 | 0,_,_,_=>true
 | f+1,l,n,i=>mkAt l n i && mkFrom f l n (i+1)
def mkOK (l:List S56) (n:Int):Bool:=mkFrom l.length l n 0 && decide (l.length≤100)
theorem rd_mem56 (l:List S56) (i:Nat) (h:i<l.length):rd_T56 l (i:Int) ∈ l:=by
 simp [rd_T56,List.getD_eq_getElem?_getD,List.getElem?_eq_getElem h]
theorem impl_marks (l:List S56) (n:Int) (hl:l.length≤1099511627776) (hs:∀ y ∈ l,y.f0.size≤1099511627776):Ev (fun k=>impl_marksRight.f k l n) (mkOK l n):=by
 have key:∀ (f i:Nat),i+f=l.length→Ev (fun k=>impl_marksRight.l0 k l n l (l.length:Int) (i:Int)) (mkFrom f l n i && decide (l.length≤100)):=by
  intro f
  induction f with
  | zero =>
   intro i hi
   refine Ev.succ (Ev.congr (fun k=>?_) (Ev.now _))
   rw [impl_marksRight.l0,if_neg (by omega),mkFrom,Bool.true_and]
   congr 1
   rw [decide_eq_decide];omega
  | succ f ih =>
   intro i hi
   have hi' : i<l.length:=by omega
   have e1:wrap64 ((i:Int)+1)=((i+1:Nat):Int):=by rw [w64 (by omega) (by omega)];omega
   have N:=impl_name (rd_T56 l (i:Int)).f0 (hs _ (rd_mem56 l i hi'))
   refine Ev.succ (Ev.congr (fun k=>by rw [impl_marksRight.l0,if_pos (by omega),if_pos (by omega),if_pos (by omega)]) (Ev.bind N ?_))
   rw [mkFrom,mkAt]
   cases hn:nm (rd_T56 l (i:Int)).f0 with
   | false=>exact Ev.congr (fun k=>by rw [if_neg (by simp)];rfl) (Ev.now _)
   | true =>
    refine Ev.congr (fun k=>by rw [if_pos rfl]) ?_
    by_cases h1:(rd_T56 l (i:Int)).f1<0
    ·
     rw [show decide (0≤(rd_T56 l (i:Int)).f1)=false from decide_eq_false (by omega)]
     exact Ev.congr (fun k=>by rw [if_pos h1];rfl) (Ev.now _)
    ·
     refine Ev.congr (fun k=>by rw [if_neg h1]) ?_
     rw [show decide (0≤(rd_T56 l (i:Int)).f1)=true from decide_eq_true (by omega)]
     by_cases h2:(rd_T56 l (i:Int)).f1>n
     ·
      rw [show decide ((rd_T56 l (i:Int)).f1≤n)=false from decide_eq_false (by omega)]
      exact Ev.congr (fun k=>by rw [if_pos h2];rfl) (Ev.now _)
     ·
      refine Ev.congr (fun k=>by rw [if_neg h2]) ?_
      rw [show decide ((rd_T56 l (i:Int)).f1≤n)=true from decide_eq_true (by omega)]
      by_cases h3:(i:Int)>0
      ·
       have e2:wrap64 ((i:Int)-1)=((i-1:Nat):Int):=by rw [w64 (by omega) (by omega)];omega
       refine Ev.congr (fun k=>by rw [if_pos h3,e2,if_pos (by omega),if_pos (by omega)]) ?_
       rw [show decide (i=0)=false from decide_eq_false (by omega)]
       cases hb:Op.bytesLess ((rd_T56 l ((i-1:Nat):Int)).f0).toList ((rd_T56 l (i:Int)).f0).toList with
       | false=>exact Ev.congr (fun k=>by rw [if_neg (by simp)];rfl) (Ev.now _)
       | true =>
        refine Ev.congr (fun k=>by rw [if_pos rfl,e1]) ?_
        have:=ih (i+1) (by omega)
        simpa using this
      ·
       refine Ev.congr (fun k=>by rw [if_neg h3,e1]) ?_
       rw [show decide (i=0)=true from decide_eq_true (by omega)]
       have:=ih (i+1) (by omega)
       simpa using this
 have:=key l.length 0 (by omega)
 exact Ev.congr (fun k=>rfl) this
def neAt (x y:List S30) (i:Nat):Bool:=(!((((rd_T30 x (i:Int)).f0).toList) == (((rd_T30 y (i:Int)).f0).toList)) || (!(((rd_T30 x (i:Int)).f1) == ((rd_T30 y (i:Int)).f1)) || (!(((rd_T30 x (i:Int)).f2) == ((rd_T30 y (i:Int)).f2)) || (!(((rd_T30 x (i:Int)).f3) == ((rd_T30 y (i:Int)).f3)) || (!(((rd_T30 x (i:Int)).f4) == ((rd_T30 y (i:Int)).f4)))))))
def eqFrom:Nat→List S30→List S30→Nat→Bool
 | 0,_,_,_=>true
 | f+1,x,y,i=>!(neAt x y i) && eqFrom f x y (i+1)
def eqAll (x y:List S30):Bool:=decide (x.length=y.length) && eqFrom x.length x y 0
theorem impl_nodes (x y:List S30) (hl:x.length≤1099511627776):Ev (fun k=>impl_RopeNode.f k x y) (eqAll x y):=by
 unfold eqAll
 by_cases hxy:x.length=y.length
 ·
  rw [show decide (x.length=y.length)=true from by simpa using hxy,Bool.true_and]
  refine Ev.congr (fun k=>by rw [impl_RopeNode.f,if_pos (by omega)]) (?_:Ev (fun k=>impl_RopeNode.l0 k x y (x.length:Int) 0) _)
  have key:∀ (f i:Nat),i+f=x.length→Ev (fun k=>impl_RopeNode.l0 k x y (x.length:Int) (i:Int)) (eqFrom f x y i):=by
   intro f
   induction f with
   | zero =>
    intro i hi
    refine Ev.succ (Ev.congr (fun k=>?_) (Ev.now _))
    rw [impl_RopeNode.l0,if_neg (by omega)];rfl
   | succ f ih =>
    intro i hi
    have e1:wrap64 ((i:Int)+1)=((i+1:Nat):Int):=by rw [w64 (by omega) (by omega)];omega
    rw [eqFrom]
    cases hn:neAt x y i with
    | true =>
     refine Ev.succ (Ev.congr (fun k=>?_) (Ev.now _))
     rw [impl_RopeNode.l0,if_pos (by omega),if_pos (by omega),if_pos (by omega),if_pos (by omega),if_pos (by have:=hn;unfold neAt at this;exact this)];rfl
    | false =>
     refine Ev.succ (Ev.congr (fun k=>?_) (ih (i+1) (by omega)))
     rw [impl_RopeNode.l0,if_pos (by omega),if_pos (by omega),if_pos (by omega),if_pos (by omega),if_neg (by have:=hn;unfold neAt at this;rw [this];simp),e1]
  exact key x.length 0 (by omega)
 ·
  rw [show decide (x.length=y.length)=false from by simpa using hxy,Bool.false_and]
  exact Ev.congr (fun k=>by rw [impl_RopeNode.f,if_neg (by omega)]) (Ev.now _)
def tree (s:ByteArray):List S30:=if s.size=0 then [] else bld s.size 0 s
def fault (l:List S30) (m:List S56):Int:=if 65536<(textOf l).size then 1 else if mkOK m ((textOf l).size:Int)=true∧eqAll (tree (textOf l)) l=true then 0 else 1
structure Small (l:List S30) (m:List S56):Prop where
 hl:l.length≤1048576
 ht:(ropeJoin l).length≤1048576
 hm:m.length≤1048576
 hn:∀ y ∈ m,y.f0.size≤1048576
theorem tree_len (s:ByteArray):(tree s).length≤2*s.size:=by
 unfold tree
 split
 ·
  simp
 ·
  have:=bld_len s.size 0 s (by omega)
  omega
theorem impl_of (s:ByteArray) (m:List S56) (hs:s.size≤1048576):Ev (fun k=>impl_ropeOf.f k s m) (tree s,m):=by
 unfold tree
 by_cases h:s.size=0
 ·
  rw [if_pos h]
  exact Ev.congr (fun k=>by rw [impl_ropeOf.f,if_pos ((toList_nil s).2 h)]) (Ev.now _)
 ·
  rw [if_neg h]
  have:=impl_tree s.size s [] (by omega) (by omega) (by omega) (by simp;omega)
  exact Ev.congr (fun k=>by rw [impl_ropeOf.f,if_neg (fun e=>h ((toList_nil s).1 e))]) (Ev.bind this (Ev.now _))
theorem spec_of (s:ByteArray) (hs:s.size≤1048576):Ev (fun k=>spec_l20Build.f k [] s) (tree s):=by
 unfold tree
 by_cases h:s.size=0
 ·
  rw [if_pos h]
  exact Ev.succ (Ev.congr (fun k=>by rw [spec_l20Build.f,if_pos ((toList_nil s).2 h)]) (Ev.now _))
 ·
  rw [if_neg h]
  have:=spec_build s.size s [] (by omega) (by omega) (by omega) (by simp;omega)
  exact this
theorem impl_fault (l:List S30) (m:List S56) (h:Small l m):Ev (fun k=>impl_RopeFault.f k l m) (fault l m):=by
 have hz:=textOf_size l
 have h1:=h.ht
 have h2:=h.hm
 have hn:=h.hn
 refine Ev.congr (fun k=>by rw [impl_RopeFault.f,impl_text l m (by omega),Option.bind_some,impl_long.f,Option.bind_some]) ?_
 unfold fault
 by_cases hL:65536<(textOf l).size
 ·
  rw [if_pos hL]
  exact Ev.congr (fun k=>by rw [if_pos (by simp;omega)]) (Ev.now _)
 ·
  rw [if_neg hL]
  refine Ev.congr (fun k=>by rw [if_neg (by simp;omega)]) (Ev.bind (impl_marks m ((textOf l).size:Int) (by omega) (fun y hy=>by have:=hn y hy;omega)) ?_)
  cases hm:mkOK m ((textOf l).size:Int) with
  | false=>exact Ev.congr (fun k=>by rw [if_neg (by simp),if_neg (by simp)]) (Ev.now _)
  | true =>
   have ht:=tree_len (textOf l)
   refine Ev.congr (fun k=>by rw [if_pos rfl]) (Ev.bind (impl_of (textOf l) [] (by omega)) (Ev.bind (impl_nodes (tree (textOf l)) l (by omega)) ?_))
   cases he:eqAll (tree (textOf l)) l with
   | false=>exact Ev.congr (fun k=>by rw [if_neg (by simp),if_neg (by simp)]) (Ev.now _)
   | true=>exact Ev.congr (fun k=>by rw [if_pos rfl,if_pos ⟨rfl,rfl⟩]) (Ev.now _)
theorem spec_fault (l:List S30) (m:List S56) (h:Small l m):Ev (fun k=>spec_RopeFault.f k l m) (fault l m):=by
 have hz:=textOf_size l
 have h0:=h.hl
 have h1:=h.ht
 have h2:=h.hm
 have hs:=h.hn
 have no:Ev (fun k=>spec_RopeFault.j0 k (textOf l) true l m) 1:=Ev.succ (Ev.congr (fun k=>by rw [spec_RopeFault.j0,if_pos rfl]) (Ev.now _))
 refine Ev.congr (fun k=>by rw [spec_RopeFault.f]) (Ev.bind (spec_text l (by omega) (by omega)) ?_)
 unfold fault
 by_cases hL:65536<(textOf l).size
 ·
  rw [if_pos hL]
  exact Ev.congr (fun k=>by rw [if_pos (by omega)]) no
 ·
  rw [if_neg hL]
  refine Ev.congr (fun k=>by rw [if_neg (by omega)]) ?_
  by_cases hC:(m.length:Int)>100
  ·
   rw [show decide ((m.length:Int)>100)=true from by simpa using hC,if_neg (by rintro ⟨h,_⟩;simp [mkOK] at h;omega)]
   exact no
  ·
   rw [show decide ((m.length:Int)>100)=false from by simpa using hC]
   have ht:=tree_len (textOf l)
   refine Ev.succ (Ev.congr (fun k=>by rw [spec_RopeFault.j0,if_neg (by simp)]) (Ev.bind (spec_of (textOf l) (by omega)) ?_))
   have hM:Ev (fun k=>spec_RopeFault.l1 k (textOf l) 0 l m) (if mkOK m ((textOf l).size:Int)=true then 0 else 1):=by
    have key:∀ (f i:Nat),i+f=m.length→Ev (fun k=>spec_RopeFault.l1 k (textOf l) (i:Int) l m) (if mkFrom f m ((textOf l).size:Int) i=true then 0 else 1):=by
     intro f
     induction f with
     | zero =>
      intro i hi
      refine Ev.succ (Ev.congr (fun k=>?_) (Ev.now _))
      rw [spec_RopeFault.l1,if_neg (by omega),mkFrom];rfl
     | succ f ih =>
      intro i hi
      have hi' : i<m.length:=by omega
      have e1:wrap64 ((i:Int)+1)=((i+1:Nat):Int):=by rw [w64 (by omega) (by omega)];omega
      have N:=spec_name (rd_T56 m (i:Int)).f0 (by have:=hs _ (rd_mem56 m i hi');omega)
      have K:Ev (fun k=>spec_l20Mark.f k ((rd_T56 m (i:Int)).f0) ((rd_T56 m (i:Int)).f1) ((rd_T56 m (i:Int)).f2) ((textOf l).size:Int)) (nm (rd_T56 m (i:Int)).f0 && (decide (0≤(rd_T56 m (i:Int)).f1) && decide ((rd_T56 m (i:Int)).f1≤((textOf l).size:Int)))):=by
       refine Ev.congr (fun k=>by rw [spec_l20Mark.f]) (Ev.bind N ?_)
       cases nm (rd_T56 m (i:Int)).f0 with
       | false=>exact Ev.congr (fun k=>by rw [if_neg (by simp)];rfl) (Ev.now _)
       | true =>
        refine Ev.congr (fun k=>by rw [if_pos rfl]) ?_
        by_cases h3:(rd_T56 m (i:Int)).f1≥0
        ·
         rw [show decide (0≤(rd_T56 m (i:Int)).f1)=true from decide_eq_true (by omega)]
         exact Ev.congr (fun k=>by rw [if_pos h3];rfl) (Ev.now _)
        ·
         rw [show decide (0≤(rd_T56 m (i:Int)).f1)=false from decide_eq_false (by omega)]
         exact Ev.congr (fun k=>by rw [if_neg h3];rfl) (Ev.now _)
      refine Ev.succ (Ev.congr (fun k=>by rw [spec_RopeFault.l1,if_pos (by omega),if_pos (by omega)]) (Ev.bind K ?_))
      rw [mkFrom,mkAt]
      cases hn:nm (rd_T56 m (i:Int)).f0 with
      | false=>exact Ev.congr (fun k=>by rw [if_neg (by simp),if_neg (by simp)]) (Ev.now _)
      | true =>
       by_cases h3:0≤(rd_T56 m (i:Int)).f1
       ·
        rw [show decide (0≤(rd_T56 m (i:Int)).f1)=true from by simpa using h3]
        by_cases h4:(rd_T56 m (i:Int)).f1≤((textOf l).size:Int)
        ·
         rw [show decide ((rd_T56 m (i:Int)).f1≤((textOf l).size:Int))=true from by simpa using h4]
         refine Ev.congr (fun k=>by rw [if_pos (show (true && (true && true))=true from rfl)]) ?_
         by_cases h5:(i:Int)>0
         ·
          have e2:wrap64 ((i:Int)-1)=((i-1:Nat):Int):=by rw [w64 (by omega) (by omega)];omega
          refine Ev.congr (fun k=>by rw [if_pos h5,e2,if_pos (by omega),if_pos (by omega)]) ?_
          rw [show decide (i=0)=false from decide_eq_false (by omega)]
          cases hb:Op.bytesLess ((rd_T56 m ((i-1:Nat):Int)).f0).toList ((rd_T56 m (i:Int)).f0).toList with
          | false=>exact Ev.congr (fun k=>by rw [if_neg (by simp),if_neg (by simp)]) (Ev.now _)
          | true =>
           refine Ev.congr (fun k=>by rw [if_pos rfl,e1]) ?_
           have:=ih (i+1) (by omega)
           simpa using this
         ·
          refine Ev.congr (fun k=>by rw [if_neg h5,e1]) ?_
          rw [show decide (i=0)=true from decide_eq_true (by omega)]
          have:=ih (i+1) (by omega)
          simpa using this
        ·
         rw [show decide ((rd_T56 m (i:Int)).f1≤((textOf l).size:Int))=false from by simpa using h4]
         exact Ev.congr (fun k=>by rw [if_neg (by simp),if_neg (by simp)]) (Ev.now _)
       ·
        rw [show decide (0≤(rd_T56 m (i:Int)).f1)=false from by simpa using h3]
        exact Ev.congr (fun k=>by rw [if_neg (by simp),if_neg (by simp)]) (Ev.now _)
    have:=key m.length 0 (by omega)
    rw [mkOK,show decide (m.length≤100)=true from by simp;omega,Bool.and_true]
    exact this
   unfold eqAll
   by_cases hxy:(tree (textOf l)).length=l.length
   ·
    refine Ev.congr (fun k=>by rw [if_pos (by omega)]) ?_
    rw [show decide ((tree (textOf l)).length=l.length)=true from by simpa using hxy,Bool.true_and]
    have key:∀ (f i:Nat),i+f=(tree (textOf l)).length→Ev (fun k=>spec_RopeFault.l0 k (textOf l) (tree (textOf l)) (i:Int) l m) (if mkOK m ((textOf l).size:Int)=true∧eqFrom f (tree (textOf l)) l i=true then 0 else 1):=by
     intro f
     induction f with
     | zero =>
      intro i hi
      refine Ev.succ (Ev.congr (fun k=>by rw [spec_RopeFault.l0,if_neg (by omega)]) ?_)
      simpa [eqFrom] using hM
     | succ f ih =>
      intro i hi
      have e1:wrap64 ((i:Int)+1)=((i+1:Nat):Int):=by rw [w64 (by omega) (by omega)];omega
      rw [eqFrom]
      cases hn:neAt (tree (textOf l)) l i with
      | true =>
       refine Ev.succ (Ev.congr (fun k=>?_) (Ev.now _))
       rw [spec_RopeFault.l0,if_pos (by omega),if_pos (by omega),if_pos (by omega),if_pos (by have:=hn;unfold neAt at this;exact this),if_neg (by simp)]
      | false =>
       have:=ih (i+1) (by omega)
       refine Ev.succ (Ev.congr (fun k=>?_) (by simpa using this))
       rw [spec_RopeFault.l0,if_pos (by omega),if_pos (by omega),if_pos (by omega),if_neg (by have:=hn;unfold neAt at this;rw [this];simp),e1]
       rfl
    exact key _ 0 (by omega)
   ·
    refine Ev.congr (fun k=>by rw [if_neg (by omega)]) ?_
    rw [show decide ((tree (textOf l)).length=l.length)=false from by simpa using hxy,Bool.false_and,if_neg (by simp)]
    exact Ev.now _
def toN (y:S122):S30:=⟨y.f0,y.f1,y.f2,y.f3,y.f4⟩
def toM (y:S124):S56:=⟨y.f0,y.f1,y.f2⟩
theorem rd122 (l:List S122) (i:Nat) (h:i<l.length):rd_T122 l (i:Int)=l[i]:=by simp [rd_T122,List.getD_eq_getElem?_getD,List.getElem?_eq_getElem h]
theorem rd124 (l:List S124) (i:Nat) (h:i<l.length):rd_T124 l (i:Int)=l[i]:=by simp [rd_T124,List.getD_eq_getElem?_getD,List.getElem?_eq_getElem h]
theorem set_step {α β:Type} (g:α→β) (z:β) (l:List α) (i:Nat) (h:i<l.length) (y:β) (hy:y=g l[i]) :
  (((l.take i).map g) ++ List.replicate (l.length-i) z).set i y=((l.take (i+1)).map g) ++ List.replicate (l.length-(i+1)) z:=by
 subst hy
 have hz:((l.take i).map g).length=i:=by simp;omega
 have e:l.length-i=(l.length-(i+1))+1:=by omega
 rw [List.take_succ_eq_append_getElem h,List.map_append,List.append_assoc,e,List.replicate_succ]
 rw [List.set_append_right _ _ (by omega),hz,Nat.sub_self]
 rfl
theorem toNodes (l:List S122) (h:l.length≤1048576):Ev (fun k=>laws_toRopeNodeS.f k l) (l.map toN):=by
 have key:∀ (f i:Nat),i+f=l.length→Ev (fun k=>laws_toRopeNodeS.l0 k l (((l.take i).map toN) ++ List.replicate (l.length-i) z30) (i:Int)) (l.map toN):=by
  intro f
  induction f with
  | zero =>
   intro i hi
   refine Ev.succ (Ev.congr (fun k=>?_) (Ev.now _))
   rw [laws_toRopeNodeS.l0,if_neg (by omega),List.take_of_length_le (by omega),show l.length-i=0 from by omega];simp
  | succ f ih =>
   intro i hi
   have e1:wrap64 ((i:Int)+1)=((i+1:Nat):Int):=by rw [w64 (by omega) (by omega)];omega
   refine Ev.succ (Ev.congr (fun k=>?_) (ih (i+1) (by omega)))
   rw [laws_toRopeNodeS.l0,if_pos (by omega),if_pos (by omega)]
   simp only [laws_toRopeNode.f,Option.bind_some]
   rw [if_pos (by simp;omega),e1,Int.toNat_natCast,set_step toN z30 l i (by omega) _ (by rw [rd122 l i (by omega)];rfl)]
 have:=key l.length 0 (by omega)
 refine Ev.congr (fun k=>?_) this
 rw [laws_toRopeNodeS.f,if_pos (by omega),if_pos (by omega)]
 simp
theorem toMarks (l:List S124) (h:l.length≤1048576):Ev (fun k=>laws_toMarkS.f k l) (l.map toM):=by
 have key:∀ (f i:Nat),i+f=l.length→Ev (fun k=>laws_toMarkS.l0 k l (((l.take i).map toM) ++ List.replicate (l.length-i) z56) (i:Int)) (l.map toM):=by
  intro f
  induction f with
  | zero =>
   intro i hi
   refine Ev.succ (Ev.congr (fun k=>?_) (Ev.now _))
   rw [laws_toMarkS.l0,if_neg (by omega),List.take_of_length_le (by omega),show l.length-i=0 from by omega];simp
  | succ f ih =>
   intro i hi
   have e1:wrap64 ((i:Int)+1)=((i+1:Nat):Int):=by rw [w64 (by omega) (by omega)];omega
   refine Ev.succ (Ev.congr (fun k=>?_) (ih (i+1) (by omega)))
   rw [laws_toMarkS.l0,if_pos (by omega),if_pos (by omega)]
   simp only [laws_toMark.f,Option.bind_some]
   rw [if_pos (by simp;omega),e1,Int.toNat_natCast,set_step toM z56 l i (by omega) _ (by rw [rd124 l i (by omega)];rfl)]
 have:=key l.length 0 (by omega)
 refine Ev.congr (fun k=>?_) this
 rw [laws_toMarkS.f,if_pos (by omega),if_pos (by omega)]
 simp
theorem toRope_ev (l:List S122) (m:List S124) (h:l.length≤1048576) (h' : m.length≤1048576):Ev (fun k=>laws_toRope.f k l m) (l.map toN,m.map toM) :=
 Ev.congr (fun k=>by rw [laws_toRope.f]) (Ev.bind (toNodes l h) (Ev.bind (f:=fun _ t=>some (l.map toN,t)) (toMarks m h') (Ev.now _)))
theorem eqNodes (x:List S30) (h:x.length≤1048576):Ev (fun k=>laws_eqRopeNodeS.f k x x) true:=by
 have key:∀ (f i:Nat),i+f=x.length→Ev (fun k=>laws_eqRopeNodeS.l0 k x x (i:Int)) true:=by
  intro f
  induction f with
  | zero =>
   intro i hi
   refine Ev.succ (Ev.congr (fun k=>?_) (Ev.now _))
   rw [laws_eqRopeNodeS.l0,if_neg (by omega)]
  | succ f ih =>
   intro i hi
   have e1:wrap64 ((i:Int)+1)=((i+1:Nat):Int):=by rw [w64 (by omega) (by omega)];omega
   refine Ev.succ (Ev.congr (fun k=>?_) (ih (i+1) (by omega)))
   rw [laws_eqRopeNodeS.l0,if_pos (by omega),if_pos (by omega),if_pos (by omega)]
   simp only [laws_eqRopeNode.f,if_true,Option.bind_some]
   rw [e1]
 refine Ev.congr (fun k=>?_) (key x.length 0 (by omega))
 rw [laws_eqRopeNodeS.f,if_pos rfl];rfl
theorem eqMarks (x:List S56) (h:x.length≤1048576):Ev (fun k=>laws_eqMarkS.f k x x) true:=by
 have key:∀ (f i:Nat),i+f=x.length→Ev (fun k=>laws_eqMarkS.l0 k x x (i:Int)) true:=by
  intro f
  induction f with
  | zero =>
   intro i hi
   refine Ev.succ (Ev.congr (fun k=>?_) (Ev.now _))
   rw [laws_eqMarkS.l0,if_neg (by omega)]
  | succ f ih =>
   intro i hi
   have e1:wrap64 ((i:Int)+1)=((i+1:Nat):Int):=by rw [w64 (by omega) (by omega)];omega
   refine Ev.succ (Ev.congr (fun k=>?_) (ih (i+1) (by omega)))
   rw [laws_eqMarkS.l0,if_pos (by omega),if_pos (by omega),if_pos (by omega)]
   simp only [laws_eqMark.f,if_true,bne_self_eq_false,Bool.false_eq_true,if_false,Option.bind_some]
   rw [e1]
 refine Ev.congr (fun k=>?_) (key x.length 0 (by omega))
 rw [laws_eqMarkS.f,if_pos rfl];rfl
theorem eqRope_ev (x:List S30) (y:List S56) (h:x.length≤1048576) (h' : y.length≤1048576):Ev (fun k=>laws_eqRope.f k x y x y) true :=
 Ev.congr (fun k=>by rw [laws_eqRope.f]) (Ev.bind (eqNodes x h) (Ev.congr (fun k=>by rw [if_pos rfl]) (Ev.bind (eqMarks y h') (Ev.congr (fun k=>by rw [if_pos rfl]) (Ev.now _)))))
def sumN (l:List S122):Nat:=(l.map fun y=>y.f0.size).sum
def sumM (l:List S124):Nat:=(l.map fun y=>y.f0.size).sum
theorem szNodes (l:List S122) (a:Int) (ha:0≤a∧a≤1048576) (hl:l.length≤9223372036854775807) (hg:∀ y ∈ l,y.f0.size≤9223372036854775807) :
  Ev (fun k=>laws_szRopeNodeS.f k l a) (if a-(l.length:Int)-(sumN l:Int)<0 then -1 else a-(l.length:Int)-(sumN l:Int)):=by
 have e0:wrap64 (a-(l.length:Int))=a-(l.length:Int):=w64 (by omega) (by omega)
 by_cases h0:a-(l.length:Int)<0
 ·
  rw [if_pos (by omega)]
  exact Ev.congr (fun k=>by rw [laws_szRopeNodeS.f,e0,if_pos h0]) (Ev.now _)
 ·
  refine Ev.congr (fun k=>by rw [laws_szRopeNodeS.f,e0,if_neg h0]) (?_:Ev (fun k=>laws_szRopeNodeS.l0 k l (a-(l.length:Int)) 0) _)
  have key:∀ (f i:Nat) (b:Int),i+f=l.length→0≤b→b≤1048576→Ev (fun k=>laws_szRopeNodeS.l0 k l b (i:Int)) (if b-(sumN (l.drop i):Int)<0 then -1 else b-(sumN (l.drop i):Int)):=by
   intro f
   induction f with
   | zero =>
    intro i b hi hb hb'
    rw [List.drop_of_length_le (by omega)]
    refine Ev.succ (Ev.congr (fun k=>?_) (Ev.now _))
    rw [laws_szRopeNodeS.l0,if_neg (by omega)]
    simp [sumN];omega
   | succ f ih =>
    intro i b hi hb hb'
    have hi' : i<l.length:=by omega
    have e1:wrap64 ((i:Int)+1)=((i+1:Nat):Int):=by rw [w64 (by omega) (by omega)];omega
    have hs:=hg l[i] (List.getElem_mem hi')
    have e2:wrap64 (b-(l[i].f0.size:Int))=b-(l[i].f0.size:Int):=w64 (by omega) (by omega)
    have e3:sumN (l.drop i)=l[i].f0.size+sumN (l.drop (i+1)):=by rw [List.drop_eq_getElem_cons hi'];simp only [sumN,List.map_cons,List.sum_cons]
    rw [e3]
    by_cases h1:b-(l[i].f0.size:Int)<0
    ·
     rw [if_pos (by omega)]
     refine Ev.succ (Ev.congr (fun k=>?_) (Ev.now _))
     rw [laws_szRopeNodeS.l0,if_pos (by omega),if_pos (by omega),rd122 l i hi',laws_szRopeNode.f,e2,if_pos h1,Option.bind_some,if_pos (by decide)]
    ·
     have:=ih (i+1) (b-(l[i].f0.size:Int)) (by omega) (by omega) (by omega)
     rw [show b-(l[i].f0.size:Int)-(sumN (l.drop (i+1)):Int)=b-((l[i].f0.size+sumN (l.drop (i+1)):Nat):Int) from by omega] at this
     refine Ev.succ (Ev.congr (fun k=>?_) this)
     rw [laws_szRopeNodeS.l0,if_pos (by omega),if_pos (by omega),rd122 l i hi',laws_szRopeNode.f,e2,if_neg h1,Option.bind_some,if_neg h1,e1]
  have:=key l.length 0 (a-(l.length:Int)) (by omega) (by omega) (by omega)
  simpa using this
theorem szMarks (l:List S124) (a:Int) (ha:0≤a∧a≤1048576) (hl:l.length≤9223372036854775807) (hg:∀ y ∈ l,y.f0.size≤9223372036854775807) :
  Ev (fun k=>laws_szMarkS.f k l a) (if a-(l.length:Int)-(sumM l:Int)<0 then -1 else a-(l.length:Int)-(sumM l:Int)):=by
 have e0:wrap64 (a-(l.length:Int))=a-(l.length:Int):=w64 (by omega) (by omega)
 by_cases h0:a-(l.length:Int)<0
 ·
  rw [if_pos (by omega)]
  exact Ev.congr (fun k=>by rw [laws_szMarkS.f,e0,if_pos h0]) (Ev.now _)
 ·
  refine Ev.congr (fun k=>by rw [laws_szMarkS.f,e0,if_neg h0]) (?_:Ev (fun k=>laws_szMarkS.l0 k l (a-(l.length:Int)) 0) _)
  have key:∀ (f i:Nat) (b:Int),i+f=l.length→0≤b→b≤1048576→Ev (fun k=>laws_szMarkS.l0 k l b (i:Int)) (if b-(sumM (l.drop i):Int)<0 then -1 else b-(sumM (l.drop i):Int)):=by
   intro f
   induction f with
   | zero =>
    intro i b hi hb hb'
    rw [List.drop_of_length_le (by omega)]
    refine Ev.succ (Ev.congr (fun k=>?_) (Ev.now _))
    rw [laws_szMarkS.l0,if_neg (by omega)]
    simp [sumM];omega
   | succ f ih =>
    intro i b hi hb hb'
    have hi' : i<l.length:=by omega
    have e1:wrap64 ((i:Int)+1)=((i+1:Nat):Int):=by rw [w64 (by omega) (by omega)];omega
    have hs:=hg l[i] (List.getElem_mem hi')
    have e2:wrap64 (b-(l[i].f0.size:Int))=b-(l[i].f0.size:Int):=w64 (by omega) (by omega)
    have e3:sumM (l.drop i)=l[i].f0.size+sumM (l.drop (i+1)):=by rw [List.drop_eq_getElem_cons hi'];simp only [sumM,List.map_cons,List.sum_cons]
    rw [e3]
    by_cases h1:b-(l[i].f0.size:Int)<0
    ·
     rw [if_pos (by omega)]
     refine Ev.succ (Ev.congr (fun k=>?_) (Ev.now _))
     rw [laws_szMarkS.l0,if_pos (by omega),if_pos (by omega),rd124 l i hi',laws_szMark.f,e2,if_pos h1,Option.bind_some,if_pos (by decide)]
    ·
     have:=ih (i+1) (b-(l[i].f0.size:Int)) (by omega) (by omega) (by omega)
     rw [show b-(l[i].f0.size:Int)-(sumM (l.drop (i+1)):Int)=b-((l[i].f0.size+sumM (l.drop (i+1)):Nat):Int) from by omega] at this
     refine Ev.succ (Ev.congr (fun k=>?_) this)
     rw [laws_szMarkS.l0,if_pos (by omega),if_pos (by omega),rd124 l i hi',laws_szMark.f,e2,if_neg h1,Option.bind_some,if_neg h1,e1]
  have:=key l.length 0 (a-(l.length:Int)) (by omega) (by omega) (by omega)
  simpa using this
theorem szRope_ev (l:List S122) (m:List S124) (hl:l.length≤9223372036854775807) (hg:∀ y ∈ l,y.f0.size≤9223372036854775807) (hl' : m.length≤9223372036854775807) (hg' : ∀ y ∈ m,y.f0.size≤9223372036854775807) :
  Ev (fun k=>laws_szRope.f k l m 1048576) (-1)∨(∃ c,0≤c∧c≤1048576∧Ev (fun k=>laws_szRope.f k l m 1048576) c)∧l.length+sumN l+m.length+sumM m≤1048576:=by
 have A:=szNodes l 1048576 (by omega) hl hg
 by_cases h1:(1048576:Int)-(l.length:Int)-(sumN l:Int)<0
 ·
  rw [if_pos h1] at A
  exact .inl (Ev.congr (fun k=>by rw [laws_szRope.f]) (Ev.bind A (Ev.congr (fun k=>by rw [if_pos (by decide)]) (Ev.now _))))
 ·
  rw [if_neg h1] at A
  have B:=szMarks m ((1048576:Int)-(l.length:Int)-(sumN l:Int)) (by omega) hl' hg'
  by_cases h2:(1048576:Int)-(l.length:Int)-(sumN l:Int)-(m.length:Int)-(sumM m:Int)<0
  ·
   rw [if_pos h2] at B
   exact .inl (Ev.congr (fun k=>by rw [laws_szRope.f]) (Ev.bind A (Ev.congr (fun k=>by rw [if_neg h1]) (Ev.bind B (Ev.congr (fun k=>by rw [if_pos (by decide)]) (Ev.now _))))))
  ·
   rw [if_neg h2] at B
   refine .inr ⟨⟨(1048576:Int)-(l.length:Int)-(sumN l:Int)-(m.length:Int)-(sumM m:Int),by omega,?_,(Ev.congr (fun k=>by rw [laws_szRope.f]) (Ev.bind A (Ev.congr (fun k=>by rw [if_neg h1]) (Ev.bind B (Ev.congr (fun k=>by rw [if_neg h2]) (Ev.now _))))))⟩,?_⟩ <;> omega
theorem join_sum (l:List S122):(ropeJoin (l.map toN)).length=sumN l:=by
 simp [ropeJoin,sumN,List.length_flatMap,toN]
 rfl
theorem le_sumM (l:List S124):∀ y ∈ l,y.f0.size≤sumM l:=by
 induction l with
 | nil=>intro y hy;cases hy
 | cons a l ih =>
  intro y hy
  have e:sumM (a :: l)=a.f0.size+sumM l:=by simp only [sumM,List.map_cons,List.sum_cons]
  rcases List.mem_cons.1 hy with rfl|hy
  ·
   omega
  ·
   have:=ih y hy;omega
theorem small_of (l:List S122) (m:List S124) (h:l.length+sumN l+m.length+sumM m≤1048576):Small (l.map toN) (m.map toM) where
 hl:=by simp;omega
 ht:=by rw [join_sum];omega
 hm:=by simp;omega
 hn:=by
  intro y hy
  obtain ⟨x,hx,rfl⟩:=List.mem_map.1 hy
  have:=le_sumM m x hx
  show x.f0.size≤1048576
  omega
def mvA (s a d p:Int) (st:Bool):Int :=
 if s≥wrap64 (a+d) then (if s=a∧d=0∧st=true then s else wrap64 (s+wrap64 (p-d))) else if s>a then (if st=true then a else wrap64 (a+p)) else s
def mv (a d p:Int) (y:S56):S56:=⟨y.f0,mvA y.f1 a d p y.f2,y.f2⟩
theorem half_rd {α:Type} (g:α→α) (z:α) (l:List α) (i:Nat) (h:i<l.length):((l.take i).map g ++ l.drop i).getD i z=l[i]:=by
 have hz:((l.take i).map g).length=i:=by simp;omega
 rw [List.getD_eq_getElem?_getD,List.getElem?_append_right (by omega),hz,Nat.sub_self,List.drop_eq_getElem_cons h]
 rfl
theorem half_set {α:Type} (g:α→α) (l:List α) (i:Nat) (h:i<l.length) (y:α) (hy:y=g l[i]):((l.take i).map g ++ l.drop i).set i y=(l.take (i+1)).map g ++ l.drop (i+1):=by
 subst hy
 have hz:((l.take i).map g).length=i:=by simp;omega
 rw [List.take_succ_eq_append_getElem h,List.map_append,List.append_assoc,List.set_append_right _ _ (by omega),hz,Nat.sub_self,List.drop_eq_getElem_cons h]
 rfl
theorem half_same {α:Type} (g:α→α) (l:List α) (i:Nat) (h:i<l.length) (hy:l[i]=g l[i]):(l.take i).map g ++ l.drop i=(l.take (i+1)).map g ++ l.drop (i+1):=by
 rw [List.take_succ_eq_append_getElem h,List.map_append,List.append_assoc,List.drop_eq_getElem_cons h]
 simp [← hy]
theorem move_ev (l:List S56) (a d p:Int) (hl:l.length≤1048576):Ev (fun k=>impl_move.f k l a d p) (l.map (mv a d p)):=by
 have key:∀ (f i:Nat),i+f=l.length→Ev (fun k=>impl_move.l0 k ((l.take i).map (mv a d p) ++ l.drop i) a d p (l.length:Int) (i:Int)) (l.map (mv a d p)):=by
  intro f
  induction f with
  | zero =>
   intro i hi
   refine Ev.succ (Ev.congr (fun k=>?_) (Ev.now _))
   rw [impl_move.l0,if_neg (by omega),List.take_of_length_le (by omega),List.drop_of_length_le (by omega),List.append_nil]
  | succ f ih =>
   intro i hi
   have hi' : i<l.length:=by omega
   have e1:wrap64 ((i:Int)+1)=((i+1:Nat):Int):=by rw [w64 (by omega) (by omega)];omega
   have hr:rd_T56 ((l.take i).map (mv a d p) ++ l.drop i) (i:Int)=l[i]:=by
    unfold rd_T56;rw [Int.toNat_natCast];exact half_rd _ _ l i hi'
   refine Ev.succ (Ev.congr (fun k=>?_) (ih (i+1) (by omega)))
   rw [impl_move.l0,if_pos (by omega),if_pos (by omega),if_pos (by simp;omega),hr,e1,Int.toNat_natCast]
   have S:∀ v:Int,v=mvA l[i].f1 a d p l[i].f2→((l.take i).map (mv a d p) ++ l.drop i).set i (⟨l[i].f0,v,l[i].f2⟩:S56)=(l.take (i+1)).map (mv a d p) ++ l.drop (i+1):=by
    intro v hv
    exact half_set _ l i hi' _ (by rw [hv];rfl)
   have U:l[i].f1=mvA l[i].f1 a d p l[i].f2→(l.take i).map (mv a d p) ++ l.drop i=(l.take (i+1)).map (mv a d p) ++ l.drop (i+1):=by
    intro hv
    exact half_same _ l i hi' (by unfold mv;rw [← hv])
   unfold mvA at S U
   by_cases h1:l[i].f1≥wrap64 (a+d)
   ·
    rw [if_pos h1]
    by_cases h2:l[i].f1=a∧d=0∧l[i].f2=true
    ·
     rw [if_pos h2.1,if_pos h2.2.1,if_pos h2.2.2,← U (by rw [if_pos h1,if_pos h2])]
    ·
     rw [← S _ (by rw [if_pos h1,if_neg h2])]
     repeat' split
     all_goals first|rfl|(exfalso;exact h2 ⟨by assumption,by assumption,by assumption⟩)
   ·
    rw [if_neg h1]
    by_cases h2:l[i].f1>a
    ·
     rw [if_pos h2]
     by_cases h3:l[i].f2=true
     ·
      rw [if_pos h3,S _ (by rw [if_neg h1,if_pos h2,if_pos h3])]
     ·
      rw [if_neg h3,S _ (by rw [if_neg h1,if_pos h2,if_neg h3])]
    ·
     rw [if_neg h2,← U (by rw [if_neg h1,if_neg h2])]
 refine Ev.congr (fun k=>?_) (key l.length 0 (by omega))
 rw [impl_move.f,impl_Mark.f,if_pos (by omega),Option.bind_some]
 simp
theorem moved_ev (f0:ByteArray) (s a d:Int) (st:Bool) (t:ByteArray):Ev (fun k=>spec_l20Moved.f k f0 s st a d t) (mvA s a d (t.size:Int) st):=by
 have hw:wrap64 (wrap64 (s+(t.size:Int))-d)=wrap64 (s+wrap64 ((t.size:Int)-d)):=by unfold wrap64;omega
 have hj:∀ b:Bool,(b=true ↔ s=a∧d=0∧st=true)→Ev (fun k=>spec_l20Moved.j0 k (wrap64 (a+d)) b f0 s st a d t) (mvA s a d (t.size:Int) st):=by
  intro b hb
  unfold mvA
  refine Ev.succ (Ev.congr (fun k=>by rw [spec_l20Moved.j0]) ?_)
  by_cases h1:b=true
  ·
   have h2:=hb.1 h1
   have h3:s≥wrap64 (a+d)∨¬ s≥wrap64 (a+d):=by omega
   refine Ev.congr (fun k=>by rw [if_pos h1]) ?_
   rcases h3 with h3|h3
   ·
    rw [if_pos h3,if_pos h2];exact Ev.now _
   ·
    rw [if_neg h3,if_neg (by omega)];exact Ev.now _
  ·
   have h2:¬ (s=a∧d=0∧st=true):=fun h=>h1 (hb.2 h)
   refine Ev.congr (fun k=>by rw [if_neg h1]) ?_
   by_cases h3:s≥wrap64 (a+d)
   ·
    rw [if_pos h3,if_neg h2]
    exact Ev.congr (fun k=>by rw [if_pos h3,hw]) (Ev.now _)
   ·
    rw [if_neg h3]
    refine Ev.congr (fun k=>by rw [if_neg h3]) ?_
    by_cases h4:s>a
    ·
     rw [if_pos h4]
     refine Ev.congr (fun k=>by rw [if_pos h4]) (Ev.succ (Ev.congr (fun k=>by rw [spec_l20Moved.j1]) ?_))
     by_cases h5:st=true
     ·
      rw [if_pos h5];exact Ev.congr (fun k=>by rw [if_pos h5]) (Ev.now _)
     ·
      rw [if_neg h5];exact Ev.congr (fun k=>by rw [if_neg h5,if_pos h4]) (Ev.now _)
    ·
     rw [if_neg h4]
     exact Ev.congr (fun k=>by rw [if_neg h4]) (Ev.succ (Ev.congr (fun k=>by rw [spec_l20Moved.j1,if_neg (by simp),if_neg h4]) (Ev.now _)))
 by_cases h1:s=a
 ·
  by_cases h2:d=0
  ·
   refine Ev.congr (fun k=>by rw [spec_l20Moved.f,if_pos h1,if_pos h2]) (hj st ⟨fun h=>⟨h1,h2,h⟩,fun h=>h.2.2⟩)
  ·
   refine Ev.congr (fun k=>by rw [spec_l20Moved.f,if_pos h1,if_neg h2]) (hj false ⟨fun h=>absurd h (by simp),fun h=>absurd h.2.1 h2⟩)
 ·
  refine Ev.congr (fun k=>by rw [spec_l20Moved.f,if_neg h1]) (hj false ⟨fun h=>absurd h (by simp),fun h=>absurd h.1 h1⟩)
def ed:Nat→List S54→ByteArray→List S56→Nat→Int × List S30 × List S56
 | 0,_,s,m,_=>(0,tree s,m)
 | f+1,l,s,m,i =>
  if (rd_T54 l (i:Int)).f0<0∨(rd_T54 l (i:Int)).f0>(s.size:Int)∨(rd_T54 l (i:Int)).f1<0∨(rd_T54 l (i:Int)).f1>(s.size:Int)-(rd_T54 l (i:Int)).f0 then (5,[],[])
  else if (s.size:Int)-(rd_T54 l (i:Int)).f1+((rd_T54 l (i:Int)).f2.size:Int)>65536 then (8,[],[])
  else ed f l ((s.extract 0 (rd_T54 l (i:Int)).f0.toNat ++ (rd_T54 l (i:Int)).f2) ++ s.extract ((rd_T54 l (i:Int)).f0+(rd_T54 l (i:Int)).f1).toNat s.size) (m.map (mv (rd_T54 l (i:Int)).f0 (rd_T54 l (i:Int)).f1 ((rd_T54 l (i:Int)).f2.size:Int))) (i+1)
theorem rd54_mem (l:List S54) (i:Nat) (h:i<l.length):rd_T54 l (i:Int) ∈ l:=by
 simp [rd_T54,List.getD_eq_getElem?_getD,List.getElem?_eq_getElem h]
theorem ed_size (s p:ByteArray) (a d:Int) (h1:0≤a) (h2:a≤(s.size:Int)) (h3:0≤d) (h4:d≤(s.size:Int)-a):(((s.extract 0 a.toNat ++ p) ++ s.extract (a+d).toNat s.size).size:Int)=(s.size:Int)-d+(p.size:Int):=by
 rw [ByteArray.size_append,ByteArray.size_append,ByteArray.size_extract,ByteArray.size_extract]
 omega
theorem impl_edits (l:List S54) (hl:l.length≤1048576) (hp:∀ e ∈ l,e.f2.size≤1048576):∀ (f i:Nat) (s:ByteArray) (m:List S56),i+f=l.length→s.size≤65536→m.length≤1048576 →
  Ev (fun k=>impl_EditRope.l0 k s m l (l.length:Int) (i:Int)) (ed f l s m i):=by
 intro f
 induction f with
 | zero =>
  intro i s m hi hs hm
  exact Ev.succ (Ev.congr (fun k=>by rw [impl_EditRope.l0,if_neg (by omega)]) (Ev.bind (impl_of s m (by omega)) (Ev.now _)))
 | succ f ih =>
  intro i s m hi hs hm
  have hi' : i<l.length:=by omega
  have hz:=hp _ (rd54_mem l i hi')
  have e1:wrap64 ((i:Int)+1)=((i+1:Nat):Int):=by rw [w64 (by omega) (by omega)];omega
  rw [ed]
  obtain ⟨e,he⟩:∃ e,rd_T54 l (i:Int)=e:=⟨_,rfl⟩
  rw [he] at hz ⊢
  have J:∀ b:Bool,(b=true ↔ (e.f0<0∨e.f0>(s.size:Int)∨e.f1<0∨e.f1>(s.size:Int)-e.f0))→Ev (fun k=>impl_EditRope.j1 k s m l (l.length:Int) (i:Int) b e.f0 e.f1 e.f2) (if e.f0<0∨e.f0>(s.size:Int)∨e.f1<0∨e.f1>(s.size:Int)-e.f0 then (5,[],[])
    else if (s.size:Int)-e.f1+(e.f2.size:Int)>65536 then (8,[],[])
    else ed f l ((s.extract 0 e.f0.toNat ++ e.f2) ++ s.extract (e.f0+e.f1).toNat s.size) (m.map (mv e.f0 e.f1 (e.f2.size:Int))) (i+1)):=by
   intro b hb
   by_cases hbad:e.f0<0∨e.f0>(s.size:Int)∨e.f1<0∨e.f1>(s.size:Int)-e.f0
   ·
    rw [if_pos hbad]
    exact Ev.succ (Ev.congr (fun k=>by rw [impl_EditRope.j1,if_pos (hb.2 hbad)]) (Ev.now _))
   ·
    rw [if_neg hbad]
    have g0:0≤e.f0∧e.f0≤(s.size:Int)∧0≤e.f1∧e.f1≤(s.size:Int)-e.f0:=by omega
    have hw:wrap64 (e.f0+e.f1)=e.f0+e.f1:=w64 (by omega) (by omega)
    have hsz:=ed_size s e.f2 e.f0 e.f1 g0.1 g0.2.1 g0.2.2.1 g0.2.2.2
    have s1:(s.extract 0 e.f0.toNat).size≤s.size:=by rw [ByteArray.size_extract];omega
    have s2:(s.extract 0 e.f0.toNat ++ e.f2).size=(s.extract 0 e.f0.toNat).size+e.f2.size:=ByteArray.size_append
    have s3:(s.extract (e.f0+e.f1).toNat s.size).size≤s.size:=by rw [ByteArray.size_extract];omega
    refine Ev.succ (Ev.congr (fun k=>by rw [impl_EditRope.j1,if_neg (fun h=>hbad (hb.1 h)),if_pos g0.1,if_pos g0.2.1,if_pos (by omega),hw,if_pos (by omega),if_pos (by omega),if_pos (by omega),impl_long.f,Option.bind_some]) ?_)
    by_cases hL:(s.size:Int)-e.f1+(e.f2.size:Int)>65536
    ·
     rw [if_pos hL]
     exact Ev.congr (fun k=>by rw [if_pos (decide_eq_true (by omega))]) (Ev.now _)
    ·
     rw [if_neg hL]
     refine Ev.congr (fun k=>by rw [if_neg (by rw [decide_eq_true_eq];omega)]) (Ev.bind (move_ev m e.f0 e.f1 (e.f2.size:Int) hm) ?_)
     exact Ev.congr (fun k=>by rw [e1]) (ih (i+1) _ _ (by omega) (by omega) (by simpa using hm))
  refine Ev.succ (Ev.congr (fun k=>by rw [impl_EditRope.l0,if_pos (by omega),if_pos (by omega),if_pos (by omega),he]) ?_)
  by_cases c1:e.f0<0
  ·
   exact Ev.congr (fun k=>by rw [if_pos c1]) (J true ⟨fun _=>by omega,fun _=>rfl⟩)
  ·
   refine Ev.congr (fun k=>by rw [if_neg c1]) ?_
   by_cases c2:e.f0>(s.size:Int)
   ·
    exact Ev.congr (fun k=>by rw [if_pos c2]) (J true ⟨fun _=>by omega,fun _=>rfl⟩)
   ·
    refine Ev.congr (fun k=>by rw [if_neg c2]) ?_
    by_cases c3:e.f1<0
    ·
     exact Ev.congr (fun k=>by rw [if_pos c3]) (J true ⟨fun _=>by omega,fun _=>rfl⟩)
    ·
     refine Ev.congr (fun k=>by rw [if_neg c3]) ?_
     have hw:wrap64 ((s.size:Int)-e.f0)=(s.size:Int)-e.f0:=w64 (by omega) (by omega)
     rw [hw]
     exact J _ (by rw [decide_eq_true_eq];omega)
theorem spec_marks (l:List S54) (s' : ByteArray) (m:List S56) (i:Nat) (a d:Int) (p:ByteArray) (r:Int × List S30 × List S56) (hm:m.length≤1048576) (hi:i≤1048576)
  (h:Ev (fun k=>spec_l20Edit.l0 k l s' (m.map (mv a d (p.size:Int))) ((i+1:Nat):Int)) r):Ev (fun k=>spec_l20Edit.l1 k l s' m (i:Int) 0 a d p) r:=by
 have e1:wrap64 ((i:Int)+1)=((i+1:Nat):Int):=by rw [w64 (by omega) (by omega)];omega
 have key:∀ (g j:Nat),j+g=m.length→Ev (fun k=>spec_l20Edit.l1 k l s' ((m.take j).map (mv a d (p.size:Int)) ++ m.drop j) (i:Int) (j:Int) a d p) r:=by
  intro g
  induction g with
  | zero =>
   intro j hj
   have hlen:((m.take j).map (mv a d (p.size:Int)) ++ m.drop j)=m.map (mv a d (p.size:Int)):=by
    rw [List.take_of_length_le (by omega),List.drop_of_length_le (by omega),List.append_nil]
   rw [hlen]
   exact Ev.succ (Ev.congr (fun k=>by rw [spec_l20Edit.l1,if_neg (by rw [List.length_map];omega),e1]) h)
  | succ g ihg =>
   intro j hj
   have hj' : j<m.length:=by omega
   have e2:wrap64 ((j:Int)+1)=((j+1:Nat):Int):=by rw [w64 (by omega) (by omega)];omega
   have hrd:rd_T56 ((m.take j).map (mv a d (p.size:Int)) ++ m.drop j) (j:Int)=m[j]:=by
    unfold rd_T56;rw [Int.toNat_natCast];exact half_rd _ _ m j hj'
   have hst:=half_set (mv a d (p.size:Int)) m j hj' (⟨m[j].f0,mvA m[j].f1 a d (p.size:Int) m[j].f2,m[j].f2⟩:S56) rfl
   refine Ev.succ (Ev.congr (fun k=>by rw [spec_l20Edit.l1,if_pos (by simp;omega),if_pos (by omega),hrd]) (Ev.bind (moved_ev m[j].f0 m[j].f1 a d m[j].f2 p) ?_))
   refine Ev.congr (fun k=>?_) (ihg (j+1) (by omega))
   rw [e2,Int.toNat_natCast,hst]
 exact key m.length 0 (by omega)
theorem spec_edits (l:List S54) (hl:l.length≤1048576) (hp:∀ e ∈ l,e.f2.size≤1048576) (hr:∀ e ∈ l,-9223372036854775808≤e.f1∧e.f1≤9223372036854775807):∀ (f i:Nat) (s:ByteArray) (m:List S56),i+f=l.length→s.size≤65536→m.length≤1048576 →
  Ev (fun k=>spec_l20Edit.l0 k l s m (i:Int)) (ed f l s m i):=by
 intro f
 induction f with
 | zero =>
  intro i s m hi hs hm
  exact Ev.succ (Ev.congr (fun k=>by rw [spec_l20Edit.l0,if_neg (by omega)]) (Ev.bind (spec_of s (by omega)) (Ev.now _)))
 | succ f ih =>
  intro i s m hi hs hm
  have hi' : i<l.length:=by omega
  have hz:=hp _ (rd54_mem l i hi')
  have e1:wrap64 ((i:Int)+1)=((i+1:Nat):Int):=by rw [w64 (by omega) (by omega)];omega
  rw [ed]
  obtain ⟨e,he⟩:∃ e,rd_T54 l (i:Int)=e:=⟨_,rfl⟩
  rw [he] at hz ⊢
  have W:spec_l20Within.f s e.f0 e.f1=some (decide ¬ (e.f0<0∨e.f0>(s.size:Int)∨e.f1<0∨e.f1>(s.size:Int)-e.f0)):=by
   unfold spec_l20Within.f
   by_cases c1:e.f0≥0
   ·
    rw [if_pos c1]
    by_cases c2:e.f0≤(s.size:Int)
    ·
     rw [if_pos c2,w64 (x:=(s.size:Int)-e.f0) (by omega) (by omega)]
     by_cases c3:e.f1≥0
     ·
      rw [if_pos c3]
      congr 1
      rw [decide_eq_decide];omega
     ·
      rw [if_neg c3]
      congr 1
      exact (decide_eq_false (by omega)).symm
    ·
     rw [if_neg c2]
     congr 1
     exact (decide_eq_false (by omega)).symm
   ·
    rw [if_neg c1]
    congr 1
    exact (decide_eq_false (by omega)).symm
  refine Ev.succ (Ev.congr (fun k=>by rw [spec_l20Edit.l0,if_pos (by omega),if_pos (by omega),he,W,Option.bind_some]) ?_)
  by_cases hbad:e.f0<0∨e.f0>(s.size:Int)∨e.f1<0∨e.f1>(s.size:Int)-e.f0
  ·
   rw [if_pos hbad]
   exact Ev.congr (fun k=>by rw [if_neg (by rw [decide_eq_true_eq];exact fun h=>h hbad)]) (Ev.now _)
  ·
   rw [if_neg hbad]
   have g0:0≤e.f0∧e.f0≤(s.size:Int)∧0≤e.f1∧e.f1≤(s.size:Int)-e.f0:=by omega
   have hw:wrap64 (e.f0+e.f1)=e.f0+e.f1:=w64 (by omega) (by omega)
   have hw2:wrap64 (wrap64 ((s.size:Int)-e.f1)+(e.f2.size:Int))=(s.size:Int)-e.f1+(e.f2.size:Int):=by
    rw [w64 (x:=(s.size:Int)-e.f1) (by omega) (by omega),w64 (by omega) (by omega)]
   have hsz:=ed_size s e.f2 e.f0 e.f1 g0.1 g0.2.1 g0.2.2.1 g0.2.2.2
   have s1:(s.extract 0 e.f0.toNat).size≤s.size:=by rw [ByteArray.size_extract];omega
   have s2:(s.extract 0 e.f0.toNat ++ e.f2).size=(s.extract 0 e.f0.toNat).size+e.f2.size:=ByteArray.size_append
   have s3:(s.extract (e.f0+e.f1).toNat s.size).size≤s.size:=by rw [ByteArray.size_extract];omega
   refine Ev.congr (fun k=>by rw [if_pos (decide_eq_true hbad),hw2]) ?_
   by_cases hL:(s.size:Int)-e.f1+(e.f2.size:Int)>65536
   ·
    rw [if_pos hL]
    exact Ev.congr (fun k=>by rw [if_pos hL]) (Ev.now _)
   ·
    rw [if_neg hL]
    refine Ev.congr (fun k=>by rw [if_neg hL,if_pos g0.1,if_pos g0.2.1,if_pos (by omega),hw,if_pos (by omega),if_pos (by omega),if_pos (by omega)]) ?_
    generalize hs' : (s.extract 0 e.f0.toNat ++ e.f2) ++ s.extract (e.f0+e.f1).toNat s.size=s' at hsz ⊢
    exact spec_marks l s' m i e.f0 e.f1 e.f2 _ hm (by omega) (ih (i+1) s' _ (by omega) (by omega) (by simpa using hm))
def editV (l:List S30) (m:List S56) (es:List S54):Int × List S30 × List S56:=if es.length>1000 then (2,[],[]) else if fault l m=0 then ed es.length es (textOf l) m 0 else (1,[],[])
theorem fault_small (l:List S30) (m:List S56) (h:fault l m=0):(textOf l).size≤65536:=by
 unfold fault at h
 by_cases h1:65536<(textOf l).size
 ·
  rw [if_pos h1] at h;cases h
 ·
  omega
theorem impl_edit_ev (l:List S30) (m:List S56) (es:List S54) (h:Small l m) (hl:es.length≤1048576) (hp:∀ e ∈ es,e.f2.size≤1048576):Ev (fun k=>impl_EditRope.f k l m es) (editV l m es):=by
 have h1:=h.ht
 have h2:=h.hm
 unfold editV
 by_cases c:es.length>1000
 ·
  rw [if_pos c]
  exact Ev.congr (fun k=>by rw [impl_EditRope.f,if_pos (by omega)]) (Ev.now _)
 ·
  rw [if_neg c]
  refine Ev.congr (fun k=>by rw [impl_EditRope.f,if_neg (by omega)]) (Ev.bind (impl_fault l m h) ?_)
  by_cases hf:fault l m=0
  ·
   have hs:=fault_small l m hf
   rw [if_pos hf]
   exact Ev.congr (fun k=>by rw [if_pos hf,impl_text l m (by omega),Option.bind_some,impl_Mark.f,if_pos (by omega),Option.bind_some];rfl) (impl_edits es hl hp es.length 0 (textOf l) m (by omega) hs (by omega))
  ·
   rw [if_neg hf]
   exact Ev.congr (fun k=>by rw [if_neg hf]) (Ev.now _)
theorem spec_edit_ev (l:List S30) (m:List S56) (es:List S54) (h:Small l m) (hl:es.length≤1048576) (hp:∀ e ∈ es,e.f2.size≤1048576) (hr:∀ e ∈ es,-9223372036854775808≤e.f1∧e.f1≤9223372036854775807):Ev (fun k=>spec_EditRope.f k l m es) (editV l m es):=by
 have h0:=h.hl
 have h1:=h.ht
 have h2:=h.hm
 unfold editV
 by_cases c:es.length>1000
 ·
  rw [if_pos c]
  exact Ev.congr (fun k=>by rw [spec_EditRope.f,if_pos (by omega)]) (Ev.now _)
 ·
  rw [if_neg c]
  refine Ev.congr (fun k=>by rw [spec_EditRope.f,if_neg (by omega)]) (Ev.bind (spec_fault l m h) ?_)
  by_cases hf:fault l m=0
  ·
   have hs:=fault_small l m hf
   rw [if_pos hf]
   refine Ev.congr (fun k=>by rw [if_pos hf]) ?_
   refine Ev.bind (a:=ed es.length es (textOf l) m 0) ?_ (Ev.now _)
   refine Ev.congr (fun k=>by rw [spec_l20Edit.f]) (Ev.bind (spec_text l (by omega) (by omega)) ?_)
   refine Ev.congr (fun k=>by rw [Option.bind_some,if_pos (by simp;omega),List.nil_append];rfl) (spec_edits es hl hp hr es.length 0 (textOf l) m (by omega) hs (by omega))
  ·
   rw [if_neg hf]
   exact Ev.congr (fun k=>by rw [if_neg hf]) (Ev.now _)
theorem markText_ex (x:Int) (h0:0<x) (h1:x≤1099511627776):∃ t,Ev (fun k=>laws_markText.f k x) t:=by
 have key:∀ (n:Nat) (x:Int) (acc:ByteArray),x≤(n:Int)→acc.size+n≤2199023255552 → ∃ t,Ev (fun k=>laws_markText.l0 k x acc) t:=by
  intro n
  induction n with
  | zero =>
   intro x acc hx ha
   exact ⟨_,Ev.succ (Ev.congr (fun k=>by rw [laws_markText.l0,if_neg (by omega),if_pos (by omega)]) (Ev.now _))⟩
  | succ n ih =>
   intro x acc hx ha
   by_cases hp:x>0
   ·
    have e1:wrap64 (Int.tdiv x 10)=x / 10:=by
     rw [Int.tdiv_eq_ediv_of_nonneg (by omega),w64 (by omega) (by omega)]
    obtain ⟨t,ht⟩:=ih (x / 10) ((strOfNums [(wrap64 (48+(Int.tmod x 10))) % 256]) ++ acc) (by omega) (by
     rw [ByteArray.size_append,strOfNums_size];simp only [List.length_cons,List.length_nil];omega)
    refine ⟨t,Ev.succ (Ev.congr (fun k=>?_) ht)⟩
    rw [laws_markText.l0,if_pos hp,Option.bind_some,e1,if_pos (by rw [strOfNums_size];simp only [List.length_cons,List.length_nil];omega)]
   ·
    exact ⟨_,Ev.succ (Ev.congr (fun k=>by rw [laws_markText.l0,if_neg (by omega),if_pos (by omega)]) (Ev.now _))⟩
 obtain ⟨t,ht⟩:=key x.toNat x ⟨#[]⟩ (by omega) (by show 0+_≤_;omega)
 exact ⟨t,Ev.congr (fun k=>by rw [laws_markText.f,if_neg (by omega)]) ht⟩
open Classical in
noncomputable def mt (x:Int):ByteArray:=if h:∃ t,Ev (fun k=>laws_markText.f k x) t then Classical.choose h else ⟨#[]⟩
theorem mt_ev (x:Int) (h0:0<x) (h1:x≤1099511627776):Ev (fun k=>laws_markText.f k x) (mt x):=by
 have h:=markText_ex x h0 h1
 unfold mt
 rw [dif_pos h]
 exact Classical.choose_spec h
noncomputable def nodeM (b:Nat):S30:=⟨mt (b:Int),((b+1:Nat):Int),((b+2:Nat):Int),((b+3:Nat):Int),((b+4:Nat):Int)⟩
noncomputable def markM (b:Nat):S56:=⟨mt (b:Int),((b+1:Nat):Int),(Int.tmod ((b+2:Nat):Int) 3) == 0⟩
noncomputable def editM (b:Nat):S54:=⟨(b:Int),((b+1:Nat):Int),mt ((b+2:Nat):Int)⟩
noncomputable def nodesM:Nat→Nat→List S30
 | 0,_=>[]
 | n+1,b=>nodeM b :: nodesM n (b+5)
noncomputable def marksM:Nat→Nat→List S56
 | 0,_=>[]
 | n+1,b=>markM b :: marksM n (b+3)
noncomputable def editsM:Nat→Nat→List S54
 | 0,_=>[]
 | n+1,b=>editM b :: editsM n (b+3)
theorem rdm30 (p q:List S30) (x:S30) (i:Nat) (h:p.length=i):rd_T30 (p ++ x :: q) (i:Int)=x:=by
 subst h;simp [rd_T30,List.getD_eq_getElem?_getD]
theorem rdm56 (p q:List S56) (x:S56) (i:Nat) (h:p.length=i):rd_T56 (p ++ x :: q) (i:Int)=x:=by
 subst h;simp [rd_T56,List.getD_eq_getElem?_getD]
theorem rdm54 (p q:List S54) (x:S54) (i:Nat) (h:p.length=i):rd_T54 (p ++ x :: q) (i:Int)=x:=by
 subst h;simp [rd_T54,List.getD_eq_getElem?_getD]
theorem setm {α:Type} (p q:List α) (x y:α) (i:Nat) (h:p.length=i):(p ++ x :: q).set i y=p ++ y :: q:=by
 subst h;simp
theorem s64 (b j:Nat) (h:b+j≤1099511627776):wrap64 (((b+j:Nat):Int)+1)=((b+(j+1):Nat):Int):=by
 rw [w64 (by omega) (by omega)];omega
theorem markNodes:∀ (q p:List S30) (i b:Nat),p.length=i→0<b→b+5*q.length≤1099511627776→i+q.length≤1099511627776 →
  Ev (fun k=>laws_markRopeNodeS.l0 k (p ++ q) (b:Int) (i:Int)) (((b+5*q.length:Nat):Int),p ++ nodesM q.length b)
 | [],p,i,b,hp,hb,hz,hi=>by
  refine Ev.succ (Ev.congr (fun k=>?_) (Ev.now _))
  rw [laws_markRopeNodeS.l0,if_neg (by simp;omega)]
  rfl
 | x :: q,p,i,b,hp,hb,hz,hi=>by
  simp only [List.length_cons] at hz hi
  have e1:wrap64 ((i:Int)+1)=((i+1:Nat):Int):=by rw [w64 (by omega) (by omega)];omega
  have ih:=markNodes q (p ++ [nodeM b]) (i+1) (b+5) (by simp;omega) (by omega) (by omega) (by omega)
  have b1:=s64 b 0 (by omega)
  have b2:=s64 b 1 (by omega)
  have b3:=s64 b 2 (by omega)
  have b4:=s64 b 3 (by omega)
  have b5:=s64 b 4 (by omega)
  simp only [Nat.add_zero,Nat.zero_add,Nat.reduceAdd] at b1 b2 b3 b4 b5
  refine Ev.succ (Ev.congr (fun k=>by rw [laws_markRopeNodeS.l0,if_pos (by simp;omega)]) (Ev.bind (mt_ev (b:Int) (by omega) (by omega)) ?_))
  rw [show b+5*(x :: q).length=b+5+5*q.length from by simp only [List.length_cons];omega,show p ++ nodesM (x :: q).length b=(p ++ [nodeM b]) ++ nodesM q.length (b+5) from by simp [nodesM]]
  refine Ev.congr (fun k=>?_) ih
  rw [if_pos (by omega)]
  simp only [Option.bind_some,Int.toNat_natCast,rdm30 p q _ i hp,setm p q _ _ i hp,b1,b2,b3,b4,b5,e1]
  simp [nodeM]
theorem heldNodes:∀ (n:Nat) (p:List S30) (i b:Nat),p.length=i→0<b→b+5*n≤1099511627776→i+n≤1099511627776 →
  Ev (fun k=>laws_heldRopeNodeS.l0 k (p ++ nodesM n b) (b:Int) (i:Int)) (((b+5*n:Nat):Int))
 | 0,p,i,b,hp,hb,hz,hi=>by
  refine Ev.succ (Ev.congr (fun k=>?_) (Ev.now _))
  rw [laws_heldRopeNodeS.l0,if_neg (by simp [nodesM];omega)]
  rfl
 | n+1,p,i,b,hp,hb,hz,hi=>by
  have e1:wrap64 ((i:Int)+1)=((i+1:Nat):Int):=by rw [w64 (by omega) (by omega)];omega
  have ih:=heldNodes n (p ++ [nodeM b]) (i+1) (b+5) (by simp;omega) (by omega) (by omega) (by omega)
  have b1:=s64 b 0 (by omega)
  have b2:=s64 b 1 (by omega)
  have b3:=s64 b 2 (by omega)
  have b4:=s64 b 3 (by omega)
  have b5:=s64 b 4 (by omega)
  simp only [Nat.add_zero,Nat.zero_add,Nat.reduceAdd] at b1 b2 b3 b4 b5
  have hm:p ++ nodesM (n+1) b=p ++ nodeM b :: nodesM n (b+5):=rfl
  refine Ev.succ (Ev.congr (fun k=>by rw [laws_heldRopeNodeS.l0,if_pos (by rw [hm];simp;omega),if_pos (by omega)]) (Ev.bind (mt_ev (b:Int) (by omega) (by omega)) ?_))
  rw [show b+5*(n+1)=b+5+5*n from by omega]
  refine Ev.congr (fun k=>?_) ih
  simp only [hm,rdm30 p _ _ i hp,b1,b2,b3,b4,b5,e1]
  simp [nodeM]
theorem markMarks:∀ (q p:List S56) (i b:Nat),p.length=i→0<b→b+3*q.length≤1099511627776→i+q.length≤1099511627776 →
  Ev (fun k=>laws_markMarkS.l0 k (p ++ q) (b:Int) (i:Int)) (((b+3*q.length:Nat):Int),p ++ marksM q.length b)
 | [],p,i,b,hp,hb,hz,hi=>by
  refine Ev.succ (Ev.congr (fun k=>?_) (Ev.now _))
  rw [laws_markMarkS.l0,if_neg (by simp;omega)]
  rfl
 | x :: q,p,i,b,hp,hb,hz,hi=>by
  simp only [List.length_cons] at hz hi
  have e1:wrap64 ((i:Int)+1)=((i+1:Nat):Int):=by rw [w64 (by omega) (by omega)];omega
  have ih:=markMarks q (p ++ [markM b]) (i+1) (b+3) (by simp;omega) (by omega) (by omega) (by omega)
  have b1:=s64 b 0 (by omega)
  have b2:=s64 b 1 (by omega)
  have b3:=s64 b 2 (by omega)
  simp only [Nat.add_zero,Nat.zero_add,Nat.reduceAdd] at b1 b2 b3
  refine Ev.succ (Ev.congr (fun k=>by rw [laws_markMarkS.l0,if_pos (by simp;omega)]) (Ev.bind (mt_ev (b:Int) (by omega) (by omega)) ?_))
  rw [show b+3*(x :: q).length=b+3+3*q.length from by simp only [List.length_cons];omega,show p ++ marksM (x :: q).length b=(p ++ [markM b]) ++ marksM q.length (b+3) from by simp [marksM]]
  refine Ev.congr (fun k=>?_) ih
  rw [if_pos (by omega)]
  simp only [Option.bind_some,Int.toNat_natCast,rdm56 p q _ i hp,setm p q _ _ i hp,b1,b2,b3,e1]
  simp [markM]
theorem heldMarks:∀ (n:Nat) (p:List S56) (i b:Nat),p.length=i→0<b→b+3*n≤1099511627776→i+n≤1099511627776 →
  Ev (fun k=>laws_heldMarkS.l0 k (p ++ marksM n b) (b:Int) (i:Int)) (((b+3*n:Nat):Int))
 | 0,p,i,b,hp,hb,hz,hi=>by
  refine Ev.succ (Ev.congr (fun k=>?_) (Ev.now _))
  rw [laws_heldMarkS.l0,if_neg (by simp [marksM];omega)]
  rfl
 | n+1,p,i,b,hp,hb,hz,hi=>by
  have e1:wrap64 ((i:Int)+1)=((i+1:Nat):Int):=by rw [w64 (by omega) (by omega)];omega
  have ih:=heldMarks n (p ++ [markM b]) (i+1) (b+3) (by simp;omega) (by omega) (by omega) (by omega)
  have b1:=s64 b 0 (by omega)
  have b2:=s64 b 1 (by omega)
  have b3:=s64 b 2 (by omega)
  simp only [Nat.add_zero,Nat.zero_add,Nat.reduceAdd] at b1 b2 b3
  have hm:p ++ marksM (n+1) b=p ++ markM b :: marksM n (b+3):=rfl
  refine Ev.succ (Ev.congr (fun k=>by rw [laws_heldMarkS.l0,if_pos (by rw [hm];simp;omega),if_pos (by omega)]) (Ev.bind (mt_ev (b:Int) (by omega) (by omega)) ?_))
  rw [show b+3*(n+1)=b+3+3*n from by omega]
  refine Ev.congr (fun k=>?_) ih
  simp only [hm,rdm56 p _ _ i hp,b1,b2,b3,e1]
  simp [markM]
theorem markEdits:∀ (q p:List S54) (i b:Nat),p.length=i→0<b→b+3*q.length≤1099511627776→i+q.length≤1099511627776 →
  Ev (fun k=>laws_markRopeEditS.l0 k (p ++ q) (b:Int) (i:Int)) (((b+3*q.length:Nat):Int),p ++ editsM q.length b)
 | [],p,i,b,hp,hb,hz,hi=>by
  refine Ev.succ (Ev.congr (fun k=>?_) (Ev.now _))
  rw [laws_markRopeEditS.l0,if_neg (by simp;omega)]
  rfl
 | x :: q,p,i,b,hp,hb,hz,hi=>by
  simp only [List.length_cons] at hz hi
  have e1:wrap64 ((i:Int)+1)=((i+1:Nat):Int):=by rw [w64 (by omega) (by omega)];omega
  have ih:=markEdits q (p ++ [editM b]) (i+1) (b+3) (by simp;omega) (by omega) (by omega) (by omega)
  have b1:=s64 b 0 (by omega)
  have b2:=s64 b 1 (by omega)
  have b3:=s64 b 2 (by omega)
  simp only [Nat.add_zero,Nat.zero_add,Nat.reduceAdd] at b1 b2 b3
  refine Ev.succ (Ev.congr (fun k=>?_) (Ev.bind (a:=mt ((b+2:Nat):Int)) (f:=fun k t=>laws_markRopeEditS.l0 k (p ++ (⟨(b:Int),((b+1:Nat):Int),t⟩:S54) :: q) ((b+3:Nat):Int) ((i+1:Nat):Int)) (mt_ev ((b+2:Nat):Int) (by omega) (by omega)) ?_))
  ·
   rw [laws_markRopeEditS.l0,if_pos (by simp;omega),if_pos (by omega)]
   simp only [Option.bind_some,Int.toNat_natCast,rdm54 p q _ i hp,setm p q _ _ i hp,b1,b2,b3,e1]
  ·
   rw [show b+3*(x :: q).length=b+3+3*q.length from by simp only [List.length_cons];omega,show p ++ editsM (x :: q).length b=(p ++ [editM b]) ++ editsM q.length (b+3) from by simp [editsM]]
   refine Ev.congr (fun k=>?_) ih
   simp [editM]
theorem markRope_ev (l:List S30) (m:List S56) (b:Nat) (h0:0<b) (hb:b≤1048576) (hl:l.length≤1048576) (hm:m.length≤1048576) :
  Ev (fun k=>laws_markRope.f k l m (b:Int)) (((b+5*l.length+3*m.length:Nat):Int),nodesM l.length b,marksM m.length (b+5*l.length)):=by
 have A:=markNodes l [] 0 b rfl h0 (by omega) (by omega)
 have B:=markMarks m [] 0 (b+5*l.length) rfl (by omega) (by omega) (by omega)
 exact Ev.congr (fun k=>by rw [laws_markRope.f,laws_markRopeNodeS.f];rfl) (Ev.bind A (Ev.congr (fun k=>by rw [laws_markMarkS.f];rfl) (Ev.bind (f:=fun _ t=>some (t.1,nodesM l.length b,t.2)) B (Ev.now _))))
theorem heldRope_ev (n m b:Nat) (h0:0<b) (hb:b≤1048576) (hl:n≤1048576) (hm:m≤1048576) (c:Int) :
  Ev (fun k=>laws_heldRopeOut.f k c (nodesM n b) (marksM m (b+5*n)) (b:Int)) (((b+5*n+3*m:Nat):Int)):=by
 have A:=heldNodes n [] 0 b rfl h0 (by omega) (by omega)
 have B:=heldMarks m [] 0 (b+5*n) rfl (by omega) (by omega) (by omega)
 refine Ev.congr (fun k=>by rw [laws_heldRopeOut.f,laws_heldRope.f,laws_heldRopeNodeS.f]) ?_
 refine Ev.bind (a:=((b+5*n+3*m:Nat):Int)) ?_ (Ev.congr (fun k=>by rw [if_neg (by omega)]) (Ev.now _))
 refine Ev.bind A (Ev.congr (fun k=>by rw [if_neg (by omega),laws_heldMarkS.f]) ?_)
 exact Ev.bind B (Ev.congr (fun k=>by rw [if_neg (by omega)]) (Ev.now _))
def toE (y:S93):S54:=⟨y.f0,y.f1,y.f2⟩
theorem rd93 (l:List S93) (i:Nat) (h:i<l.length):rd_T93 l (i:Int)=l[i]:=by simp [rd_T93,List.getD_eq_getElem?_getD,List.getElem?_eq_getElem h]
theorem toEdits (l:List S93) (h:l.length≤1048576):Ev (fun k=>laws_toRopeEditS.f k l) (l.map toE):=by
 have key:∀ (f i:Nat),i+f=l.length→Ev (fun k=>laws_toRopeEditS.l0 k l (((l.take i).map toE) ++ List.replicate (l.length-i) z54) (i:Int)) (l.map toE):=by
  intro f
  induction f with
  | zero =>
   intro i hi
   refine Ev.succ (Ev.congr (fun k=>?_) (Ev.now _))
   rw [laws_toRopeEditS.l0,if_neg (by omega),List.take_of_length_le (by omega),show l.length-i=0 from by omega];simp
  | succ f ih =>
   intro i hi
   have e1:wrap64 ((i:Int)+1)=((i+1:Nat):Int):=by rw [w64 (by omega) (by omega)];omega
   refine Ev.succ (Ev.congr (fun k=>?_) (ih (i+1) (by omega)))
   rw [laws_toRopeEditS.l0,if_pos (by omega),if_pos (by omega)]
   simp only [laws_toRopeEdit.f,Option.bind_some]
   rw [if_pos (by simp;omega),e1,Int.toNat_natCast,set_step toE z54 l i (by omega) _ (by rw [rd93 l i (by omega)];rfl)]
 have:=key l.length 0 (by omega)
 refine Ev.congr (fun k=>?_) this
 rw [laws_toRopeEditS.f,if_pos (by omega),if_pos (by omega)]
 simp
theorem eqEdits (x:List S54) (h:x.length≤1048576):Ev (fun k=>laws_eqRopeEditS.f k x x) true:=by
 have key:∀ (f i:Nat),i+f=x.length→Ev (fun k=>laws_eqRopeEditS.l0 k x x (i:Int)) true:=by
  intro f
  induction f with
  | zero =>
   intro i hi
   refine Ev.succ (Ev.congr (fun k=>?_) (Ev.now _))
   rw [laws_eqRopeEditS.l0,if_neg (by omega)]
  | succ f ih =>
   intro i hi
   have e1:wrap64 ((i:Int)+1)=((i+1:Nat):Int):=by rw [w64 (by omega) (by omega)];omega
   refine Ev.succ (Ev.congr (fun k=>?_) (ih (i+1) (by omega)))
   rw [laws_eqRopeEditS.l0,if_pos (by omega),if_pos (by omega),if_pos (by omega)]
   simp only [laws_eqRopeEdit.f,if_true,Option.bind_some]
   rw [e1]
 refine Ev.congr (fun k=>?_) (key x.length 0 (by omega))
 rw [laws_eqRopeEditS.f,if_pos rfl];rfl
def sumE (l:List S93):Nat:=(l.map fun y=>y.f2.size).sum
theorem szEdits (l:List S93) (a:Int) (ha:0≤a∧a≤1048576) (hl:l.length≤9223372036854775807) (hg:∀ y ∈ l,y.f2.size≤9223372036854775807) :
  Ev (fun k=>laws_szRopeEditS.f k l a) (if a-(l.length:Int)-(sumE l:Int)<0 then -1 else a-(l.length:Int)-(sumE l:Int)):=by
 have e0:wrap64 (a-(l.length:Int))=a-(l.length:Int):=w64 (by omega) (by omega)
 by_cases h0:a-(l.length:Int)<0
 ·
  rw [if_pos (by omega)]
  exact Ev.congr (fun k=>by rw [laws_szRopeEditS.f,e0,if_pos h0]) (Ev.now _)
 ·
  refine Ev.congr (fun k=>by rw [laws_szRopeEditS.f,e0,if_neg h0]) (?_:Ev (fun k=>laws_szRopeEditS.l0 k l (a-(l.length:Int)) 0) _)
  have key:∀ (f i:Nat) (b:Int),i+f=l.length→0≤b→b≤1048576→Ev (fun k=>laws_szRopeEditS.l0 k l b (i:Int)) (if b-(sumE (l.drop i):Int)<0 then -1 else b-(sumE (l.drop i):Int)):=by
   intro f
   induction f with
   | zero =>
    intro i b hi hb hb'
    rw [List.drop_of_length_le (by omega)]
    refine Ev.succ (Ev.congr (fun k=>?_) (Ev.now _))
    rw [laws_szRopeEditS.l0,if_neg (by omega)]
    simp [sumE];omega
   | succ f ih =>
    intro i b hi hb hb'
    have hi' : i<l.length:=by omega
    have e1:wrap64 ((i:Int)+1)=((i+1:Nat):Int):=by rw [w64 (by omega) (by omega)];omega
    have hs:=hg l[i] (List.getElem_mem hi')
    have e2:wrap64 (b-(l[i].f2.size:Int))=b-(l[i].f2.size:Int):=w64 (by omega) (by omega)
    have e3:sumE (l.drop i)=l[i].f2.size+sumE (l.drop (i+1)):=by rw [List.drop_eq_getElem_cons hi'];simp only [sumE,List.map_cons,List.sum_cons]
    rw [e3]
    by_cases h1:b-(l[i].f2.size:Int)<0
    ·
     rw [if_pos (by omega)]
     refine Ev.succ (Ev.congr (fun k=>?_) (Ev.now _))
     rw [laws_szRopeEditS.l0,if_pos (by omega),if_pos (by omega),rd93 l i hi',laws_szRopeEdit.f,e2,if_pos h1,Option.bind_some,if_pos (by decide)]
    ·
     have:=ih (i+1) (b-(l[i].f2.size:Int)) (by omega) (by omega) (by omega)
     rw [show b-(l[i].f2.size:Int)-(sumE (l.drop (i+1)):Int)=b-((l[i].f2.size+sumE (l.drop (i+1)):Nat):Int) from by omega] at this
     refine Ev.succ (Ev.congr (fun k=>?_) this)
     rw [laws_szRopeEditS.l0,if_pos (by omega),if_pos (by omega),rd93 l i hi',laws_szRopeEdit.f,e2,if_neg h1,Option.bind_some,if_neg h1,e1]
  have:=key l.length 0 (a-(l.length:Int)) (by omega) (by omega) (by omega)
  simpa using this
theorem le_sumE (l:List S93):∀ y ∈ l,y.f2.size≤sumE l:=by
 induction l with
 | nil=>intro y hy;cases hy
 | cons a l ih =>
  intro y hy
  have e:sumE (a :: l)=a.f2.size+sumE l:=by simp only [sumE,List.map_cons,List.sum_cons]
  rcases List.mem_cons.1 hy with rfl|hy
  ·
   omega
  ·
   have:=ih y hy;omega
theorem eqOut_ev (v:Int × List S30 × List S56) (h:v.2.1.length≤1048576) (h' : v.2.2.length≤1048576):Ev (fun k=>laws_eqRopeOut.f k v.1 v.2.1 v.2.2 v.1 v.2.1 v.2.2) true :=
 Ev.congr (fun k=>by rw [laws_eqRopeOut.f,if_pos rfl]) (Ev.bind (eqRope_ev _ _ h h') (Ev.congr (fun k=>by rw [if_pos rfl]) (Ev.now _)))
theorem ed_len:∀ (f:Nat) (l:List S54) (s:ByteArray) (m:List S56) (i:Nat),s.size≤65536→(∀ e ∈ l,True)→(ed f l s m i).2.1.length≤131072∧(ed f l s m i).2.2.length≤m.length
 | 0,l,s,m,i,hs,_=>by
  have:=tree_len s
  exact ⟨by simp only [ed];omega,Nat.le_refl _⟩
 | f+1,l,s,m,i,hs,hh=>by
  rw [ed]
  by_cases c:(rd_T54 l (i:Int)).f0<0∨(rd_T54 l (i:Int)).f0>(s.size:Int)∨(rd_T54 l (i:Int)).f1<0∨(rd_T54 l (i:Int)).f1>(s.size:Int)-(rd_T54 l (i:Int)).f0
  ·
   rw [if_pos c];simp
  ·
   rw [if_neg c]
   by_cases d:(s.size:Int)-(rd_T54 l (i:Int)).f1+((rd_T54 l (i:Int)).f2.size:Int)>65536
   ·
    rw [if_pos d];simp
   ·
    rw [if_neg d]
    have hz:=ed_size s (rd_T54 l (i:Int)).f2 (rd_T54 l (i:Int)).f0 (rd_T54 l (i:Int)).f1 (by omega) (by omega) (by omega) (by omega)
    have:=ed_len f l ((s.extract 0 (rd_T54 l (i:Int)).f0.toNat ++ (rd_T54 l (i:Int)).f2) ++ s.extract ((rd_T54 l (i:Int)).f0+(rd_T54 l (i:Int)).f1).toNat s.size) (m.map (mv (rd_T54 l (i:Int)).f0 (rd_T54 l (i:Int)).f1 ((rd_T54 l (i:Int)).f2.size:Int))) (i+1) (by omega) hh
    rw [List.length_map] at this
    exact this
theorem editV_len (l:List S30) (m:List S56) (es:List S54) (h:Small l m):(editV l m es).2.1.length≤131072∧(editV l m es).2.2.length≤1048576:=by
 have hm:=h.hm
 unfold editV
 by_cases c:es.length>1000
 ·
  rw [if_pos c];simp
 ·
  rw [if_neg c]
  by_cases hf:fault l m=0
  ·
   rw [if_pos hf]
   have:=ed_len es.length es (textOf l) m 0 (fault_small l m hf) (fun _ _=>trivial)
   omega
  ·
   rw [if_neg hf];simp
theorem EditRope_ev (l:List S122) (m:List S124) (es:List S93) (hes:es.length≤9223372036854775807) (hg:∀ y ∈ es,y.f2.size≤9223372036854775807) (hr:∀ y ∈ es,-9223372036854775808≤y.f1∧y.f1≤9223372036854775807)
  (G:Ev (fun k=>laws_szRope.f k l m 1048576) (-1)∨(∃ c,0≤c∧c≤1048576∧Ev (fun k=>laws_szRope.f k l m 1048576) c)∧l.length+sumN l+m.length+sumM m≤1048576) :
  Ev (fun k=>laws_FnExactEditRope.f k l m es) true:=by
 refine Ev.congr (fun k=>by rw [laws_FnExactEditRope.f]) ?_
 rcases G with h|⟨⟨c,h0,h1,h⟩,hz⟩
 ·
  exact Ev.bind h (Ev.congr (fun k=>by rw [if_pos (by decide)]) (Ev.now _))
 ·
  have S:=small_of l m hz
  have C:=toRope_ev l m (by omega) (by omega)
  refine Ev.bind h ?_
  refine Ev.congr (fun k=>by rw [if_neg (by omega)]) ?_
  have Z:=szEdits es c ⟨h0,h1⟩ hes hg
  by_cases hc:c-(es.length:Int)-(sumE es:Int)<0
  ·
   rw [if_pos hc] at Z
   exact Ev.bind Z (Ev.congr (fun k=>by rw [if_pos (by decide)]) (Ev.now _))
  ·
   rw [if_neg hc] at Z
   have E:=toEdits es (by omega)
   have hlen:(es.map toE).length=es.length:=List.length_map ..
   have hput:∀ e ∈ es.map toE,e.f2.size≤1048576:=by
    intro e he
    obtain ⟨x,hx,rfl⟩:=List.mem_map.1 he
    have:=le_sumE es x hx
    show x.f2.size≤1048576
    omega
   have hrg:∀ e ∈ es.map toE,-9223372036854775808≤e.f1∧e.f1≤9223372036854775807:=by
    intro e he
    obtain ⟨x,hx,rfl⟩:=List.mem_map.1 he
    exact hr x hx
   have VI:=impl_edit_ev _ _ (es.map toE) S (by omega) hput
   have VS:=spec_edit_ev _ _ (es.map toE) S (by omega) hput hrg
   have VL:=editV_len _ _ (es.map toE) S
   generalize editV (l.map toN) (m.map toM) (es.map toE)=v at VI VS VL
   have Q:=eqOut_ev v (by omega) VL.2
   have SL:=S.hl
   have SM:=S.hm
   generalize l.map toN=L at C VI VS SL
   generalize m.map toM=M at C VI VS SM
   generalize es.map toE=D at E VI VS hlen
   refine Ev.bind Z (Ev.congr (fun k=>by rw [if_neg hc]) ?_)
   refine Ev.bind C (Ev.bind E (Ev.bind VS (Ev.bind C (Ev.bind E (Ev.bind VI (Ev.bind Q ?_))))))
   refine Ev.congr (fun k=>by rw [if_pos rfl]) (Ev.bind C (Ev.bind (eqRope_ev L M SL SM) ?_))
   refine Ev.congr (fun k=>by rw [if_pos rfl]) (Ev.bind E (Ev.bind (eqEdits D (by omega)) ?_))
   have MR:Ev (fun k=>laws_markRope.f k L M 1) _:=markRope_ev L M 1 (by omega) (by omega) SL SM
   refine Ev.congr (fun k=>by rw [if_pos rfl]) (Ev.bind MR ?_)
   have ME:=markEdits D [] 0 (1+5*L.length+3*M.length) rfl (by omega) (by omega) (by omega)
   refine Ev.bind (Ev.congr (fun k=>by rw [laws_markRopeEditS.f];rfl) ME) ?_
   refine Ev.congr (fun k=>by rw [if_neg (by simp only;omega)]) (Ev.bind Q ?_)
   refine Ev.succ (Ev.congr (fun k=>by rw [laws_FnExactEditRope.j0,if_neg (by simp)]) ?_)
   have MO:Ev (fun k=>laws_markRope.f k v.2.1 v.2.2 1) _:=markRope_ev v.2.1 v.2.2 1 (by omega) (by omega) (by omega) VL.2
   have HO:Ev (fun k=>laws_heldRopeOut.f k v.1 (nodesM v.2.1.length 1) (marksM v.2.2.length (1+5*v.2.1.length)) 1) _:=heldRope_ev v.2.1.length v.2.2.length 1 (by omega) (by omega) (by omega) VL.2 v.1
   refine Ev.bind (Ev.congr (fun k=>by rw [laws_markRopeOut.f]) (Ev.bind (f:=fun _ t=>some (t.1,t.2.1,t.2.2)) MO (Ev.now _))) ?_
   refine Ev.bind HO ?_
   refine Ev.congr (fun k=>by rw [if_neg (by omega),if_pos rfl]) (Ev.bind C (Ev.bind E (Ev.bind VI (Ev.bind Q ?_))))
   refine Ev.congr (fun k=>by rw [if_pos rfl]) (Ev.bind HO ?_)
   exact Ev.congr (fun k=>by rw [if_neg (by omega),if_pos rfl]) (Ev.now _)
theorem guard_of (l:List S122) (hl:l.length≤maxLen) (hg:∀ y ∈ l,good122 y) (m:List S124) (hm:m.length≤maxLen) (hg' : ∀ y ∈ m,good124 y) :
  Ev (fun k=>laws_szRope.f k l m 1048576) (-1)∨(∃ c,0≤c∧c≤1048576∧Ev (fun k=>laws_szRope.f k l m 1048576) c)∧l.length+sumN l+m.length+sumM m≤1048576 :=
 szRope_ev l m hl (fun y hy=>(hg y hy).1) hm (fun y hy=>(hg' y hy).1)
theorem int_range {a:Int} (w:(Lit.int .i64 a).wf=true) : -9223372036854775808≤a∧a≤9223372036854775807:=by
 simp only [Lit.wf,Bool.and_eq_true,decide_eq_true_eq] at w
 exact w
theorem Pure.FnExactEditRope (l:List S122) (hl:l.length≤maxLen) (hg:∀ y ∈ l,good122 y) (m:List S124) (hm:m.length≤maxLen) (hg' : ∀ y ∈ m,good124 y) (es:List S93) (hes:es.length≤maxLen) (hge:∀ y ∈ es,good93 y):∃ k,laws_FnExactEditRope.f k l m es=some true :=
 Ev.rounds (EditRope_ev l m es hes (fun y hy=>(hge y hy).2.2) (fun y hy=>int_range (hge y hy).2.1) (guard_of l hl hg m hm hg'))
end Go.Proofs.YtmfnipkfpjpjeaaDoor.PE
end
