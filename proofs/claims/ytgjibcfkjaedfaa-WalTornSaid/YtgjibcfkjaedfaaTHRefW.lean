-- Parts melded by a program of this session.
import Derived.Test.YtgjibcfkjaedfaaTHWire
import Derived.Test.YtgjibcfkjaedfaaTHPrx0
namespace Go.Proofs.Ytgjibcfkjaedfaa.Wire
open Go.RowKit Go.Proofs.YtgjibcfkjaedfaaW.PrintWords Go.Proofs.YtgjibcfkjaedfaaW.PrintLast Go.Proofs.YtgjibcfkjaedfaaW.PrintMore
set_option linter.unusedVariables false
set_option linter.unusedSimpArgs false
set_option maxRecDepth 100000 in
set_option maxHeartbeats 4000000 in
theorem refnum_ok (n:Int) (s:Nat) (w:World) (h0:0≤n) (hN:n < 9223372036854775808) (hs:s≤8) :
  Calls Try.prog 88 #[.int .i64 n,.int .i64 (s:Int)] w fun e w'=>∃ u,e=.returned u∧Kd.R (Kd.int .u8) 5 w' w.heap.size (fun _=>True) u (le n s)∧Below w.heap.size w w':=by
 go_enter Try.func88,Try.ntmps88
 go_wp2
 go_loopw [0,5,6] (fun v0 v5 v6 wr=>∃ i:Nat,i≤s∧v6=.int .i64 i∧v0=.int .i64 (n / 256 ^ i)∧Aside0 (Kd.R (Kd.int .u8) 5 wr w.heap.size (fun _=>True) v5 (le n i))∧Aside0 (Below w.heap.size w wr)) (fun _ _ v6 _=>s - (intOf v6).toNat)
 case atStart=>exact ⟨0,Nat.zero_le _,rfl,by simp,⟨Kd.R_nil _ _ _ _ _⟩,⟨Below.refl _ _⟩⟩
 case round =>
  obtain ⟨i,hi,rfl,rfl,HR,HB⟩:=hrel
  obtain ⟨m,hm⟩:∃ m,n / 256 ^ i=m:=⟨_,rfl⟩
  have hm0:0≤m:=by rw [← hm];exact Int.ediv_nonneg h0 (Int.pow_nonneg (by omega))
  have hmN:m < 9223372036854775808:=by rw [← hm];exact Int.lt_of_le_of_lt (Int.ediv_le_self _ h0) hN
  rw [hm]
  have HM:=Aside0.mk hm
  clear hm
  have hlen:=le_length n i
  have HLEN:=Aside0.mk hlen
  clear hlen
  have HH:=Aside0.mk h0
  obtain ⟨A,c,rfl⟩:=Kd.R_slice HR.out
  by_cases hlt:i < s
  ·have hltz:(i:Int) < s:=by omega
   have t1:m.tmod 256=m % 256:=Int.tmod_eq_emod_of_nonneg hm0
   have t2:m.tdiv 256=m / 256:=Int.tdiv_eq_ediv_of_nonneg hm0
   have t3:IntKind.u8.wrap (m % 256)=m % 256:=by
    show (m % 256) % 256=m % 256
    omega
   go_wp2_with ((with_reducible refine gate_builtin (b:=.append) (xs:=#[.tmp 12,.tmp 16]) rfl ?_);at_builtin;refine Kd.R_append (Kd.int .u8) (w0:=w) w.heap.size rfl (.tmp 12) (.tmp 16) 67 5 (.int .u8 0) 1 rfl Try.underlying67 info8 rfl (by decide) (by omega) (.slice A (le n i).length c) (le n i) (m % 256) [.int .u8 (m % 256)] (fun _=>True) (fun _=>False) rfl rfl ?aP (fun _ hk=>hk.elim) ?aF ?aO ?aB ?aS ?aL ?_;(case aP=>exact rfl);(case aB=>exact HB.out);(case aF=>exact (fun _ _=>trivial));(case aO=>exact HR.out);(case aS=>exact HB.out.size);(case aL=>(have:=HLEN.out;omega));intro v1 w1 ho hbel hg hat;(have HO:=Aside0.mk ho);(have HBEL:=Aside0.mk hbel);clear ho hbel hg hat)
   go_roundw
   case rel =>
    refine ⟨i+1,by omega,by go_num,?_,⟨?_⟩,HBEL⟩
    ·rw [← HM.out,Int.ediv_ediv_of_nonneg (Int.pow_nonneg (by omega)),Int.pow_succ]
    ·rw [le_succ,HM.out];exact HO.out
   case measure=>simp [intOf];omega
  ·have hltz:¬ (i:Int) < s:=by omega
   obtain rfl:i=s:=by omega
   go_wp2
   go_ret
   exact ⟨_,rfl,HR.out,HB.out⟩
set_option maxRecDepth 100000 in
set_option maxHeartbeats 4000000 in
theorem reftext_ok (s:ByteArray) (w:World) (hs:s.size≤65535) :
  Calls Try.prog 89 #[.string s] w fun e w'=>∃ u,e=.returned u∧Kd.R (Kd.int .u8) 5 w' w.heap.size (fun _=>True) u (le s.size 2++bytesOf s)∧Below w.heap.size w w':=by
 have hnum:=refnum_ok (s.size:Int) 2 w (by omega) (by omega) (by omega)
 have hll:=le_length (s.size:Int) 2
 go_enter Try.func89,Try.ntmps89
 go_wp2_with (first
  | (go_at_call 88;refine hnum.mono ?_;rintro e w1 ⟨u,rfl,hR,hB⟩;(have HR:=Aside0.mk hR);(have HB:=Aside0.mk hB);obtain ⟨A,c,rfl⟩:=Kd.R_slice hR;clear hR hB)
  | (at_builtin;refine wpList_append_string_at _ w.heap.size HB.out.size rfl (.tmp 7) (.tmp 8) 67 9 5 rfl Try.underlying67 Try.underlying9 info8 (.slice A (le (s.size:Int) 2).length c) (le (s.size:Int) 2) (fun _=>True) rfl HR.out s rfl (by omega) ?_;intro v1 w2 ho hg hat;(have HO:=Aside0.mk ho);(have HB2:=Aside0.mk (HB.out.grown hg HB.out.size (fun k hk=>Kd.R_base HR.out k hk)));clear ho hg hat))
 go_ret
 exact ⟨_,rfl,Kd.R_mono HO.out (fun _ _=>trivial),HB2.out⟩
end Go.Proofs.Ytgjibcfkjaedfaa.Wire


-- A part of the text Prx11, thinned by a program of this session.
namespace Go.Proofs.Ytgjibcfkjaedfaa.Pr
open Go.RowKit Go.Proofs.YtgjibcfkjaedfaaW.PrintWords Go.Proofs.YtgjibcfkjaedfaaW.PrintLast Go.Proofs.YtgjibcfkjaedfaaW.PrintMore
attribute [local go_sem] max2_int min2_int max_two min_two max_three min_three max_four min_four
set_option linter.unusedVariables false
set_option linter.unusedSimpArgs false
def latticeref01_Num.f (a0:Int) (a1:Int):Option (List Int):=if 0≤a0∧a0 < 9223372036854775808∧0≤a1∧a1≤8 then some (Wire.le a0 a1.toNat) else none
theorem latticeref01_Num.calls (a0:Int) (a1:Int) (r:List Int) (w:World) (h:latticeref01_Num.f a0 a1=some r) :
  Calls Try.prog 88 #[.int .i64 a0,.int .i64 a1] w fun e w'=>∃ v_:Value,e=.returned v_∧Kd.R (Kd.int .u8) 5 w' w.heap.size (fun _=>True) v_ r∧Below w.heap.size w w':=by
 unfold latticeref01_Num.f at h
 split at h
 ·rename_i hc
  injection h with h
  subst h
  obtain ⟨h0,h1,h2,h3⟩:=hc
  obtain ⟨s,rfl⟩:=Int.eq_ofNat_of_zero_le h2
  rw [Int.toNat_natCast]
  exact Wire.refnum_ok a0 s w h0 h1 (by omega)
 ·cases h
end Go.Proofs.Ytgjibcfkjaedfaa.Pr


-- A part of the text Prx12, thinned by a program of this session.
namespace Go.Proofs.Ytgjibcfkjaedfaa.Pr
open Go.RowKit Go.Proofs.YtgjibcfkjaedfaaW.PrintWords Go.Proofs.YtgjibcfkjaedfaaW.PrintLast Go.Proofs.YtgjibcfkjaedfaaW.PrintMore
attribute [local go_sem] max2_int min2_int max_two min_two max_three min_three max_four min_four
set_option linter.unusedVariables false
set_option linter.unusedSimpArgs false
def latticeref01_Text.f (a0:ByteArray):Option (List Int):=if a0.size≤65535 then some (Wire.le a0.size 2++bytesOf a0) else none
theorem latticeref01_Text.calls (a0:ByteArray) (r:List Int) (w:World) (h:latticeref01_Text.f a0=some r) :
  Calls Try.prog 89 #[.string a0] w fun e w'=>∃ v_:Value,e=.returned v_∧Kd.R (Kd.int .u8) 5 w' w.heap.size (fun _=>True) v_ r∧Below w.heap.size w w':=by
 unfold latticeref01_Text.f at h
 split at h
 ·rename_i hc
  injection h with h
  subst h
  exact Wire.reftext_ok a0 w hc
 ·cases h
end Go.Proofs.Ytgjibcfkjaedfaa.Pr
