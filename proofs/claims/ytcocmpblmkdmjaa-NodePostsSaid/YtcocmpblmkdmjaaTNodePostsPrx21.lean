-- A part of the text Prx21, thinned by a program of this session.
import Derived.Test.YtcocmpblmkdmjaaTNodePostsPrx0
import Derived.Test.YtcocmpblmkdmjaaTNodePostsPrx9
import Derived.Test.YtcocmpblmkdmjaaTNodePostsPrx20
import Derived.Test.YtcocmpblmkdmjaaTNodePostsNodePost
namespace Go.Proofs.Ytcocmpblmkdmjaa.Pr
open Go.RowKit Go.Proofs.YtcocmpblmkdmjaaW.PrintWords Go.Proofs.YtcocmpblmkdmjaaW.PrintLast Go.Proofs.YtcocmpblmkdmjaaW.PrintMore
attribute [local go_sem] max2_int min2_int max_two min_two max_three min_three max_four min_four
set_option linter.unusedVariables false
set_option linter.unusedSimpArgs false
def node_Post.f (k:Nat) (a0_0:Int) (a0_1:Int) (a0_2:Int) (a0_3:ByteArray) (l0_4:List ByteArray) (l0_5:List ByteArray) (l0_6:List Int) (a1:ByteArray) (a2:Int):Option (Int×Int×Int×ByteArray×List ByteArray×List ByteArray×List Int×Int):=postG k a0_0 a0_1 a0_2 a0_3 l0_4 l0_5 l0_6 a1 a2
theorem node_Post.calls (k:Nat) (a0_0:Int) (a0_1:Int) (a0_2:Int) (a0_3:ByteArray) (A0_4:Option Addr) (c0_4:Nat) (l0_4:List ByteArray) (A0_5:Option Addr) (c0_5:Nat) (l0_5:List ByteArray) (A0_6:Option Addr) (c0_6:Nat) (l0_6:List Int) (a1:ByteArray) (a2:Int) (r1:Int) (r2:Int) (r3:Int) (r4:ByteArray) (r5:List ByteArray) (r6:List ByteArray) (r7:List Int) (r8:Int) (w:World) (hr0_4:Kd.C Kd.string w A0_4 l0_4.length l0_4) (hc0_4:l0_4.length≤c0_4) (hr0_5:Kd.C Kd.string w A0_5 l0_5.length l0_5) (hc0_5:l0_5.length≤c0_5) (hr0_6:Kd.C (Kd.int .i64) w A0_6 l0_6.length l0_6) (hc0_6:l0_6.length≤c0_6) (h:node_Post.f k a0_0 a0_1 a0_2 a0_3 l0_4 l0_5 l0_6 a1 a2=some (r1,r2,r3,r4,r5,r6,r7,r8)) :
  Calls Try.prog 26 #[.agg #[.int .i64 a0_0,.int .i64 a0_1,.int .i64 a0_2,.string a0_3,.slice A0_4 l0_4.length c0_4,.slice A0_5 l0_5.length c0_5,.slice A0_6 l0_6.length c0_6],.string a1,.int .i64 a2] w fun e w'=>∃ v4_ v5_ v6_:Value,e=.returned (.tuple #[.agg #[.int .i64 r1,.int .i64 r2,.int .i64 r3,.string r4,v4_,v5_,v6_],.int .i64 r8])∧Kd.R Kd.string 9 w' w.heap.size (fun k_=>some k_≠(v5_:Value).ownBlock) v4_ r5∧Kd.R Kd.string 9 w' w.heap.size (fun k_=>some k_≠(v4_:Value).ownBlock) v5_ r6∧Kd.R (Kd.int .i64) 3 w' w.heap.size (fun _=>True) v6_ r7∧Below w.heap.size w w' :=
 post_calls k a0_0 a0_1 a0_2 a0_3 A0_4 c0_4 l0_4 A0_5 c0_5 l0_5 A0_6 c0_6 l0_6 a1 a2 r1 r2 r3 r4 r5 r6 r7 r8 w hr0_4 hc0_4 hr0_5 hc0_5 hr0_6 hc0_6 h
end Go.Proofs.Ytcocmpblmkdmjaa.Pr
