-- A part of the text Ins, thinned by a program of this session.
import Derived.Test.YtcocmpblmkdmjaaTNodeBackShelf
import Derived.Test.YtcocmpblmkdmjaaTNodeBackPrx10
namespace Go.Proofs.Ytcocmpblmkdmjaa.Pr
open Go.RowKit Go.Proofs.YtcocmpblmkdmjaaW.PrintWords Go.Proofs.YtcocmpblmkdmjaaW.PrintLast Go.Proofs.YtcocmpblmkdmjaaW.PrintMore
set_option linter.unusedVariables false
set_option linter.unusedSimpArgs false
theorem setCell_heap {w:World} {b o:Nat} {u:Value} {cur:Array Value} {e:TypeId} {z:Nat×Nat} (h:w.heap[b]?=some (.cells cur e z)):(w.setCell ⟨b,o,none⟩ u).heap[b]?=some (.cells (cur.setIfInBounds o u) e z):=by
 unfold World.setCell
 simp [Array.getElem?_modify,h]
theorem setCells_heap (b:Nat) (e:TypeId) (z:Nat×Nat):∀ (vs:List Value) (o:Nat) (w:World) (cur:Array Value),w.heap[b]?=some (.cells cur e z)→(w.setCells b o vs).heap[b]?=some (.cells (Go.Lib.lay cur o vs) e z)
 | [],_,_,_,h=>h
 | v::r,o,w,cur,h=>by
  rw [World.setCells,Go.Lib.lay]
  exact setCells_heap b e z r (o+1) _ _ (setCell_heap h)
theorem setCells_rest (b:Nat):∀ (vs:List Value) (o:Nat) (w:World),(w.setCells b o vs).os=w.os∧(w.setCells b o vs).tape=w.tape∧(w.setCells b o vs).output=w.output∧(w.setCells b o vs).heap.size=w.heap.size∧∀ k,k≠b→(w.setCells b o vs).heap[k]?=w.heap[k]?
 | [],_,_=>⟨rfl,rfl,rfl,rfl,fun _ _=>rfl⟩
 | v::r,o,w=>by
  rw [World.setCells]
  obtain ⟨h1,h2,h3,h4,h5⟩:=setCells_rest b r (o+1) (w.setCell ⟨b,o,none⟩ v)
  exact ⟨h1,h2,h3,h4.trans (by simp [World.setCell]),fun k hk=>(h5 k hk).trans (Below.heap_setCell w ⟨b,o,none⟩ v k hk)⟩
theorem lay_size:∀ (vs:List Value) (o:Nat) (d:Array Value),(Go.Lib.lay d o vs).size=d.size
 | [],_,_=>rfl
 | v::r,o,d=>by
  rw [Go.Lib.lay,lay_size r (o+1)]
  simp
def Turned {α:Type} (d:Kd α) (e:Nat) (base:Nat) (ok:Nat→Prop) (w0 W:World) (v:Value) (ys:List α) (v1:Value) (w1:World):Prop :=
 Kd.R d e w1 base ok v1 ys∧Below base w0 w1∧W.grownBy w1 v.ownBlock∧(v1.ownBlock=v.ownBlock∨∃ b,v1.ownBlock=some b∧W.heap.size≤b)
theorem below_grown {w0 W w1:World} {base:Nat} {row:Option Nat} (hB:Below base w0 W) (hb:base≤W.heap.size) (hg:W.grownBy w1 row) (hr:∀ k,row=some k→base≤k):Below base w0 w1 :=
 ⟨hg.os.trans hB.os,hg.tape.trans hB.tape,hg.output.trans hB.output,Nat.le_trans hB.size hg.size,fun i hi=>(hg.block i (by omega) (fun e=>by have:=hr i e.symm;omega)).trans (hB.block i hi)⟩
theorem ins_list {α:Type} (cs:List α) (x:α) (i:Nat) (hi:i≤cs.length):(cs.take i++x::cs.drop i).length=cs.length+1:=by
 simp
 omega
theorem blk_newI (w:World) (o:Obj):(w.alloc o).heap[w.heap.size]?=some o:=by
 show (w.heap.push o)[w.heap.size]?=_
 simp
theorem shape_of {w:World} {b:Nat} {c:Array Value} {q:TypeId} {z:Nat×Nat} (h:w.heap[b]?=some (.cells c q z)):w.shape? b=some (q,c.size):=by
 unfold World.shape?
 rw [h]
theorem frozen_of {w:World} {b:Nat} {c:Array Value} {q:TypeId} (h:w.heap[b]?=some (.cells c q (0,0))) (o:Nat):w.frozen? ⟨b,o,none⟩=false:=by
 simp [World.frozen?,h]
theorem grown_cells {w w1:World} {o:Obj} (h:w1=w.drew.alloc o) (row:Option Nat):w.grownBy w1 row:=by
 subst h
 refine ⟨rfl,rfl,rfl,?_,fun k hk _=>?_⟩
 ·show w.heap.size≤(w.heap.push o).size
  rw [Array.size_push]
  omega
 show (w.heap.push o)[k]?=_
 rw [Array.getElem?_push,if_neg (by omega)]
theorem lay_two {α:Type} (d:Array α) (cs:List α) (x:α) (i:Nat) (hi:i≤cs.length) (hd:cs.length+1≤d.size) (ht:∀ j,j < i→d[j]?=cs[j]?) :
  (Go.Lib.lay (Go.Lib.lay d (i+1) (cs.drop i)) i [x]).toList.take (cs.length+1)=cs.take i++x::cs.drop i∧(Go.Lib.lay (Go.Lib.lay d i [x]) (i+1) (cs.drop i)).toList.take (cs.length+1)=cs.take i++x::cs.drop i:=by
 have hs:∀ (vs:List α) (o:Nat) (d:Array α),(Go.Lib.lay d o vs).size=d.size:=by
  intro vs
  induction vs with
  | nil=>intro o d;rfl
  | cons v r ih=>intro o d;rw [Go.Lib.lay,ih];simp
 have hdl:(cs.drop i).length=cs.length - i:=List.length_drop
 have htl:(cs.take i).length=i:=by rw [List.length_take];omega
 have key:∀ j,(cs.take i++x::cs.drop i)[j]?=if j < i then cs[j]? else if j=i then some x else cs[j - 1]?:=by
  intro j
  by_cases h1:j < i
  ·rw [if_pos h1,List.getElem?_append_left (by omega),List.getElem?_take,if_pos h1]
  ·rw [if_neg h1,List.getElem?_append_right (by omega),htl]
   by_cases h2:j=i
   ·rw [if_pos h2,h2,Nat.sub_self];rfl
   ·rw [if_neg h2,show j - i=(j - 1 - i)+1 by omega,List.getElem?_cons_succ,List.getElem?_drop,show i+(j - 1 - i)=j - 1 by omega]
 constructor
 ·apply List.ext_getElem?
  intro j
  rw [List.getElem?_take,key]
  by_cases h:j < cs.length+1
  ·rw [if_pos h,Array.getElem?_toList,Go.Lib.lay_get? _ _ _ _ (by rw [hs];simp only [List.length_cons,List.length_nil];omega),Go.Lib.lay_get? _ _ _ _ (by rw [hdl];omega)]
   simp only [List.length_cons,List.length_nil,hdl]
   by_cases h1:j < i
   ·rw [if_neg (by omega),if_neg (by omega),if_pos h1,ht j h1]
   ·rw [if_neg h1]
    by_cases h2:j=i
    ·rw [if_pos (by omega),if_pos h2,h2,Nat.sub_self];rfl
    ·rw [if_neg (by omega),if_pos (by omega),if_neg h2,List.getElem?_drop,show i+(j - (i+1))=j - 1 by omega]
  ·rw [if_neg h,if_neg (by omega),if_neg (by omega),List.getElem?_eq_none (by omega)]
 ·apply List.ext_getElem?
  intro j
  rw [List.getElem?_take,key]
  by_cases h:j < cs.length+1
  ·rw [if_pos h,Array.getElem?_toList,Go.Lib.lay_get? _ _ _ _ (by rw [hs,hdl];omega),Go.Lib.lay_get? _ _ _ _ (by simp only [List.length_cons,List.length_nil];omega)]
   simp only [List.length_cons,List.length_nil,hdl]
   by_cases h1:j < i
   ·rw [if_neg (by omega),if_neg (by omega),if_pos h1,ht j h1]
   ·rw [if_neg h1]
    by_cases h2:j=i
    ·rw [if_neg (by omega),if_pos (by omega),if_pos h2,h2,Nat.sub_self];rfl
    ·rw [if_pos (by omega),if_neg h2,List.getElem?_drop,show i+(j - (i+1))=j - 1 by omega]
  ·rw [if_neg h,if_neg (by omega),if_neg (by omega),List.getElem?_eq_none (by omega)]
theorem grown_sets {w w1:World} {b:Nat} (h1:w1.os=w.os) (h2:w1.tape=w.tape) (h3:w1.output=w.output) (h4:w.heap.size≤w1.heap.size) (h5:∀ k,k < w.heap.size→k≠b→w1.heap[k]?=w.heap[k]?):w.grownBy w1 (some b) :=
 ⟨h1,h2,h3,h4,fun k hk hb=>h5 k hk (fun e=>hb (by rw [e]))⟩
set_option maxHeartbeats 4000000 in
theorem insS_calls (w0 W:World) (base:Nat) (v:Value) (xs:List ByteArray) (i:Nat) (x:ByteArray) (vb:Nat) (ok:Nat→Prop) (q:TypeId) (hi:i≤xs.length) (hfresh:∀ k,W.heap.size≤k→ok k) (HO:Kd.R Kd.string 9 W base ok v xs)
  (hvb:W.heap[vb]?=some (.cells #[Value.string x] q (0,0))) (hne:some vb≠v.ownBlock) (HB:Below base w0 W) (hbase:base≤W.heap.size) (hl:(xs.length+1)*16≤140737488355328) :
  Calls Try.prog 49 #[v,.int .i64 i,.slice (some ⟨vb,0,none⟩) 1 1] W fun e w'=>∃ v1,e=.returned v1∧Turned Kd.string 9 base ok w0 W v (xs.take i++x::xs.drop i) v1 w':=by
 have hown:W.ownsRow base 9 1 v xs.length (encs (Value.string) xs):=Kd.own_of_R HO
 have hcl:(encs (Value.string) xs).length=xs.length:=by simp [encs]
 have henc:encs (Value.string) (xs.take i++x::xs.drop i)=(encs (Value.string) xs).take i++Value.string x::(encs (Value.string) xs).drop i:=by simp [encs]
 have hyl:(xs.take i++x::xs.drop i).length=xs.length+1:=ins_list xs x i hi
 have h1c:∀ u ∈ encs (Value.string) xs,u.oneCell'=true:=by
  intro u hu
  obtain ⟨y,_,rfl⟩:=List.mem_map.1 (by simpa [encs] using hu)
  rfl
 have h1v:∀ u ∈ [Value.string x],u.oneCell'=true:=by
  intro u hu
  rw [List.mem_singleton.1 hu]
  rfl
 have hvs:∀ (j:Nat) u,[Value.string x][j]?=some u→W.cell? ⟨vb,0+j,none⟩=some u:=by
  intro j u hj
  rcases j with _|j
  ·injection hj with hj
   subst hj
   simp [World.cell?,hvb]
  ·simp at hj
 have hvlt:vb < W.heap.size:=(Array.getElem?_eq_some_iff.1 hvb).1
 have fin:∀ (v1:Value) (w1:World),w1.ownsRow base 9 1 v1 (xs.length+1) ((encs (Value.string) xs).take i++Value.string x::(encs (Value.string) xs).drop i)→W.grownBy w1 v.ownBlock→(v1.ownBlock=v.ownBlock∨∃ b,v1.ownBlock=some b∧W.heap.size≤b)→Turned Kd.string 9 base ok w0 W v (xs.take i++x::xs.drop i) v1 w1:=by
  intro v1 w1 h1 h2 h3
  refine ⟨Kd.R_of_own (by rw [henc,hyl];exact h1) (fun k hk=>?_),below_grown HB hbase h2 (fun k hk=>(hown.lt k hk).1),h2,h3⟩
  rcases h3 with e1|⟨b,e1,hb⟩
  ·exact HO.1 k (by rw [← e1];exact hk)
  ·rw [e1] at hk
   injection hk with hk
   subst hk
   exact hfresh _ hb
 have fresh:∀ (cur:Array Value) (c:Nat) (w1:World),w1.heap[W.heap.size]?=some (.cells cur 9 (0,0))→xs.length+1≤c→c≤maxLen→cur.size=c→cur.toList.take (xs.length+1)=(encs (Value.string) xs).take i++Value.string x::(encs (Value.string) xs).drop i→w1.ownsRow base 9 1 (.slice (some ⟨W.heap.size,0,none⟩) (xs.length+1) c) (xs.length+1) ((encs (Value.string) xs).take i++Value.string x::(encs (Value.string) xs).drop i):=by
  intro cur c w1 h1 h2 h3 h4 h5
  refine ⟨by rw [ins_list _ _ _ (by rw [hcl];exact hi),hcl,Nat.mul_one],.inr ⟨_,c,cur,rfl,hbase,h1,h2,h3,by rw [h4,Nat.mul_one],by rw [Nat.mul_one];exact h5⟩⟩
 have hgm:∀ c,grownCap W (xs.length+1) c 9≤maxLen:=fun c=>grownCap_le_maxLen W _ c _ (by unfold maxLen;omega)
 have hgg:∀ c,xs.length+1≤grownCap W (xs.length+1) c 9:=fun c=>grownCap_ge W _ c _
 have hzc:∀ n,(Builtin.zeroCells (Value.string ⟨#[]⟩).cells n).size=n:=fun n=>by
  rw [size_zeroCells]
  exact Nat.mul_one n
 obtain ⟨_,ho⟩:=hown
 rcases ho with ⟨rfl,hn0⟩|⟨g,cap,cur,rfl,hg,hh,hnc,hcm,hcs,htk⟩
 ·have hx:xs=[]:=List.length_eq_zero_iff.1 hn0
  subst hx
  have hi0:i=0:=by simpa using hi
  subst hi0
  refine (Any2.slices_Insert_string_end_grow Try.layInsS none 0 0 vb 0 1 1 [] [Value.string x] W (by decide) (by decide) (by decide) (by decide) rfl rfl (fun _=>rfl) (fun _ h=>by cases h) hvs h1v).mono ?_
  rintro e w' ⟨rfl,rfl⟩
  refine ⟨_,rfl,fin _ _ ?_ (grown_cells rfl _) (.inr ⟨_,rfl,Nat.le_refl _⟩)⟩
  refine fresh _ _ _ (blk_newI _ _) (hgg 0) (hgm 0) ?_ ?_
  ·have h9:=hgg 0
   simp only [List.length_nil] at h9
   have hr:Try.layInsS_ren.t 9=9:=rfl
   rw [hr]
   generalize grownCap W _ _ _=G at *
   simp [hzc]
   omega
  ·simp [encs]
 ·rw [Nat.mul_one] at htk hcs
  have hcm':cap≤9223372036854775807:=hcm
  have hgl:g < W.heap.size:=(Array.getElem?_eq_some_iff.1 hh).1
  have hvg:vb≠g:=fun e=>hne (by rw [e];rfl)
  have hcell:∀ (j:Nat) u,(encs (Value.string) xs)[j]?=some u→W.cell? ⟨g,0+j,none⟩=some u:=by
   intro j u hj
   rw [← htk,List.getElem?_take] at hj
   split at hj
   ·simp [World.cell?,hh]
    simpa using hj
   ·cases hj
  have hsome:∀ j,j < cap→(W.cell? ⟨g,0+j,none⟩).isSome=true:=by
   intro j hj
   simp [World.cell?,hh,hcs]
   exact hj
  have hfro:∀ j,W.frozen? ⟨g,0+j,none⟩=false:=by
   intro j
   simp [World.frozen?,hh]
  rcases Nat.lt_or_ge i xs.length with hlt|hge
  ·have hd:((encs (Value.string) xs).drop i).length=xs.length - i:=by rw [List.length_drop,hcl]
   rcases Nat.lt_or_ge cap (xs.length+1) with hc|hc
   ·refine (Any2.slices_Insert_string_grow Try.layInsS g 0 xs.length cap i vb 0 1 1 (encs (Value.string) xs) [Value.string x] W hlt (by decide) hnc hc hl hcl rfl hcell hvs h1c h1v).mono ?_
    rintro e w' ⟨rfl,rfl⟩
    generalize hG:grownCap W (xs.length+1) cap 9=G at *
    have hG1:=hgg cap
    have hG2:=hgm cap
    rw [hG] at hG1 hG2
    have hG':grownCap W (xs.length+1) cap (Try.layInsS_ren.t 9)=G:=hG
    refine ⟨_,rfl,fin _ _ ?_ ?_ (.inr ⟨_,rfl,Nat.le_refl _⟩)⟩
    ·rw [hG']
     refine fresh _ _ _ (setCells_heap W.heap.size 9 (0,0) _ _ _ _ (setCells_heap W.heap.size 9 (0,0) _ _ _ _ (blk_newI W _))) hG1 hG2 ?_ ?_
     ·rw [lay_size,lay_size]
      simp [hzc,hcl]
      omega
     ·have hq:=(lay_two (((encs (Value.string) xs).take i).toArray++Builtin.zeroCells (Value.string ⟨#[]⟩).cells (xs.length+1 - i)++Builtin.zeroCells (Value.string ⟨#[]⟩).cells (G - (xs.length+1))) (encs (Value.string) xs) (Value.string x) i (by omega) (by simp [hzc,hcl];omega) (fun j hj=>?_)).2
      ·rw [hcl] at hq
       exact hq
      ·rw [Array.getElem?_append_left (by simp [hzc,hcl];omega),Array.getElem?_append_left (by simp [hcl];omega)]
       simp [List.getElem?_take,hj]
    ·obtain ⟨s1,s2,s3,s4,s5⟩:=setCells_rest W.heap.size ((encs (Value.string) xs).drop i) (i+1) (((W.alloc (.cells (((encs (Value.string) xs).take i).toArray++Builtin.zeroCells (Value.string ⟨#[]⟩).cells (xs.length+1 - i)++Builtin.zeroCells (Value.string ⟨#[]⟩).cells (grownCap W (xs.length+1) cap (Try.layInsS_ren.t 9) - (xs.length+1))) (Try.layInsS_ren.t 9))).drew.setCells W.heap.size i [Value.string x]).drew)
     obtain ⟨q1,q2,q3,q4,q5⟩:=setCells_rest W.heap.size [Value.string x] i ((W.alloc (.cells (((encs (Value.string) xs).take i).toArray++Builtin.zeroCells (Value.string ⟨#[]⟩).cells (xs.length+1 - i)++Builtin.zeroCells (Value.string ⟨#[]⟩).cells (grownCap W (xs.length+1) cap (Try.layInsS_ren.t 9) - (xs.length+1))) (Try.layInsS_ren.t 9))).drew)
     refine ⟨s1.trans q1,s2.trans q2,s3.trans q3,?_,fun k hk _=>(s5 k (by omega)).trans ((q5 k (by omega)).trans ?_)⟩
     ·rw [s4]
      refine Nat.le_trans ?_ (Nat.le_of_eq q4.symm)
      show W.heap.size≤(W.heap.push _).size
      rw [Array.size_push]
      omega
     ·show (W.heap.push _)[k]?=_
      rw [Array.getElem?_push,if_neg (by omega)]
   ·refine (Any2.slices_Insert_string_shift Try.layInsS g 0 xs.length cap i vb 0 1 1 (encs (Value.string) xs) [Value.string x] W hlt (by decide) hc hcm' hvg hcl rfl hcell (fun j hj=>hsome j (by omega)) (fun j _=>hfro j) hvs h1c h1v q 9 1 cur.size (shape_of hvb) (shape_of hh) (by omega) (frozen_of hvb 0) (frozen_of hvb 1)).mono ?_
    rintro e w' ⟨rfl,rfl⟩
    simp only [Nat.zero_add]
    obtain ⟨s1,s2,s3,s4,s5⟩:=setCells_rest g [Value.string x] i (W.drew.setCells g (i+1) ((encs (Value.string) xs).drop i))
    obtain ⟨q1,q2,q3,q4,q5⟩:=setCells_rest g ((encs (Value.string) xs).drop i) (i+1) W.drew
    refine ⟨_,rfl,fin _ _ ⟨?_,.inr ⟨g,cap,_,rfl,hg,setCells_heap g 9 (0,0) _ _ _ _ (setCells_heap g 9 (0,0) _ _ W.drew _ hh),hc,hcm,?_,?_⟩⟩ (grown_sets (s1.trans q1) (s2.trans q2) (s3.trans q3) (Nat.le_of_eq (s4.trans q4).symm) (fun k _ hk=>(s5 k hk).trans (q5 k hk))) (.inl rfl)⟩
    ·rw [ins_list _ _ _ (by rw [hcl];exact hi),hcl,Nat.mul_one]
    ·rw [lay_size,lay_size,Nat.mul_one,hcs]
    ·rw [Nat.mul_one]
     have hq:=(lay_two cur (encs (Value.string) xs) (Value.string x) i (by omega) (by omega) (fun j hj=>?_)).1
     ·rw [hcl] at hq
      exact hq
     ·rw [← htk,List.getElem?_take,if_pos (by omega),Array.getElem?_toList]
  ·have hie:i=xs.length:=by omega
   subst hie
   have hdr:(encs (Value.string) xs).drop xs.length=[]:=List.drop_eq_nil_of_le (by omega)
   have htk2:(encs (Value.string) xs).take xs.length=encs (Value.string) xs:=List.take_of_length_le (by omega)
   rcases Nat.lt_or_ge cap (xs.length+1) with hc|hc
   ·refine (Any2.slices_Insert_string_end_grow Try.layInsS (some ⟨g,0,none⟩) xs.length cap vb 0 1 1 (encs (Value.string) xs) [Value.string x] W (by decide) hnc hc hl hcl rfl (fun h=>by cases h) (fun a ha j u hj=>by cases ha;rw [Addr.add_lit];exact hcell j u hj) hvs h1v).mono ?_
    rintro e w' ⟨rfl,rfl⟩
    refine ⟨_,rfl,fin _ _ ?_ (grown_cells rfl _) (.inr ⟨_,rfl,Nat.le_refl _⟩)⟩
    refine fresh _ _ _ (blk_newI _ _) (hgg cap) (hgm cap) ?_ ?_
    ·have h9:=hgg cap
     have hr:Try.layInsS_ren.t 9=9:=rfl
     rw [hr]
     generalize grownCap W _ _ _=G at *
     simp [hzc,hcl]
     omega
    ·rw [htk2,hdr,Array.toList_append]
     exact List.take_left' (by simp [hcl])
   ·refine (Any2.slices_Insert_string_end_room Try.layInsS g 0 xs.length cap vb 0 1 1 [Value.string x] W (by decide) hc hcm' rfl (fun j hj=>by rw [Nat.add_assoc];exact hsome (xs.length+j) (by omega)) (fun j _=>by rw [Nat.add_assoc];exact hfro _) hvs h1v).mono ?_
    rintro e w' ⟨rfl,rfl⟩
    simp only [Nat.zero_add]
    obtain ⟨s1,s2,s3,s4,s5⟩:=setCells_rest g [Value.string x] xs.length W
    refine ⟨_,rfl,fin _ _ ⟨?_,.inr ⟨g,cap,_,rfl,hg,setCells_heap g 9 (0,0) _ _ _ _ hh,hc,hcm,?_,?_⟩⟩ (grown_sets s1 s2 s3 (Nat.le_of_eq s4.symm) (fun k _ hk=>s5 k hk)) (.inl rfl)⟩
    ·rw [ins_list _ _ _ (by omega),hcl,Nat.mul_one]
    ·rw [lay_size,Nat.mul_one,hcs]
    ·rw [Nat.mul_one]
     have hq:=(lay_two cur (encs (Value.string) xs) (Value.string x) xs.length (by omega) (by omega) (fun j hj=>?_)).1
     ·rw [hcl,hdr] at hq
      rw [hdr]
      exact hq
     ·rw [← htk,List.getElem?_take,if_pos (by omega),Array.getElem?_toList]
theorem lay_all {α:Type} (d:Array α) (vs:List α) (n:Nat) (hn:n≤vs.length) (hd:vs.length≤d.size):(Go.Lib.lay d 0 vs).toList.take n=vs.take n:=by
 apply List.ext_getElem?
 intro j
 rw [List.getElem?_take,List.getElem?_take]
 by_cases h:j < n
 ·rw [if_pos h,if_pos h,Array.getElem?_toList,Go.Lib.lay_get? _ _ _ _ (by omega),if_pos (by omega),Nat.sub_zero]
 ·rw [if_neg h,if_neg h]
theorem strs_encs (xs:List ByteArray):(Go.Lib.strsOf (fun j=>xs.getD j ⟨#[]⟩) xs.length).map Go.Proofs.encStr=encs Value.string xs:=by
 apply List.ext_getElem?
 intro j
 unfold Go.Lib.strsOf encs
 simp only [List.getElem?_map,List.map_map]
 by_cases h:j < xs.length
 ·rw [List.getElem?_range h,List.getElem?_eq_getElem h]
  simp [h]
 ·rw [List.getElem?_eq_none (by simp;omega),List.getElem?_eq_none (by omega)]
  rfl
set_option maxHeartbeats 4000000 in
theorem delS_calls (w0 W:World) (base:Nat) (v:Value) (xs:List ByteArray) (i:Nat) (ok:Nat→Prop) (hi:i < xs.length) (HO:Kd.R Kd.string 9 W base ok v xs) (HB:Below base w0 W) (hbase:base≤W.heap.size) :
  Calls Try.prog 52 #[v,.int .i64 i,.int .i64 ((i+1:Nat):Int)] W fun e w'=>∃ v1,e=.returned v1∧Turned Kd.string 9 base ok w0 W v (xs.take i++xs.drop (i+1)) v1 w':=by
 have hown:W.ownsRow base 9 1 v xs.length (encs (Value.string) xs):=Kd.own_of_R HO
 have hcl:(encs (Value.string) xs).length=xs.length:=by simp [encs]
 have henc:encs (Value.string) (xs.take i++xs.drop (i+1))=(encs (Value.string) xs).take i++(encs (Value.string) xs).drop (i+1):=by simp [encs]
 have hyl:(xs.take i++xs.drop (i+1)).length=xs.length - 1:=by simp;omega
 have hlt:=hown.lt
 obtain ⟨_,ho⟩:=hown
 rcases ho with ⟨rfl,hn0⟩|⟨g,cap,cur,rfl,hg,hh,hnc,hcm,hcs,htk⟩
 ·omega
 ·rw [Nat.mul_one] at htk hcs
  have hcell:∀ j,j < xs.length→W.cell? ⟨g,0+j,none⟩=some (.string (xs.getD j ⟨#[]⟩)):=by
   intro j hj
   have h1:(encs (Value.string) xs)[j]?=some (.string (xs.getD j ⟨#[]⟩)):=by simp [encs,hj]
   rw [← htk,List.getElem?_take,if_pos hj,Array.getElem?_toList] at h1
   simp [World.cell?,hh,h1]
  refine (Any.slices_Delete_string_cells Try.layDelS g 0 xs.length cap i (i+1) (fun j=>xs.getD j ⟨#[]⟩) W hnc hcm (by omega) (by omega) hcell (fun j _=>frozen_of hh (0+j))).mono ?_
  rintro e w' ⟨rfl,q,rfl⟩
  have hv:((Go.Lib.strsOf (fun j=>xs.getD j ⟨#[]⟩) xs.length).take i++(Go.Lib.strsOf (fun j=>xs.getD j ⟨#[]⟩) xs.length).drop (i+1)++List.replicate (i+1 - i) []).map Go.Proofs.encStr=(encs Value.string xs).take i++(encs Value.string xs).drop (i+1)++List.replicate (i+1 - i) (Go.Proofs.encStr []):=by
   rw [List.map_append,List.map_append,List.map_take,List.map_drop,strs_encs,List.map_replicate]
  rw [hv]
  have hvl:((encs Value.string xs).take i++(encs Value.string xs).drop (i+1)++List.replicate (i+1 - i) (Go.Proofs.encStr [])).length=xs.length:=by
   simp [hcl]
   omega
  generalize hV:(encs Value.string xs).take i++(encs Value.string xs).drop (i+1)++List.replicate (i+1 - i) (Go.Proofs.encStr [])=V at hvl
  have hVt:V.take (xs.length - 1)=(encs Value.string xs).take i++(encs Value.string xs).drop (i+1):=by
   rw [← hV]
   exact List.take_left' (by simp [hcl];omega)
  obtain ⟨s1,s2,s3,s4,s5⟩:=setCells_rest g V 0 (W.drewN q)
  have hgr:W.grownBy ((W.drewN q).setCells g 0 V) (some g):=grown_sets s1 s2 s3 (Nat.le_of_eq s4.symm) (fun k _ hk=>s5 k hk)
  refine ⟨_,rfl,Kd.R_of_own ?_ (fun k hk=>HO.1 k hk),below_grown HB hbase hgr (fun k hk=>(hlt k hk).1),hgr,.inl rfl⟩
  rw [henc,hyl,show i+1 - i=1 by omega]
  refine ⟨?_,.inr ⟨g,cap,_,rfl,hg,setCells_heap g 9 (0,0) _ _ (W.drewN q) _ hh,by omega,hcm,by rw [lay_size,Nat.mul_one,hcs],?_⟩⟩
  ·simp [hcl]
   omega
  ·rw [Nat.mul_one,lay_all _ _ _ (by omega) (by omega),hVt]
end Go.Proofs.Ytcocmpblmkdmjaa.Pr
