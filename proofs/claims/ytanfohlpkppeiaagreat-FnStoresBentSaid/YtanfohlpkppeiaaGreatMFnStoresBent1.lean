import Derived.Test.YtanfohlpkppeiaaGreatProg
import Derived.Below
import Derived.Deep.Draws
import Derived.Deep.AppendLies
import Derived.Maps.AppendAt
import Derived.OwnWalk
import Derived.Laws.BytesArg
import Derived.Laws.MakeOwn
import Derived.Laws.OwnMore
import Derived.Deep.OwnRows
import Derived.Tactics
import Derived.Lib.ConvBytes
import Derived.Laws.Slices
import Derived.WalkKit
import Derived.KernelRfl
import Derived.RowKit3
import Derived.Deep.LoopGhost
import Derived.Deep.QuietTactic
import Derived.BigQuiet
import Derived.WideLaws
import Derived.Deep.DeepCutAuto
import Derived.Deep.CutBlock
import Derived.Deep.RegionHeld3
import Derived.Laws.Rows
import Derived.Lib.AppendStr
import Derived.ArgAppend
import Derived.Laws.IdiomCopy
import Derived.OrdersHeld
import Derived.Laws.BitsLemmas
import Derived.RowKit
import Derived.Test.YtanfohlpkppeiaaGreatMFnStoresBent0
import Derived.Laws.Cover1
import Derived.Shelf.Strings.Builder1
import Derived.Shelf.Strings.Builder2
import Derived.Shelf.Strings.OnBuilder
import Derived.Ground.GgsProg
import Derived.Shelf.GgSortFunc.Insertion
import Derived.Shelf.GgSortFunc.InsertionK
import Derived.Shelf.GgSortFunc.Tiny
import Derived.Shelf.GgSortFunc.Compose
import Derived.Ground.GgtProg
import Derived.Shelf.GgSortMore.Stable
section
namespace Go.Proofs.YtanfohlpkppeiaaGreat.Print
open Go.RowKit Go.Proofs.YtanfohlpkppeiaaGreatV.PrintWords Go.Proofs.YtanfohlpkppeiaaGreatV.PrintLast Go.Proofs.YtanfohlpkppeiaaGreatV.PrintMore
attribute [local go_sem] max2_int min2_int max_two min_two max_three min_three max_four min_four
set_option linter.unusedVariables false
set_option linter.unusedSimpArgs false
set_option maxHeartbeats 80000000
set_option maxRecDepth 100000
def errW:Option Int→Value
 | none=>.nilIface
 | some c=>.iface 0 (.int .i64 c)
theorem errW_none:errW none=.nilIface:=rfl
theorem errW_some (c:Int):errW (some c)=.iface 0 (.int .i64 c):=rfl

theorem info9:(Tryz.prog.info? 9).map (fun i=>(i.zero,i.size,i.bytes))=some (some (.string ⟨#[]⟩),1,16):=by kernel_rfl
theorem info26:(Tryz.prog.info? 26).map (fun i=>(i.zero,i.size,i.bytes))=some (some (.agg #[(.int .i64 0),(.int .i64 0),(.slice none 0 0)]),3,40):=by kernel_rfl
theorem info29:(Tryz.prog.info? 29).map (fun i=>(i.zero,i.size,i.bytes))=some (some (.agg #[(.slice none 0 0),(.int .i64 0),(.int .i64 0),(.string ⟨#[]⟩)]),4,56):=by kernel_rfl
theorem info80:(Tryz.prog.info? 80).map (fun i=>(i.zero,i.size,i.bytes))=some (some (.agg #[(.int .i64 0),(.slice none 0 0)]),2,32):=by kernel_rfl
theorem info99:(Tryz.prog.info? 99).map (fun i=>(i.zero,i.size,i.bytes))=some (some (.agg #[(.string ⟨#[]⟩),(.string ⟨#[]⟩)]),2,32):=by kernel_rfl
def Kd.slS {α:Type} (e:Nat) (d:Kd α):Kd (List α) where
 sz:=1
 E:=e::d.E
 K:=(Kd.slice e d).K
 M:=fun w base ok xs cs=>∃v,cs=[v]∧Kd.S d e w base ok v xs
 K_len:=(Kd.slice e d).K_len
 K_one:=(Kd.slice e d).K_one
 K_below:=(Kd.slice e d).K_below
 K_of_M:=by
  rintro w base ok x cs ⟨v,rfl,h⟩
  obtain⟨A,c,rfl,hl,hr⟩:=Kd.S_reads h
  exact⟨A,c,rfl,hl,hr⟩
 M_mono:=by
  rintro w base ok ok' x cs hok ⟨v,rfl,h⟩
  exact⟨v,rfl,Kd.S_mono h hok⟩
 M_bound:=by
  rintro w base ok x cs ⟨v,rfl,h⟩
  exact⟨v,rfl,Kd.S_bound h⟩
 M_move:=by
  rintro w w1 base ok x cs hm ⟨v,rfl,h⟩
  exact⟨v,rfl,Kd.S_move h hm⟩
 M_lower:=by
  rintro w base base' ok x cs hb ⟨v,rfl,h⟩
  exact⟨v,rfl,Kd.S_lower h hb⟩
theorem List.zipIdx_append' {α:Type} (xs ys:List α):(xs++ys).zipIdx=xs.zipIdx++ys.zipIdx xs.length:=by rw[List.zipIdx_append];simp
open Classical in
theorem sar_tags {α:Type} {d:Kd α} {e base m c:Nat} {W:World} {ok okp:Nat→Prop} {v:Value} {A:Option Addr} {xs ys:List α} (HO:Kd.S d e W base (fun k=>ok k∧¬okp k) v xs) (HX:Kd.S d e W base okp (.slice A m c) ys) :
  ∃F:Nat→Nat,(Kd.tag F d).R e W base ok v xs.zipIdx∧ReadsRow (fun (p:α×Nat) cs=>d.M W base (fun k=>okp k∧F k=p.2) p.1 cs) d.sz W A m (ys.zipIdx xs.length)∧∀(p:α×Nat) cs,d.M W base (fun k=>okp k∧F k=p.2) p.1 cs→(Kd.tag F d).M W base okp p cs:=by
 obtain⟨f,hf⟩:=HO
 obtain⟨fx,hx⟩:=HX
 refine⟨fun k=>if okp k then fx k+xs.length else f k,Kd.R_mono (Kd.R_tag hf (fun k hk _=>if_neg hk.2)) (fun _ hk=>hk.1),?_,fun p cs h=>h⟩
 obtain⟨A',c',he,hl,hr⟩:=OwnRow.reads hx.2
 injection he with e1 e2 e3
 subst e1
 rw[List.length_zipIdx] at e2
 subst e2
 rw[List.length_zipIdx] at hr
 refine⟨by rw[List.length_zipIdx],hr.2.1,fun hn=>?_⟩
 obtain⟨ad,ha,hc⟩:=hr.2.2 hn
 refine⟨ad,ha,fun j p hj=>?_⟩
 rw[List.getElem?_zipIdx] at hj
 obtain⟨y,hy,rfl⟩:=Option.map_eq_some_iff.1 hj
 obtain⟨cs,h1,h2,h3⟩:=hc j (y,j) (Kd.zip_at hy)
 exact⟨cs,h1,d.M_mono (fun k hk=>⟨hk.1.1,by have h9:fx k=j:=hk.2;show (if okp k then fx k+xs.length else f k)=xs.length+j;rw[if_pos hk.1.1];omega⟩) h2,h3⟩
theorem Kd.S_append_rows {P:Program} {ops:Array Oper} {rest:List Oper} {o:Oper} {a:Act} {Q:Exit→Act→World→Prop} {α:Type} (d:Kd α) {w0 W:World} (base:Nat) (hgd:o.guard=none) (s x:Operand) (t e:TypeId) (z:Value) (bytes:Nat)
  (ho:o.op=.call { callee:=.builtin .append,args:=#[s,x],argTypes:=#[t,t] })
  (ht:P.underlying t=some (.slice e)) (hinfo:(P.info? e).map (fun i=>(i.zero,i.size,i.bytes))=some (some z,d.sz,bytes)) (hz:z.cells.size=d.sz) (hs0:0<d.sz) (hb0:0<bytes)
  (v:Value) (xs ys:List α) (A:Option Addr) (m c:Nat) (ok okp:Nat→Prop) (hs:a.eval s=v) (hx:a.eval x=.slice A m c)
  (HX:Kd.S d e W base okp (.slice A m c) ys) (hokp:∀k,okp k→ok k∧some k≠v.ownBlock) (hfresh:∀k,W.heap.size≤k→ok k)
  (HO:Kd.S d e W base (fun k=>ok k∧¬okp k) v xs) (HB:Below base w0 W) (hbase:base≤W.heap.size) (hl:(xs.length+ys.length)*bytes≤140737488355328)
  (h:∀v1 w1,Kd.S d e w1 base ok v1 (xs++ys)→Below base w0 w1→W.grownBy w1 v.ownBlock→(v1.ownBlock=v.ownBlock∨∃b,v1.ownBlock=some b∧W.heap.size≤b)→wpList P ops Q rest (a.put o.dst v1) w1) :
  wpList P ops Q (o::rest) a W:=by
 obtain⟨F,hR,hX,hM⟩:=sar_tags HO HX
 have hm:ys.length=m:=(Kd.S_reads' HX).1.symm
 refine Kd.R_append_rows (Kd.tag F d) base hgd s x t e z bytes ho ht hinfo hz hs0 hb0 v xs.zipIdx (ys.zipIdx xs.length) A m c ok okp hs hx hR hX hM hokp hfresh HB hbase (by rw[List.length_zipIdx,←hm];exact hl) ?_
 intro v1 w1 hr hb hg hat
 rw[←List.zipIdx_append' xs ys] at hr
 exact h v1 w1 ⟨F,hr⟩ hb hg hat
theorem Kd.S_times {α:Type} {d:Kd α} {e base:Nat} {W:World} {ok oku:Nat→Prop} {v u:Value} {xs:List α} (h:Kd.S d e W base ok v xs) (hu:∀k,u.ownBlock=some k→oku k) (ha:∀k,ok k→oku k→False):Kd.S d e W base (fun k=>ok k∧some k≠u.ownBlock) v xs:=Kd.S_mono h (fun k hk=>⟨hk,fun e=>ha k hk (hu k e.symm)⟩)
theorem Kd.S_lit2 {P:Program} {ops:Array Oper} {rest:List Oper} {o:Oper} {a:Act} {Q:Exit→Act→World→Prop} {α:Type} (d:Kd α) {W:World} (base e:Nat) (hgd:o.guard=none) {N:Tmp} (hd:o.dst=some N) {x:α} {cs:List Value} {ok okp:Nat→Prop} (okt:Nat→Prop)
  (hrun:(execOp a.eval o).run P W=.ok (.value (.slice (some ⟨W.heap.size,0,none⟩) [x].length [x].length)) (W.alloc (.cells cs.toArray e)))
  (hp:d.M W base okp x cs) (hokt:∀k,okp k→okt k) (hok:∀k,okp k→ok k) (hfresh:ok W.heap.size) (hbase:base≤W.heap.size)
  (h:∀v1 w1,Kd.S d e w1 base (fun k=>ok k∧(some k=v1.ownBlock∨okt k)) v1 [x]→Below W.heap.size W w1→(∀k,v1.ownBlock=some k→W.heap.size≤k)→wpList P ops Q rest (a.put o.dst v1) w1) :
  wpList P ops Q (o::rest) a W:=by
 refine Kd.S_lits (w0:=W) d base e hgd hd (xs:=[x]) (inner:=cs) (ok:=fun k=>ok k∧(k=W.heap.size∨(okt k∧k<W.heap.size))) (fun j k=>j=0∧(okp k∧k<W.heap.size)) hrun (by rw[d.K_len (d.K_of_M hp)];simp) ?_ (fun i j k hi hj=>hi.1.trans hj.1.symm) (fun j k hk=>⟨hok k hk.2.1,.inr ⟨hokt k hk.2.1,hk.2.2⟩⟩) ⟨hfresh,.inl rfl⟩ (Below.refl _ _) hbase (by simp) ?_
 ·
  intro j y hj
  cases j with
  | zero=>
   obtain rfl:x=y:=by simpa using hj
   rw[Nat.zero_mul,List.drop_zero,List.take_of_length_le (Nat.le_of_eq (d.K_len (d.K_of_M hp)))];exact d.M_mono (fun k hk=>⟨rfl,hk.1,hk.2.2.1⟩) (d.M_bound hp)
  | succ j=>simp at hj
 intro v1 w1 hs _ hg hn
 obtain⟨b,hb,hl⟩:=hn
 have h3:b=W.heap.size:=by
  rcases ((Kd.S_R hs).1 b hb).2 with h2|h2
  ·
   exact h2
  exact absurd h2.2 (by omega)
 exact h v1 w1 (Kd.S_mono hs (fun k hk=>⟨hk.1,hk.2.elim (fun he=>.inl (by rw[hb,he,h3])) (fun he=>.inr he.1)⟩)) (Below.grown (Below.refl _ _) hg (Nat.le_refl _) (fun k e=>by cases e)) (fun k e=>by rw[hb] at e;cases e;exact hl)
theorem box_stepL {P:Program} {ops:Array Oper} {o:Oper} {a:Act} {Q:Exit→Act→World→Prop} {Kc:Act→World→Prop} {W:World} (hw:Region.wanted o (yielded ops a.tmps)=true) {N:Tmp} (_hd:o.dst=some N) {cs:Array Value} {t:TypeId}
  (hrun:(execOp a.eval o).run P W=.ok (.value (.slice (some ⟨W.heap.size,0,none⟩) 1 1)) (W.alloc (.cells cs t (0,0))))
  (h:∀g,g=W.heap.size→∀w1,w1.heap[g]?=some (.cells cs t (0,0))→Below W.heap.size W w1→Kc (a.put o.dst (.slice (some ⟨g,0,none⟩) 1 1)) w1):if Region.wanted o (yielded ops a.tmps)=true then Oper.wp P o a W Kc Q else Kc (a.put o.dst undef) W:=
 event_step hw hrun (h _ rfl _ (blk_new W _) (ba_ (Below.refl _ _) _))
theorem Kd.reads1 {α:Type} {d:Kd α} {e base:Nat} {W:World} {p:α} {n g:Nat} {cs:List Value} {okp:Nat→Prop} {f:Nat→Nat} (hbx:W.heap[g]?=some (.cells cs.toArray e (0,0))) (hp:d.M W base okp p cs) (hf:∀k,okp k→f k=n) :
  ReadsRow (fun (q:α×Nat) cs=>d.M W base (fun k=>okp k∧f k=q.2) q.1 cs) d.sz W (some ⟨g,0,none⟩) 1 [(p,n)]:=by
 refine⟨rfl,by decide,fun _=>⟨_,rfl,fun j q hj=>?_⟩⟩
 cases j with
 | zero=>
  obtain rfl:(p,n)=q:=by simpa using hj
  refine⟨cs,d.K_len (d.K_of_M hp),d.M_mono (fun k hk=>⟨hk,hf k hk⟩) hp,fun i u hu=>?_⟩
  rw[Nat.zero_mul,Nat.zero_add]
  rw[show (⟨g,0,none⟩:Addr).add i=⟨g,i,none⟩ by unfold Addr.add;split<;>simp_all,blk_cell hbx]
  simpa using hu
 | succ j=>simp at hj
theorem Kd.S_append_box_step {P:Program} {ops:Array Oper} {o:Oper} {a:Act} {Q:Exit→Act→World→Prop} {Kc:Act→World→Prop} {α:Type} (d:Kd α) {w0 W:World} (base:Nat) (hw:Region.wanted o (yielded ops a.tmps)=true) (s x:Operand) (t e:TypeId) (z:Value) (bytes:Nat)
  (ho:o.op=.call { callee:=.builtin .append,args:=#[s,x],argTypes:=#[t,t] })
  (ht:P.underlying t=some (.slice e)) (hinfo:(P.info? e).map (fun i=>(i.zero,i.size,i.bytes))=some (some z,d.sz,bytes)) (hz:z.cells.size=d.sz) (hs0:0<d.sz) (hb0:0<bytes)
  (v:Value) (xs:List α) (p:α) (cs:List Value) (ok okp:Nat→Prop) (g:Nat) (hbx:W.heap[g]?=some (.cells cs.toArray e (0,0))) (hs:a.eval s=v) (hx:a.eval x=.slice (some ⟨g,0,none⟩) 1 1) (hp:d.M W base okp p cs) (hokp:∀k,okp k→ok k∧some k≠v.ownBlock) (hfresh:∀k,W.heap.size≤k→ok k)
  (HO:Kd.S d e W base (fun k=>ok k∧¬okp k) v xs) (HB:Below base w0 W) (hbase:base≤W.heap.size) (hl:(xs.length+1)*bytes≤140737488355328)
  (h:∀v1 w1,Kd.S d e w1 base ok v1 (xs++[p])→Below base w0 w1→W.grownBy w1 v.ownBlock→(v1.ownBlock=v.ownBlock∨∃b,v1.ownBlock=some b∧W.heap.size≤b)→Kc (a.put o.dst v1) w1) :
  if Region.wanted o (yielded ops a.tmps)=true then Oper.wp P o a W Kc Q else Kc (a.put o.dst undef) W:=by
 obtain⟨f,hf,hR⟩:=Kd.S_tag HO xs.length okp (fun _ hk h2=>h2.2 hk)
 refine Kd.R_append_rows_step (Kd.tag f d) base hw s x t e z bytes ho ht hinfo hz hs0 hb0 v xs.zipIdx [(p,xs.length)] (some ⟨g,0,none⟩) 1 1 ok okp hs hx (Kd.R_mono hR (fun _ hk=>hk.1)) (Kd.reads1 hbx hp hf) (fun _ _ h=>h) hokp hfresh HB hbase (by rw[List.length_zipIdx];exact hl) ?_
 intro v1 w1 hr hb hg hat
 rw[show xs.zipIdx++[(p,xs.length)]=(xs++[p]).zipIdx by rw[List.zipIdx_append'];rfl] at hr
 exact h v1 w1 ⟨f,hr⟩ hb hg hat
def Kd.opt {α:Type} (d:Kd α):Kd (Option α) where
 sz:=d.sz
 E:=d.E
 K:=fun w x cs=>match x with|none=>cs.length=d.sz∧∀u∈cs,u.oneCell'=true|some y=>d.K w y cs
 M:=fun w base ok x cs=>match x with|none=>cs.length=d.sz∧∀u∈cs,u.oneCell'=true|some y=>d.M w base ok y cs
 K_len:=by intro w x cs h;cases x with|none=>exact h.1|some y=>exact d.K_len h
 K_one:=by intro w x cs h;cases x with|none=>exact h.2|some y=>exact d.K_one h
 K_below:=by intro w w1 x cs hb h;cases x with|none=>exact h|some y=>exact d.K_below hb h
 K_of_M:=by intro w base ok x cs h;cases x with|none=>exact h|some y=>exact d.K_of_M h
 M_mono:=by intro w base ok ok' x cs hok h;cases x with|none=>exact h|some y=>exact d.M_mono hok h
 M_bound:=by intro w base ok x cs h;cases x with|none=>exact h|some y=>exact d.M_bound h
 M_move:=by intro w w1 base ok x cs hm h;cases x with|none=>exact h|some y=>exact d.M_move hm h
 M_lower:=by intro w base base' ok x cs hb h;cases x with|none=>exact h|some y=>exact d.M_lower hb h
abbrev Kd.gap {α:Type} (m:Nat) (xs:List α):List (Option α):=List.replicate m none++(xs.drop m).map some
theorem Kd.gap_length {α:Type} {m:Nat} {xs:List α} (hm:m≤xs.length):(Kd.gap m xs).length=xs.length:=by simp only[Kd.gap,List.length_append,List.length_replicate,List.length_map,List.length_drop];omega
theorem Kd.gap_at {α:Type} {m j:Nat} {xs:List α} {p:Option α} (hj:(Kd.gap m xs)[j]?=some p):(j<m∧p=none)∨∃y,m≤j∧xs[j]?=some y∧p=some y:=by
 rcases Nat.lt_or_ge j m with h|h
 ·
  rw[Kd.gap,List.getElem?_append_left (by simpa using h),List.getElem?_replicate,if_pos h] at hj
  exact .inl ⟨h,(Option.some.inj hj).symm⟩
 rw[Kd.gap,List.getElem?_append_right (by simpa using h),List.length_replicate,List.getElem?_map,List.getElem?_drop,show m+(j-m)=j by omega] at hj
 obtain⟨y,hy,rfl⟩:=Option.map_eq_some_iff.1 hj
 exact .inr ⟨y,h,hy,rfl⟩
theorem Kd.own_len {A:Option Addr} {n m c c':Nat}:(Value.slice A n c).ownBlock=(Value.slice A m c').ownBlock:=by cases A<;>rfl
theorem Kd.S_split {α:Type} {d:Kd α} {e base n c:Nat} {W:World} {ok:Nat→Prop} {A:Option Addr} {xs:List α} (h:Kd.S d e W base ok (.slice A n c) xs) (m:Nat) (hm:m≤xs.length) :
  ∃G:Nat→Prop,Kd.S (Kd.opt d) e W base (fun k=>ok k∧G k) (.slice A n c) (Kd.gap m xs)∧Kd.S d e W base (fun k=>ok k∧(¬G k∨some k=(Value.slice A m c).ownBlock)) (.slice A m c) (xs.take m)∧∀k,G k→ok k:=by
 obtain⟨f,h⟩:=h
 refine⟨fun k=>ok k∧(m≤f k∨some k=(Value.slice A n c).ownBlock),⟨f,?_⟩,⟨f,?_⟩,fun _ hk=>hk.1⟩
 ·
  obtain⟨h0,inner,ho,hr⟩:=h
  rw[List.length_zipIdx] at ho
  refine⟨fun k hk=>⟨h0 k hk,h0 k hk,.inr hk.symm⟩,inner,?_,?_,?_⟩
  ·
   rw[List.length_zipIdx,Kd.gap_length hm];exact ho
  ·
   have:=hr.1;rw[List.length_zipIdx] at this ⊢;rw[Kd.gap_length hm];exact this
  intro j p hj
  rw[List.getElem?_zipIdx,Nat.zero_add] at hj
  obtain⟨y,hy,rfl⟩:=Option.map_eq_some_iff.1 hj
  rcases Kd.gap_at hy with⟨hlt,rfl⟩|⟨z,hge,hz,rfl⟩
  ·
   have hl:j<xs.length:=by omega
   have h2:=d.K_of_M (hr.2 j (xs[j],j) (Kd.zip_at (List.getElem?_eq_getElem hl)))
   exact⟨d.K_len h2,d.K_one h2⟩
  exact d.M_mono (fun k hk=>⟨⟨⟨hk.1.1,hk.1.1,.inl (by have h9:f k=j:=hk.2;omega)⟩,hk.1.2⟩,hk.2⟩) (hr.2 j (z,j) (Kd.zip_at hz))
 have h2:=Kd.R_take h (m:=m) (by rw[List.length_zipIdx];exact hm)
 have he:(xs.take m).zipIdx=xs.zipIdx.take m:=by
  apply List.ext_getElem?
  intro j
  simp only[List.getElem?_zipIdx,List.getElem?_take,Nat.zero_add]
  split<;>simp
 rw[←he] at h2
 obtain⟨h0,inner,ho,hr⟩:=h2
 refine⟨fun k hk=>⟨h0 k hk,.inr hk.symm⟩,inner,ho,hr.1,fun j p hj=>?_⟩
 have hj2:=hj
 rw[List.getElem?_zipIdx,Nat.zero_add] at hj2
 obtain⟨y,hy,rfl⟩:=Option.map_eq_some_iff.1 hj2
 have hlt:j<m:=by have:=(List.getElem?_eq_some_iff.1 hy).1;rw[List.length_take] at this;omega
 refine d.M_mono (fun k hk=>?_) (hr.2 j (y,j) hj)
 have h9:f k=j:=hk.2
 have h8:=hk.1.2
 refine⟨⟨⟨hk.1.1,.inl (fun hg=>?_)⟩,h8⟩,hk.2⟩
 rcases hg.2 with hg|hg
 ·
  omega
 refine h8 ?_
 cases A with
 | none=>simp[Value.ownBlock] at hg
 | some a=>simpa [Value.ownBlock] using hg
theorem sar_tags' {α:Type} {d:Kd α} {e base m c:Nat} {W:World} {ok okx:Nat→Prop} {v:Value} {A:Option Addr} {xs ys:List α} (HO:Kd.S d e W base (fun k=>ok k∧¬(okx k∧some k≠(Value.slice A m c).ownBlock)) v xs) (HX:Kd.S d e W base okx (.slice A m c) ys) :
  ∃F:Nat→Nat,(Kd.tag F d).R e W base ok v xs.zipIdx∧ReadsRow (fun (p:α×Nat) cs=>d.M W base (fun k=>(okx k∧some k≠(Value.slice A m c).ownBlock)∧F k=p.2) p.1 cs) d.sz W A m (ys.zipIdx xs.length):=by
 classical
 obtain⟨f,hf⟩:=HO
 obtain⟨fx,hx⟩:=HX
 refine⟨fun k=>if okx k∧some k≠(Value.slice A m c).ownBlock then fx k+xs.length else f k,Kd.R_mono (Kd.R_tag hf (fun k hk _=>if_neg hk.2)) (fun _ hk=>hk.1),?_⟩
 obtain⟨A',c',he,hl,hr⟩:=OwnRow.reads hx.2
 injection he with e1 e2 e3
 subst e1
 rw[List.length_zipIdx] at e2
 subst e2
 rw[List.length_zipIdx] at hr
 refine⟨by rw[List.length_zipIdx],hr.2.1,fun hn=>?_⟩
 obtain⟨ad,ha,hc⟩:=hr.2.2 hn
 refine⟨ad,ha,fun j p hj=>?_⟩
 rw[List.getElem?_zipIdx] at hj
 obtain⟨y,hy,rfl⟩:=Option.map_eq_some_iff.1 hj
 obtain⟨cs,h1,h2,h3⟩:=hc j (y,j) (Kd.zip_at hy)
 refine⟨cs,h1,d.M_mono (fun k hk=>?_) h2,h3⟩
 have h9:fx k=j:=hk.2
 refine⟨hk.1,?_⟩
 show (if okx k∧some k≠(Value.slice A ys.length c).ownBlock then fx k+xs.length else f k)=xs.length+j
 rw[if_pos hk.1];omega
theorem rest_tags {α:Type} {d:Kd α} {e base m n c:Nat} {W:World} {ok okx:Nat→Prop} {v:Value} {A:Option Addr} {zs xs:List α} (hm:m≤xs.length) (HO:Kd.S d e W base (fun k=>ok k∧¬(okx k∧some k≠(Value.slice A n c).ownBlock)) v zs) (HX:Kd.S (Kd.opt d) e W base okx (.slice A n c) (Kd.gap m xs)) :
  ∃F:Nat→Nat,(Kd.tag F d).R e W base ok v zs.zipIdx∧ReadsRow (fun (p:α×Nat) cs=>d.M W base (fun k=>(okx k∧some k≠(Value.slice A n c).ownBlock)∧F k=p.2) p.1 cs) d.sz W (if c=m then A else A.map (·.add (m*d.sz))) (xs.drop m).length ((xs.drop m).zipIdx zs.length):=by
 classical
 obtain⟨f,hf⟩:=HO
 obtain⟨fx,hx⟩:=HX
 refine⟨fun k=>if okx k∧some k≠(Value.slice A n c).ownBlock then fx k-m+zs.length else f k,Kd.R_mono (Kd.R_tag hf (fun k hk _=>if_neg hk.2)) (fun _ hk=>hk.1),?_⟩
 obtain⟨A',c',he,hl,hr⟩:=OwnRow.reads hx.2
 injection he with e1 e2 e3
 subst e1
 rw[List.length_zipIdx,Kd.gap_length hm] at e2
 subst e3
 rw[List.length_zipIdx,Kd.gap_length hm] at hl hr
 have hd:(xs.drop m).length=xs.length-m:=List.length_drop
 refine⟨by rw[List.length_zipIdx],by have:=hr.2.1;omega,fun hn=>?_⟩
 obtain⟨ad,ha,hc⟩:=hr.2.2 (by omega)
 subst ha
 rw[if_neg (by omega)]
 refine⟨ad.add (m*d.sz),rfl,fun j p hj=>?_⟩
 rw[List.getElem?_zipIdx] at hj
 obtain⟨y,hy,rfl⟩:=Option.map_eq_some_iff.1 hj
 have hy0:=hy
 rw[List.getElem?_drop] at hy
 have hg:(Kd.gap m xs)[m+j]?=some (some y):=by
  rw[Kd.gap,List.getElem?_append_right (by simp),List.length_replicate,List.getElem?_map,show m+j-m=j by omega,hy0];rfl
 obtain⟨cs,h1,h2,h3⟩:=hc (m+j) (some y,m+j) (Kd.zip_at hg)
 refine⟨cs,h1,d.M_mono (fun k hk=>?_) h2,fun i u hu=>?_⟩
 ·
  have h9:fx k=m+j:=hk.2
  refine⟨hk.1,?_⟩
  show (if okx k∧some k≠(Value.slice (some ad) n c).ownBlock then fx k-m+zs.length else f k)=zs.length+j
  rw[if_pos hk.1];omega
 rw[add_add,show m*d.sz+(j*d.sz+i)=(m+j)*d.sz+i by rw[Nat.add_mul];omega]
 exact h3 i u hu
theorem Kd.S_append_part_step {P:Program} {ops:Array Oper} {o:Oper} {a:Act} {Q:Exit→Act→World→Prop} {Kc:Act→World→Prop} {α:Type} (d:Kd α) {w0 W:World} (base:Nat) (hw:Region.wanted o (yielded ops a.tmps)=true) (s x:Operand) (t e:TypeId) (z:Value) (bytes:Nat)
  (ho:o.op=.call { callee:=.builtin .append,args:=#[s,x],argTypes:=#[t,t] })
  (ht:P.underlying t=some (.slice e)) (hinfo:(P.info? e).map (fun i=>(i.zero,i.size,i.bytes))=some (some z,d.sz,bytes)) (hz:z.cells.size=d.sz) (hs0:0<d.sz) (hb0:0<bytes)
  (v:Value) (xs ys:List α) (A:Option Addr) (m c:Nat) (ok okx:Nat→Prop) (hs:a.eval s=v) (hx:a.eval x=.slice A m c) (HX:Kd.S d e W base okx (.slice A m c) ys) (hokp:∀k,okx k→some k≠(Value.slice A m c).ownBlock→ok k∧some k≠v.ownBlock) (hfresh:∀k,W.heap.size≤k→ok k)
  (HO:Kd.S d e W base (fun k=>ok k∧¬(okx k∧some k≠(Value.slice A m c).ownBlock)) v xs) (HB:Below base w0 W) (hbase:base≤W.heap.size) (hl:(xs.length+ys.length)*bytes≤140737488355328)
  (h:∀v1 w1,Kd.S d e w1 base ok v1 (xs++ys)→Below base w0 w1→W.grownBy w1 v.ownBlock→(v1.ownBlock=v.ownBlock∨∃b,v1.ownBlock=some b∧W.heap.size≤b)→Kc (a.put o.dst v1) w1) :
  if Region.wanted o (yielded ops a.tmps)=true then Oper.wp P o a W Kc Q else Kc (a.put o.dst undef) W:=by
 obtain⟨F,hR,hX⟩:=sar_tags' HO HX
 have hm:ys.length=m:=(Kd.S_reads' HX).1.symm
 refine Kd.R_append_rows_step (Kd.tag F d) base hw s x t e z bytes ho ht hinfo hz hs0 hb0 v xs.zipIdx (ys.zipIdx xs.length) A m c ok (fun k=>okx k∧some k≠(Value.slice A m c).ownBlock) hs hx hR hX (fun _ _ h=>h) (fun k hk=>hokp k hk.1 hk.2) hfresh HB hbase (by rw[List.length_zipIdx];rw[←hm];exact hl) ?_
 intro v1 w1 hr hb hg hat
 rw[←List.zipIdx_append' xs ys] at hr
 exact h v1 w1 ⟨F,hr⟩ hb hg hat
theorem Kd.S_append_rest_step {P:Program} {ops:Array Oper} {o:Oper} {a:Act} {Q:Exit→Act→World→Prop} {Kc:Act→World→Prop} {α:Type} (d:Kd α) {w0 W:World} (base:Nat) (hw:Region.wanted o (yielded ops a.tmps)=true) (s x:Operand) (t e:TypeId) (z:Value) (bytes:Nat)
  (ho:o.op=.call { callee:=.builtin .append,args:=#[s,x],argTypes:=#[t,t] })
  (ht:P.underlying t=some (.slice e)) (hinfo:(P.info? e).map (fun i=>(i.zero,i.size,i.bytes))=some (some z,d.sz,bytes)) (hz:z.cells.size=d.sz) (hs0:0<d.sz) (hb0:0<bytes)
  (v:Value) (xs ys:List α) (A:Option Addr) (n c m c1:Nat) (ok okx:Nat→Prop) (hs:a.eval s=v) (hm:m≤ys.length) (hx:a.eval x=.slice (if c=m then A else A.map (·.add (m*d.sz))) (ys.drop m).length c1) (HX:Kd.S (Kd.opt d) e W base okx (.slice A n c) (Kd.gap m ys)) (hokp:∀k,okx k→some k≠(Value.slice A n c).ownBlock→ok k∧some k≠v.ownBlock) (hfresh:∀k,W.heap.size≤k→ok k)
  (HO:Kd.S d e W base (fun k=>ok k∧¬(okx k∧some k≠(Value.slice A n c).ownBlock)) v xs) (HB:Below base w0 W) (hbase:base≤W.heap.size) (hl:(xs.length+(ys.drop m).length)*bytes≤140737488355328)
  (h:∀v1 w1,Kd.S d e w1 base ok v1 (xs++(ys.drop m))→Below base w0 w1→W.grownBy w1 v.ownBlock→(v1.ownBlock=v.ownBlock∨∃b,v1.ownBlock=some b∧W.heap.size≤b)→Kc (a.put o.dst v1) w1) :
  if Region.wanted o (yielded ops a.tmps)=true then Oper.wp P o a W Kc Q else Kc (a.put o.dst undef) W:=by
 obtain⟨F,hR,hX⟩:=rest_tags hm HO HX
 refine Kd.R_append_rows_step (Kd.tag F d) base hw s x t e z bytes ho ht hinfo hz hs0 hb0 v xs.zipIdx ((ys.drop m).zipIdx xs.length) _ _ c1 ok (fun k=>okx k∧some k≠(Value.slice A n c).ownBlock) hs hx hR hX (fun _ _ h=>h) (fun k hk=>hokp k hk.1 hk.2) hfresh HB hbase (by rw[List.length_zipIdx];exact hl) ?_
 intro v1 w1 hr hb hg hat
 rw[←List.zipIdx_append' xs (ys.drop m)] at hr
 exact h v1 w1 ⟨F,hr⟩ hb hg hat
theorem Kd.S_ngz {α:Type} {d:Kd α} {e:Nat} {w W:World} {ok G:Nat→Prop} {g:Nat} {v:Value} {xs:List α} (hG:∀k,G k→k<g) (hg:g<W.heap.size) (h:Kd.S d e w W.heap.size ok v xs):Kd.S d e w W.heap.size (fun k=>ok k∧¬G k) v xs:=Kd.S_mono (Kd.S_bound h) (fun k hk=>⟨hk.1,fun h2=>by have:=hG k h2;have:=hk.2.1;omega⟩)
theorem Kd.R_append_self {P:Program} {ops:Array Oper} {rest:List Oper} {o:Oper} {a:Act} {Q:Exit→Act→World→Prop} {α:Type} (d:Kd α) {w0 W:World} (base:Nat) (hgd:o.guard=none) (s x:Operand) (t e:TypeId) (z:Value) (bytes:Nat)
  (ho:o.op=.call { callee:=.builtin .append,args:=#[s,x],argTypes:=#[t,t] })
  (ht:P.underlying t=some (.slice e)) (hinfo:(P.info? e).map (fun i=>(i.zero,i.size,i.bytes))=some (some z,d.sz,bytes)) (hz:z.cells.size=d.sz) (hs0:0<d.sz) (hb0:0<bytes)
  (v:Value) (xs:List α) (ok:Nat→Prop) (hs:a.eval s=v) (hx:a.eval x=v)
  (HO:d.R e W base ok v xs) (hfresh:∀k,W.heap.size≤k→ok k)
  (HB:Below base w0 W) (hbase:base≤W.heap.size) (hl:(xs.length+xs.length)*bytes≤140737488355328)
  (h:∀v1 w1,d.R e w1 base ok v1 (xs++xs)→Below base w0 w1→W.grownBy w1 v.ownBlock→(v1.ownBlock=v.ownBlock∨∃b,v1.ownBlock=some b∧W.heap.size≤b)→wpList P ops Q rest (a.put o.dst v1) w1) :
  wpList P ops Q (o::rest) a W:=by
 obtain⟨A,c,he,_,hr⟩:=OwnRow.reads HO.2
 exact Kd.R_append_rows d base hgd s x t e z bytes ho ht hinfo hz hs0 hb0 v xs xs A xs.length c ok _ hs (hx.trans he) HO hr (fun _ _ h=>h) (fun _ h=>h) hfresh HB hbase hl h
/-! #### struct type 99 -/
structure S99 where
 f0:ByteArray
 f1:ByteArray
def z99:S99:=⟨(⟨#[]⟩:ByteArray),(⟨#[]⟩:ByteArray)⟩
def k99:Kd S99:=Kd.iso (Kd.pair Kd.string Kd.string) (fun x:S99=>(x.f0,x.f1))
theorem k99_open {w:World} {x:S99} {cs:List Value} (h:k99.K w x cs):cs=[.string x.f0,.string x.f1]:=by
 obtain⟨_,_,rfl,rfl,rfl⟩:=h
 exact rfl
theorem k99_openM {w:World} {base:Nat} {ok:Nat→Prop} {x:S99} {cs:List Value} (h:k99.M w base ok x cs):cs=[.string x.f0,.string x.f1]:=by
 obtain⟨_,_,rfl,rfl,rfl⟩:=h
 exact rfl
theorem k99_mkM (w:World) (base:Nat) (ok:Nat→Prop) (x:S99):k99.M w base ok x [.string x.f0,.string x.f1]:=⟨[.string x.f0],[.string x.f1],rfl,rfl,rfl⟩
def rd_T99 (xs:List S99) (i:Int):S99:=xs.getD i.toNat z99
theorem at_T99 {w:World} {A:Option Addr} {n:Nat} {xs:List S99} (h:Kd.C k99 w A n xs) (i:Int) (h0:0≤i) (h1:i<n):∃ad ,A=some ad∧w.cell? (ad.add (i.toNat*2))=some (.string (rd_T99 xs i).f0)∧w.cell? ⟨(ad.add (i.toNat*2)).block,(ad.add (i.toNat*2)).off+1,none⟩=some (.string (rd_T99 xs i).f1):=by
 obtain⟨ad,c,e,_,hK,hc0⟩:=Kd.C_get h z99 i h0 h1
 have hc:∀j u,c[j]?=some u→w.cell? (ad.add (i.toNat*2+j))=some u:=hc0
 obtain rfl:=k99_open hK
 exact⟨ad,e,hc 0 _ rfl,by rw[←add_field _ _ 1 (by omega)];exact hc 1 _ rfl⟩
theorem au_T99 {w w1:World} {A:Option Addr} {n:Nat} {xs:List S99} (h:Kd.C k99 w A n xs) (hb:Aside0 (Below w.heap.size w w1)) (i:Int) (h0:decide (0≤i)=true:=by with_reducible assumption) (h1:decide (i<n)=true:=by with_reducible assumption):∃ad,A=some ad∧w1.cell? (ad.add (i.toNat*2))=some (.string (rd_T99 xs i).f0)∧w1.cell? ⟨(ad.add (i.toNat*2)).block,(ad.add (i.toNat*2)).off+1,none⟩=some (.string (rd_T99 xs i).f1)∧(0≤i)=True∧(i<n)=True:=by
 obtain⟨ad,e,x0,x1⟩:=at_T99 h i (of_decide_eq_true h0) (of_decide_eq_true h1)
 exact⟨ad,e,(hb.out.cell (World.block_lt_of_cell? w _ x0)).trans x0,(hb.out.cell (World.block_lt_of_cell? w _ x1)).trans x1,eq_true (of_decide_eq_true h0),eq_true (of_decide_eq_true h1)⟩

def rd_L3 (xs:List (List S99)) (i:Int):(List S99):=xs.getD i.toNat ([]:List S99)
/-! #### struct type 29 -/
structure S29 where
 f0:(List S99)
 f1:Int
 f2:Int
 f3:ByteArray
def z29:S29:=⟨([]:List S99),(0:Int),(0:Int),(⟨#[]⟩:ByteArray)⟩
def k29:Kd S29:=Kd.iso (Kd.pair (Kd.slice 99 k99) (Kd.pair (Kd.int .i64) (Kd.pair (Kd.int .i64) Kd.string))) (fun x:S29=>(x.f0,x.f1,x.f2,x.f3))
theorem k29_open {w:World} {x:S29} {cs:List Value} (h:k29.K w x cs):∃A0 c0,cs=[.slice A0 x.f0.length c0,.int .i64 x.f1,.int .i64 x.f2,.string x.f3]∧x.f0.length≤c0∧k99.C w A0 x.f0.length x.f0:=by
 obtain⟨_,_,rfl,⟨A0,c0,rfl,l0,g0⟩,⟨_,_,rfl,rfl,⟨_,_,rfl,rfl,rfl⟩⟩⟩:=h
 exact⟨A0,c0,rfl,l0,g0⟩
theorem k29_openM {w:World} {base:Nat} {ok:Nat→Prop} {x:S29} {cs:List Value} (h:k29.M w base ok x cs):∃v0,cs=[v0,.int .i64 x.f1,.int .i64 x.f2,.string x.f3]∧k99.R 99 w base ok v0 x.f0:=by
 obtain⟨_,_,rfl,⟨v0,rfl,g0⟩,⟨_,_,rfl,rfl,⟨_,_,rfl,rfl,rfl⟩⟩⟩:=h
 exact⟨v0,rfl,g0⟩
theorem k29_mkM (w:World) (base:Nat) (ok:Nat→Prop) (x:S29) {v0:Value} (g0:k99.R 99 w base ok v0 x.f0):k29.M w base ok x [v0,.int .i64 x.f1,.int .i64 x.f2,.string x.f3]:=⟨[v0],[.int .i64 x.f1,.int .i64 x.f2,.string x.f3],rfl,⟨v0,rfl,g0⟩,⟨[.int .i64 x.f1],[.int .i64 x.f2,.string x.f3],rfl,rfl,⟨[.int .i64 x.f2],[.string x.f3],rfl,rfl,rfl⟩⟩⟩
def rd_T29 (xs:List S29) (i:Int):S29:=xs.getD i.toNat z29
theorem at_T29 {w:World} {A:Option Addr} {n:Nat} {xs:List S29} (h:Kd.C k29 w A n xs) (i:Int) (h0:0≤i) (h1:i<n):∃ad A0 c0,A=some ad∧w.cell? (ad.add (i.toNat*4))=some (.slice A0 (rd_T29 xs i).f0.length c0)∧w.cell? ⟨(ad.add (i.toNat*4)).block,(ad.add (i.toNat*4)).off+1,none⟩=some (.int .i64 (rd_T29 xs i).f1)∧w.cell? ⟨(ad.add (i.toNat*4)).block,(ad.add (i.toNat*4)).off+2,none⟩=some (.int .i64 (rd_T29 xs i).f2)∧w.cell? ⟨(ad.add (i.toNat*4)).block,(ad.add (i.toNat*4)).off+3,none⟩=some (.string (rd_T29 xs i).f3)∧(rd_T29 xs i).f0.length≤c0∧k99.C w A0 (rd_T29 xs i).f0.length (rd_T29 xs i).f0:=by
 obtain⟨ad,c,e,_,hK,hc0⟩:=Kd.C_get h z29 i h0 h1
 have hc:∀j u,c[j]?=some u→w.cell? (ad.add (i.toNat*4+j))=some u:=hc0
 obtain⟨A0,c0,rfl,l0,g0⟩:=k29_open hK
 exact⟨ad,A0,c0,e,hc 0 _ rfl,by rw[←add_field _ _ 1 (by omega)];exact hc 1 _ rfl,by rw[←add_field _ _ 2 (by omega)];exact hc 2 _ rfl,by rw[←add_field _ _ 3 (by omega)];exact hc 3 _ rfl,l0,g0⟩
theorem au_T29 {w w1:World} {A:Option Addr} {n:Nat} {xs:List S29} (h:Kd.C k29 w A n xs) (hb:Aside0 (Below w.heap.size w w1)) (i:Int) (h0:decide (0≤i)=true:=by with_reducible assumption) (h1:decide (i<n)=true:=by with_reducible assumption):∃ad A0 c0,A=some ad∧w1.cell? (ad.add (i.toNat*4))=some (.slice A0 (rd_T29 xs i).f0.length c0)∧w1.cell? ⟨(ad.add (i.toNat*4)).block,(ad.add (i.toNat*4)).off+1,none⟩=some (.int .i64 (rd_T29 xs i).f1)∧w1.cell? ⟨(ad.add (i.toNat*4)).block,(ad.add (i.toNat*4)).off+2,none⟩=some (.int .i64 (rd_T29 xs i).f2)∧w1.cell? ⟨(ad.add (i.toNat*4)).block,(ad.add (i.toNat*4)).off+3,none⟩=some (.string (rd_T29 xs i).f3)∧Aside0 ((rd_T29 xs i).f0.length≤c0)∧Aside0 (k99.C w A0 (rd_T29 xs i).f0.length (rd_T29 xs i).f0)∧(0≤i)=True∧(i<n)=True:=by
 obtain⟨ad,A0,c0,e,x0,x1,x2,x3,r0,r1⟩:=at_T29 h i (of_decide_eq_true h0) (of_decide_eq_true h1)
 exact⟨ad,A0,c0,e,(hb.out.cell (World.block_lt_of_cell? w _ x0)).trans x0,(hb.out.cell (World.block_lt_of_cell? w _ x1)).trans x1,(hb.out.cell (World.block_lt_of_cell? w _ x2)).trans x2,(hb.out.cell (World.block_lt_of_cell? w _ x3)).trans x3,⟨r0⟩,⟨r1⟩,eq_true (of_decide_eq_true h0),eq_true (of_decide_eq_true h1)⟩

def rd_L6 (xs:List (List S29)) (i:Int):(List S29):=xs.getD i.toNat ([]:List S29)
/-! #### struct type 80 -/
structure S80 where
 f0:Int
 f1:(List S29)
def z80:S80:=⟨(0:Int),([]:List S29)⟩
def k80:Kd S80:=Kd.iso (Kd.pair (Kd.int .i64) (Kd.slS 29 k29)) (fun x:S80=>(x.f0,x.f1))
theorem k80_open {w:World} {x:S80} {cs:List Value} (h:k80.K w x cs):∃A1 c1,cs=[.int .i64 x.f0,.slice A1 x.f1.length c1]∧x.f1.length≤c1∧k29.C w A1 x.f1.length x.f1:=by
 obtain⟨_,_,rfl,rfl,⟨A1,c1,rfl,l1,g1⟩⟩:=h
 exact⟨A1,c1,rfl,l1,g1⟩
theorem k80_openM {w:World} {base:Nat} {ok:Nat→Prop} {x:S80} {cs:List Value} (h:k80.M w base ok x cs):∃v1,cs=[.int .i64 x.f0,v1]∧Kd.S k29 29 w base ok v1 x.f1:=by
 obtain⟨_,_,rfl,rfl,⟨v1,rfl,g1⟩⟩:=h
 exact⟨v1,rfl,g1⟩
theorem k80_mkM (w:World) (base:Nat) (ok:Nat→Prop) (x:S80) {v1:Value} (g1:Kd.S k29 29 w base ok v1 x.f1):k80.M w base ok x [.int .i64 x.f0,v1]:=⟨[.int .i64 x.f0],[v1],rfl,rfl,⟨v1,rfl,g1⟩⟩
def rd_T80 (xs:List S80) (i:Int):S80:=xs.getD i.toNat z80
theorem at_T80 {w:World} {A:Option Addr} {n:Nat} {xs:List S80} (h:Kd.C k80 w A n xs) (i:Int) (h0:0≤i) (h1:i<n):∃ad A1 c1,A=some ad∧w.cell? (ad.add (i.toNat*2))=some (.int .i64 (rd_T80 xs i).f0)∧w.cell? ⟨(ad.add (i.toNat*2)).block,(ad.add (i.toNat*2)).off+1,none⟩=some (.slice A1 (rd_T80 xs i).f1.length c1)∧(rd_T80 xs i).f1.length≤c1∧k29.C w A1 (rd_T80 xs i).f1.length (rd_T80 xs i).f1:=by
 obtain⟨ad,c,e,_,hK,hc0⟩:=Kd.C_get h z80 i h0 h1
 have hc:∀j u,c[j]?=some u→w.cell? (ad.add (i.toNat*2+j))=some u:=hc0
 obtain⟨A1,c1,rfl,l1,g1⟩:=k80_open hK
 exact⟨ad,A1,c1,e,hc 0 _ rfl,by rw[←add_field _ _ 1 (by omega)];exact hc 1 _ rfl,l1,g1⟩
theorem au_T80 {w w1:World} {A:Option Addr} {n:Nat} {xs:List S80} (h:Kd.C k80 w A n xs) (hb:Aside0 (Below w.heap.size w w1)) (i:Int) (h0:decide (0≤i)=true:=by with_reducible assumption) (h1:decide (i<n)=true:=by with_reducible assumption):∃ad A1 c1,A=some ad∧w1.cell? (ad.add (i.toNat*2))=some (.int .i64 (rd_T80 xs i).f0)∧w1.cell? ⟨(ad.add (i.toNat*2)).block,(ad.add (i.toNat*2)).off+1,none⟩=some (.slice A1 (rd_T80 xs i).f1.length c1)∧Aside0 ((rd_T80 xs i).f1.length≤c1)∧Aside0 (k29.C w A1 (rd_T80 xs i).f1.length (rd_T80 xs i).f1)∧(0≤i)=True∧(i<n)=True:=by
 obtain⟨ad,A1,c1,e,x0,x1,r0,r1⟩:=at_T80 h i (of_decide_eq_true h0) (of_decide_eq_true h1)
 exact⟨ad,A1,c1,e,(hb.out.cell (World.block_lt_of_cell? w _ x0)).trans x0,(hb.out.cell (World.block_lt_of_cell? w _ x1)).trans x1,⟨r0⟩,⟨r1⟩,eq_true (of_decide_eq_true h0),eq_true (of_decide_eq_true h1)⟩

def rd_L8 (xs:List (List S80)) (i:Int):(List S80):=xs.getD i.toNat ([]:List S80)
/-! #### struct type 26 -/
structure S26 where
 f0:Int
 f1:Int
 f2:(List S80)
def z26:S26:=⟨(0:Int),(0:Int),([]:List S80)⟩
def k26:Kd S26:=Kd.iso (Kd.pair (Kd.int .i64) (Kd.pair (Kd.int .i64) (Kd.slS 80 k80))) (fun x:S26=>(x.f0,x.f1,x.f2))
theorem k26_open {w:World} {x:S26} {cs:List Value} (h:k26.K w x cs):∃A2 c2,cs=[.int .i64 x.f0,.int .i64 x.f1,.slice A2 x.f2.length c2]∧x.f2.length≤c2∧k80.C w A2 x.f2.length x.f2:=by
 obtain⟨_,_,rfl,rfl,⟨_,_,rfl,rfl,⟨A2,c2,rfl,l2,g2⟩⟩⟩:=h
 exact⟨A2,c2,rfl,l2,g2⟩
theorem k26_openM {w:World} {base:Nat} {ok:Nat→Prop} {x:S26} {cs:List Value} (h:k26.M w base ok x cs):∃v2,cs=[.int .i64 x.f0,.int .i64 x.f1,v2]∧Kd.S k80 80 w base ok v2 x.f2:=by
 obtain⟨_,_,rfl,rfl,⟨_,_,rfl,rfl,⟨v2,rfl,g2⟩⟩⟩:=h
 exact⟨v2,rfl,g2⟩
theorem k26_mkM (w:World) (base:Nat) (ok:Nat→Prop) (x:S26) {v2:Value} (g2:Kd.S k80 80 w base ok v2 x.f2):k26.M w base ok x [.int .i64 x.f0,.int .i64 x.f1,v2]:=⟨[.int .i64 x.f0],[.int .i64 x.f1,v2],rfl,rfl,⟨[.int .i64 x.f1],[v2],rfl,rfl,⟨v2,rfl,g2⟩⟩⟩
def rd_T26 (xs:List S26) (i:Int):S26:=xs.getD i.toNat z26
theorem at_T26 {w:World} {A:Option Addr} {n:Nat} {xs:List S26} (h:Kd.C k26 w A n xs) (i:Int) (h0:0≤i) (h1:i<n):∃ad A2 c2,A=some ad∧w.cell? (ad.add (i.toNat*3))=some (.int .i64 (rd_T26 xs i).f0)∧w.cell? ⟨(ad.add (i.toNat*3)).block,(ad.add (i.toNat*3)).off+1,none⟩=some (.int .i64 (rd_T26 xs i).f1)∧w.cell? ⟨(ad.add (i.toNat*3)).block,(ad.add (i.toNat*3)).off+2,none⟩=some (.slice A2 (rd_T26 xs i).f2.length c2)∧(rd_T26 xs i).f2.length≤c2∧k80.C w A2 (rd_T26 xs i).f2.length (rd_T26 xs i).f2:=by
 obtain⟨ad,c,e,_,hK,hc0⟩:=Kd.C_get h z26 i h0 h1
 have hc:∀j u,c[j]?=some u→w.cell? (ad.add (i.toNat*3+j))=some u:=hc0
 obtain⟨A2,c2,rfl,l2,g2⟩:=k26_open hK
 exact⟨ad,A2,c2,e,hc 0 _ rfl,by rw[←add_field _ _ 1 (by omega)];exact hc 1 _ rfl,by rw[←add_field _ _ 2 (by omega)];exact hc 2 _ rfl,l2,g2⟩
theorem au_T26 {w w1:World} {A:Option Addr} {n:Nat} {xs:List S26} (h:Kd.C k26 w A n xs) (hb:Aside0 (Below w.heap.size w w1)) (i:Int) (h0:decide (0≤i)=true:=by with_reducible assumption) (h1:decide (i<n)=true:=by with_reducible assumption):∃ad A2 c2,A=some ad∧w1.cell? (ad.add (i.toNat*3))=some (.int .i64 (rd_T26 xs i).f0)∧w1.cell? ⟨(ad.add (i.toNat*3)).block,(ad.add (i.toNat*3)).off+1,none⟩=some (.int .i64 (rd_T26 xs i).f1)∧w1.cell? ⟨(ad.add (i.toNat*3)).block,(ad.add (i.toNat*3)).off+2,none⟩=some (.slice A2 (rd_T26 xs i).f2.length c2)∧Aside0 ((rd_T26 xs i).f2.length≤c2)∧Aside0 (k80.C w A2 (rd_T26 xs i).f2.length (rd_T26 xs i).f2)∧(0≤i)=True∧(i<n)=True:=by
 obtain⟨ad,A2,c2,e,x0,x1,x2,r0,r1⟩:=at_T26 h i (of_decide_eq_true h0) (of_decide_eq_true h1)
 exact⟨ad,A2,c2,e,(hb.out.cell (World.block_lt_of_cell? w _ x0)).trans x0,(hb.out.cell (World.block_lt_of_cell? w _ x1)).trans x1,(hb.out.cell (World.block_lt_of_cell? w _ x2)).trans x2,⟨r0⟩,⟨r1⟩,eq_true (of_decide_eq_true h0),eq_true (of_decide_eq_true h1)⟩
end Go.Proofs.YtanfohlpkppeiaaGreat.Print
end
section
namespace Go.Proofs.YtanfohlpkppeiaaGreat.Print
open Go.RowKit Go.Proofs.YtanfohlpkppeiaaGreatV.PrintWords Go.Proofs.YtanfohlpkppeiaaGreatV.PrintLast Go.Proofs.YtanfohlpkppeiaaGreatV.PrintMore
set_option linter.unusedVariables false
set_option linter.unusedSimpArgs false
namespace Kd
variable {α:Type} {d:Kd α} {e n m cap g base:Nat} {w w1 W:World} {ok:Nat→Prop} {v:Value} {xs:List α}
theorem S_ltz (hz:n=w.heap.size) (h:Kd.S d e w base ok v xs):Kd.S d e w base (fun k=>ok k∧k<n) v xs:=Kd.S_mono (Kd.S_bound h) (fun k hk=>⟨hk.1,by have:=hk.2.2.1;omega⟩)
theorem R_ltz (hz:n=w.heap.size) (h:Kd.R d e w base ok v xs):Kd.R d e w base (fun k=>ok k∧k<n) v xs:=Kd.R_mono (Kd.R_bound h) (fun k hk=>⟨hk.1,by have:=hk.2.2.1;omega⟩)
theorem S_gez (hz:n=W.heap.size) (h:Kd.S d e w W.heap.size ok v xs):Kd.S d e w W.heap.size (fun k=>ok k∧n≤k) v xs:=Kd.S_mono (Kd.S_bound h) (fun k hk=>⟨hk.1,by have:=hk.2.1;omega⟩)
theorem R_gez (hz:n=W.heap.size) (h:Kd.R d e w W.heap.size ok v xs):Kd.R d e w W.heap.size (fun k=>ok k∧n≤k) v xs:=Kd.R_mono (Kd.R_bound h) (fun k hk=>⟨hk.1,by have:=hk.2.1;omega⟩)
theorem S_name (_h:Kd.S d e w W.heap.size ok v xs):∃n,n=W.heap.size:=⟨_,rfl⟩
theorem R_name (_h:Kd.R d e w W.heap.size ok v xs):∃n,n=W.heap.size:=⟨_,rfl⟩
theorem S_fp (h:Kd.S d e w base ok v xs):∃P:Nat→Prop,Kd.S d e w base P v xs∧∀k,P k→ok k∧base≤k∧∃q,q∈e::d.E∧∃cells,w.heap[k]?=some (.cells cells q (0,0)):=⟨_,Kd.S_bound h,fun _ hk=>⟨hk.1,hk.2.1,hk.2.2.2⟩⟩
theorem R_fp (h:Kd.R d e w base ok v xs):∃P:Nat→Prop,Kd.R d e w base P v xs∧∀k,P k→ok k∧base≤k∧∃q,q∈e::d.E∧∃cells,w.heap[k]?=some (.cells cells q (0,0)):=⟨_,Kd.R_bound h,fun _ hk=>⟨hk.1,hk.2.1,hk.2.2.2⟩⟩
theorem R_fpt (hE:d.E=[]) (h:Kd.R d e w base ok v xs):∃P:Nat→Prop,Kd.R d e w base P v xs∧∀k,P k→(ok k∧some k=v.ownBlock)∧base≤k∧∃q,q∈e::d.E∧∃cells,w.heap[k]?=some (.cells cells q (0,0)):=
  ⟨_,Kd.R_bound (Kd.R_tight hE h),fun k hk=>⟨⟨h.1 k hk.1.symm,hk.1⟩,hk.2.1,hk.2.2.2⟩⟩
end Kd
theorem no_blk {W:World} {g t:Nat} {cells:Array Value} {E:List Nat} (hb:W.heap[g]?=some (.cells cells t (0,0))) (ht:∀q,q∈E→q≠t) (h:∃q,q∈E∧∃c,W.heap[g]?=some (.cells c q (0,0))):False:=by
  obtain⟨q,hq,c,hc⟩:=h
  rw[hc] at hb
  injection hb with hb
  injection hb with _ hb
  exact ht q hq hb
section
variable {α:Type} {d:Kd α} {e n cap g base:Nat} {W:World} {ok:Nat→Prop} {v:Value} {xs:List α} {x:α} {i:Int}
theorem S_begin (h:Kd.S d e W base ok v xs) (z:α) (i:Int) (h0:0≤i) (h1:i<(xs.length:Int)):Kd.S d e W base ok v (xs.set i.toNat (xs.getD i.toNat z)):=by
  have hi:i.toNat<xs.length:=by omega
  rw[List.getD_eq_getElem?_getD,List.getElem?_eq_getElem hi]
  simpa using h
theorem S_hand (h:Kd.S d e W base ok (.slice (some ⟨g,0,none⟩) n cap) (xs.set i.toNat x)) (h0:0≤i) (h1:i<(xs.length:Int)) :
    ∃(oki:Nat→Prop) (c:List Value),d.M W base oki x c∧(∀j u,c[j]?=some u→W.cell? ⟨g,i.toNat*d.sz+j,none⟩=some u)∧(∀j,W.frozen? ⟨g,i.toNat*d.sz+j,none⟩=false)∧(∀k,oki k→ok k∧k≠g) ∧
      (∀w1 x',Kept W w1 oki→d.M w1 base oki x' c→Kd.S d e w1 base ok (.slice (some ⟨g,0,none⟩) n cap) (xs.set i.toNat x')) ∧
      (∀u j x',u.oneCell'=true→j+1≤d.sz→d.M W base oki x' (c.take j++[u]++c.drop (j+1))→Kd.S d e (W.setCells g (i.toNat*d.sz+j) [u]) base ok (.slice (some ⟨g,0,none⟩) n cap) (xs.set i.toNat x')∧W.grownBy (W.setCells g (i.toNat*d.sz+j) [u]) (some g)):=by
  have hn:=(Kd.S_reads' h).1
  rw[List.length_set] at hn
  have hi:i.toNat<xs.length:=by omega
  obtain⟨oki,c,hcl,hM,hcc,hfr,hoki,hH⟩:=Kd.S_elem (Kd.S_mono (ok':=fun k=>ok k∧¬False) h (fun k hk=>⟨hk,id⟩)) x i h0 (by omega)
  rw[List.getD_eq_getElem?_getD,List.getElem?_set_self hi,Option.getD_some] at hM
  refine⟨oki,c,hM,hcc,hfr,fun k hk=>⟨(hoki k hk).1.1,(hoki k hk).2⟩,fun w1 x' hk hM1=>?_,fun u j x' hu hj hM1=>?_⟩
  · have h2:=Kd.H_back (Kd.H_step hH (fun k _ hn hlt=>hk.2 k hlt hn)) hM1 (fun _ hk=>hk)
    rw[List.set_set] at h2
    exact Kd.S_mono h2 (fun k hk=>hk.1)
  · obtain⟨h2,h3⟩:=Kd.S_seg (okg:=fun _=>False) hH h0 (by omega) (seg:=[u]) (j:=j) hj hM1 (fun k hk=>.inl hk) (fun _ hk=>hk.elim)
    rw[List.set_set] at h2
    exact⟨h2,h3⟩
end

end Go.Proofs.YtanfohlpkppeiaaGreat.Print
end
section
namespace Go.Proofs.YtanfohlpkppeiaaGreat.Print
open Go.RowKit Go.Proofs.YtanfohlpkppeiaaGreatV.PrintWords Go.Proofs.YtanfohlpkppeiaaGreatV.PrintLast Go.Proofs.YtanfohlpkppeiaaGreatV.PrintMore
attribute [local go_sem] max2_int min2_int max_two min_two max_three min_three max_four min_four
set_option linter.unusedVariables false
set_option linter.unusedSimpArgs false
set_option maxHeartbeats 80000000
set_option maxRecDepth 100000
def laws_big.f (a:List Int):Option (Bool):=some (decide ((a.length:Int)>1048576))
theorem laws_big.calls (d:Option Addr) (g:Nat) (a:List Int) (r:Bool) (w:World) (b:Kd.C (Kd.int .u8) w d a.length a) (c:a.length≤g) (h:laws_big.f a=some r) :
  Calls Tryz.prog 6 #[.slice d a.length g] w fun e w'=>e=.returned (.bool r)∧Drawn0 w w':=by
 have i:=M_ b
 have j:=M_ c
 clear b c
 unfold laws_big.f at h
 have H:=h;clear h
 obtain rfl:=Option.some.inj H
 go_enter Tryz.func6,Tryz.ntmps6
 go_wp2
 go_ret
 exact⟨by first|rfl|(simp;done)|(simp[*];done),by repeat (first|exact Drawn0.refl _|apply Drawn0.step)⟩
theorem eqA99 (d:Nat) (w:World) (x0 y0:ByteArray) (x1 y1:ByteArray) :
  (Op.equalIn (d+2) 99 (.agg #[.string x0,.string x1]) (.agg #[.string y0,.string y1])).run Tryz.prog w=.ok (x0.toList==y0.toList&&(x1.toList==y1.toList)) w:=by
 refine eqA_of Tryz.underlying99 (by kernel_rfl) ?_
 refine eqf_cons (by rfl) (by go_simp;rfl) (by go_simp;rfl) (by go_simp) ?_
 exact eqf_last (by rfl) (by go_simp;rfl) (by go_simp;rfl) (by go_simp)
end Go.Proofs.YtanfohlpkppeiaaGreat.Print
end
section
namespace Go.Proofs.YtanfohlpkppeiaaGreat.Print
open Go.RowKit Go.Proofs.YtanfohlpkppeiaaGreatV.PrintWords Go.Proofs.YtanfohlpkppeiaaGreatV.PrintLast Go.Proofs.YtanfohlpkppeiaaGreatV.PrintMore
attribute [local go_sem] max2_int min2_int max_two min_two max_three min_three max_four min_four
set_option linter.unusedVariables false
set_option linter.unusedSimpArgs false

attribute [local go_sem high] eqA99
set_option maxHeartbeats 80000000
set_option maxRecDepth 100000
def impl_SameSet.l0:Nat→List S99→List S99→Int→Int→Option (Bool)
 | 0,_,_,_,_=>none
 | k+1,c,d,b,a=>if a<b then (if 0≤a then (if a<(c.length:Int) then (if a<(d.length:Int) then (if (!((((rd_T99 c a).f0).toList)==(((rd_T99 d a).f0).toList))||(!((((rd_T99 c a).f1).toList)==(((rd_T99 d a).f1).toList))))=true then (some false) else (impl_SameSet.l0 k c d b (wrap64 (a+1)))) else (none)) else (none)) else (none)) else (some true)
def impl_SameSet.f (k:Nat) (l0:List S99) (a:List S99):Option (Bool):=if (l0.length:Int)=(a.length:Int) then (impl_SameSet.l0 k l0 a (l0.length:Int) 0) else (some false)
theorem impl_SameSet.calls (k:Nat) (N:Option Addr) (O:Nat) (l0:List S99) (P:Option Addr) (Q:Nat) (i:List S99) (r:Bool) (w:World) (u:Kd.C k99 w N l0.length l0) (v:l0.length≤O) (x:Kd.C k99 w P i.length i) (y:i.length≤Q) (h:impl_SameSet.f k l0 i=some r) :
  Calls Tryz.prog 72 #[.slice N l0.length O,.slice P i.length Q] w fun e w'=>e=.returned (.bool r)∧Drawn0 w w':=by
 have hu99:=Tryz.underlying99
 have z:=M_ u
 have U:=M_ v
 clear u v
 have A:=M_ x
 have V:=M_ y
 clear x y
 unfold impl_SameSet.f at h
 have H:=h;clear h
 replace H:=ie_ H;rcases H with⟨q,H⟩|⟨q,H⟩
 ·
  have B:((l0.length:Int)==(i.length:Int))=true:=beq_iff_eq.mpr q
  have D:((l0.length:Int) !=(i.length:Int))=false:=bne_eq_false_iff_eq.mpr q
  have E:(l0.length==i.length)=true:=by first|simpa using q|(simp at q ⊢;omega)
  clear q
  have H':=M_ H
  clear H
  go_enter Tryz.func72,Tryz.ntmps72
  go_wp2
  repeat (go_quiet (fail);try go_wp2)
  go_loopg [13] k (fun kq L w'=>∃(a:Int),L=.int .i64 a∧Aside0 (impl_SameSet.l0 kq l0 i (l0.length:Int) a=some r)∧Aside0 (kq≤k)∧Drawn0 w w')
  case atStart=>exact⟨(0),rs_,H',⟨Nat.le_refl _⟩,by repeat (first|exact Drawn0.refl _|apply Drawn0.step)⟩
  case round=>
   clear H'
   obtain⟨a,rfl,M,F,⟨m1,rfl⟩⟩:=hrel
   cases gk with
   | zero=>exact absurd M.1 (by simp[impl_SameSet.l0])
   | succ W=>
    have H:=M.1
    clear M
    simp only[impl_SameSet.l0] at H
    replace H:=ie_ H;rcases H with⟨G,H⟩|⟨G,H⟩
    ·
     have I:=decide_eq_true G
     clear G
     replace H:=i2_ H;obtain⟨R,S,H⟩:=H
     replace H:=id_ H;obtain⟨T,H⟩:=H
     replace H:=ie_ H;rcases H with⟨J,H⟩|⟨J,H⟩
     ·
      have K:(!((((rd_T99 l0 a).f0).toList)==(((rd_T99 i a).f0).toList))||(!((((rd_T99 l0 a).f1).toList)==(((rd_T99 i a).f1).toList))))=true:=J
      clear J
      obtain rfl:=Option.some.inj H
      obtain⟨b,c⟩:0≤(a:Int)∧a<(l0.length:Int):=pq_
      obtain⟨s,j,l,m⟩:=at_T99 z.1 a b c
      cases j
      replace b:=eq_true b;replace c:=eq_true c
      obtain⟨d,g⟩:0≤(a:Int)∧a<(i.length:Int):=pq_
      obtain⟨t,n,o,p⟩:=at_T99 A.1 a d g
      cases n
      replace d:=eq_true d;replace g:=eq_true g
      go_wp2
      repeat (go_quiet (fail);try go_wp2)
      go_ret
      exact⟨by first|rfl|(simp;done)|(simp[*];done),by repeat (first|exact Drawn0.refl _|apply Drawn0.step)⟩
     have K:(!((((rd_T99 l0 a).f0).toList)==(((rd_T99 i a).f0).toList))||(!((((rd_T99 l0 a).f1).toList)==(((rd_T99 i a).f1).toList))))=false:=by simpa using J
     clear J
     have H':=M_ H
     clear H
     obtain⟨b,c⟩:0≤(a:Int)∧a<(l0.length:Int):=pq_
     obtain⟨s,j,l,m⟩:=at_T99 z.1 a b c
     cases j
     replace b:=eq_true b;replace c:=eq_true c
     obtain⟨d,g⟩:0≤(a:Int)∧a<(i.length:Int):=pq_
     obtain⟨t,n,o,p⟩:=at_T99 A.1 a d g
     cases n
     replace d:=eq_true d;replace g:=eq_true g
     go_wp2
     repeat (go_quiet (fail);try go_wp2)
     go_roundg W
     case measure=>have:=F.1;omega
     case rel=>exact⟨(wrap64 (a+1)),rs_,H',⟨by have:=F.1;omega⟩,by repeat (first|exact Drawn0.refl _|apply Drawn0.step)⟩
    have I:decide (a<(l0.length:Int))=false:=decide_eq_false G
    clear G
    obtain rfl:=Option.some.inj H
    go_wp2
    repeat (go_quiet (fail);try go_wp2)
    go_ret
    exact⟨by first|rfl|(simp;done)|(simp[*];done),by repeat (first|exact Drawn0.refl _|apply Drawn0.step)⟩
 have B:((l0.length:Int)==(i.length:Int))=false:=beq_eq_false_iff_ne.mpr q
 have D:((l0.length:Int) !=(i.length:Int))=true:=bne_iff_ne.mpr q
 have E:(l0.length==i.length)=false:=by first|simpa using q|(simp at q ⊢;omega)
 obtain rfl:=Option.some.inj H
 go_enter Tryz.func72,Tryz.ntmps72
 go_wp2
 repeat (go_quiet (fail);try go_wp2)
 go_ret
 exact⟨by first|rfl|(simp;done)|(simp[*];done),by repeat (first|exact Drawn0.refl _|apply Drawn0.step)⟩
end Go.Proofs.YtanfohlpkppeiaaGreat.Print
end
section
namespace Go.Proofs.YtanfohlpkppeiaaGreat.Print
open Go.RowKit Go.Proofs.YtanfohlpkppeiaaGreatV.PrintWords Go.Proofs.YtanfohlpkppeiaaGreatV.PrintLast Go.Proofs.YtanfohlpkppeiaaGreatV.PrintMore
attribute [local go_sem] max2_int min2_int max_two min_two max_three min_three max_four min_four
set_option linter.unusedVariables false
set_option linter.unusedSimpArgs false
set_option maxHeartbeats 80000000
set_option maxRecDepth 100000
def impl_SameAlarm.f (k:Nat) (a:List S99) (b:Int) (c:Int) (d:ByteArray) (e:List S99) (g:Int) (h:Int) (i:ByteArray):Option (Bool):=(impl_SameSet.f k a e).bind fun j=>(if j=true then (if b=g then (if c=h then (some (d.toList==i.toList)) else (some false)) else (some false)) else (some false))
theorem impl_SameAlarm.calls (k:Nat) (m:Option Addr) (n:Nat) (a:List S99) (c:Int) (d:Int) (s:ByteArray) (o:Option Addr) (p:Nat) (b:List S99) (g:Int) (i:Int) (t:ByteArray) (r:Bool) (w:World) (u:Kd.C k99 w m a.length a) (v:a.length≤n) (x:Kd.C k99 w o b.length b) (y:b.length≤p) (h:impl_SameAlarm.f k a c d s b g i t=some r) :
  Calls Tryz.prog 19 #[.agg #[.slice m a.length n,.int .i64 c,.int .i64 d,.string s],.agg #[.slice o b.length p,.int .i64 g,.int .i64 i,.string t]] w fun e w'=>e=.returned (.bool r)∧Below w.heap.size w w':=by
 have hu29:=Tryz.underlying29
 have z:=M_ u
 have A:=M_ v
 clear u v
 have B:=M_ x
 have D:=M_ y
 clear x y
 have q:=M_ (Below.refl w.heap.size w)
 unfold impl_SameAlarm.f at h
 have H:=h;clear h
 replace H:=bi_ H;obtain⟨J,A3,H⟩:=H
 have AHz_:=M_ H
 clear H
 go_enter Tryz.func19,Tryz.ntmps19
 go_wp2_with (first|((with_reducible refine gd_ 2 rfl ?_);refine bV_ 2 #[.slice m a.length n,.int .i64 c,.int .i64 d,.string s] 29 ?_;intro O hg w7 j hb;have P:=gq_ hg q;replace q:=st_ q hb;clear hb hg)|((with_reducible refine gd_ 3 rfl ?_);refine bV_ 3 #[.slice o b.length p,.int .i64 g,.int .i64 i,.string t] 29 ?_;intro Q hg w8 E hb;have R:=gq_ hg q;replace q:=st_ q hb;obtain⟨l,F,j⟩:=nb_ j hg hb;clear hb hg;have ia:=n2_ l;obtain⟨S,T,U,V,W,X,Y,Z⟩:=bc4_ j.1;obtain⟨aa,ba,ca,da,ea,fa,ga,ha⟩:=bc4_ E.1)|(((with_reducible refine gate_callee (f:=72) rfl ?_);refine gl_ (some 9) Tryz.func72 #[.slice m a.length n,.slice o b.length p] ?_;(with_reducible refine(impl_SameSet.calls k _ _ a _ _ b J _ ?_ ?_ ?_ ?_ A3.1).mono ?_);exact cp_ ((Kd.C_below z.1 q.1));exact A.1;exact cp_ ((Kd.C_below B.1 q.1));exact D.1;rintro e w' ⟨rfl,⟨nd,rfl⟩⟩;refine⟨_,rfl,?_⟩);refine Aside0.out ?_))
 have H:=AHz_.1
 clear AHz_
 replace H:=ib_ H;rcases H with⟨rfl,H⟩|⟨rfl,H⟩
 ·
  replace H:=ie_ H;rcases H with⟨G,H⟩|⟨G,H⟩
  ·
   have K:(c==g)=true:=beq_iff_eq.mpr G
   have L:(c !=g)=false:=bne_eq_false_iff_eq.mpr G
   clear G
   replace H:=ie_ H;rcases H with⟨I,H⟩|⟨I,H⟩
   ·
    have M:(d==i)=true:=beq_iff_eq.mpr I
    have N:(d !=i)=false:=bne_eq_false_iff_eq.mpr I
    clear I
    obtain rfl:=Option.some.inj H
    refine⟨?_⟩
    go_wp2
    go_ret
    exact an_ (hs_ q.1)
   have M:(d==i)=false:=beq_eq_false_iff_ne.mpr I
   have N:(d !=i)=true:=bne_iff_ne.mpr I
   obtain rfl:=Option.some.inj H
   refine⟨?_⟩
   go_wp2
   go_ret
   exact an_ (hs_ q.1)
  have K:(c==g)=false:=beq_eq_false_iff_ne.mpr G
  have L:(c !=g)=true:=bne_iff_ne.mpr G
  obtain rfl:=Option.some.inj H
  refine⟨?_⟩
  go_wp2
  go_ret
  exact an_ (hs_ q.1)
 obtain rfl:=Option.some.inj H
 refine⟨?_⟩
 go_wp2
 go_ret
 exact an_ (hs_ q.1)
def laws_sameList.l0:Nat→List S29→List S29→Int→Option (Bool)
 | 0,_,_,_=>none
 | k+1,b,c,a=>if a<(b.length:Int) then (if 0≤a then (if a<(c.length:Int) then ((impl_SameAlarm.f k ((rd_T29 b a).f0) ((rd_T29 b a).f1) ((rd_T29 b a).f2) ((rd_T29 b a).f3) ((rd_T29 c a).f0) ((rd_T29 c a).f1) ((rd_T29 c a).f2) ((rd_T29 c a).f3)).bind fun d=>(if d=true then (laws_sameList.l0 k b c (wrap64 (a+1))) else (some false))) else (none)) else (none)) else (some true)
def laws_sameList.f (k:Nat) (l0:List S29) (a:List S29):Option (Bool):=if (l0.length:Int)=(a.length:Int) then (laws_sameList.l0 k l0 a 0) else (some false)
def laws_sameList.T6:Bool×List (List Nat×List Nat):=(true,[([],[]),([],[]),([0,1],[0,1]),([2],[2]),([],[]),([],[]),([4,5],[4,5]),([6],[6]),([3,7],[3,7]),([8],[8])])
def laws_sameList.B6:List Nat:=[0,0,3,7,0,0,48,112,255,511]
theorem laws_sameList.tab6:rtab .any (opsOf Tryz.f20 6)=laws_sameList.T6:=by kernel_rfl
theorem laws_sameList.bits6:waitsOk laws_sameList.T6.2 laws_sameList.B6=true:=by kernel_rfl
theorem laws_sameList.calls (k:Nat) (A0:Option Addr) (c0:Nat) (l0:List S29) (A1:Option Addr) (c1:Nat) (E:List S29) (r:Bool) (w:World) (ca:Kd.C k29 w A0 l0.length l0) (da:l0.length≤c0) (ea:Kd.C k29 w A1 E.length E) (fa:E.length≤c1) (h:laws_sameList.f k l0 E=some r) :
  Calls Tryz.prog 20 #[.slice A0 l0.length c0,.slice A1 E.length c1] w fun e w'=>e=.returned (.bool r)∧Below w.heap.size w w':=by
 have hu29:=Tryz.underlying29
 have ga:=M_ ca
 have za:=M_ da
 clear ca da
 have ha:=M_ ea
 have Aa:=M_ fa
 clear ea fa
 have y:=M_ (Below.refl w.heap.size w)
 unfold laws_sameList.f at h
 have H:=h;clear h
 replace H:=ie_ H;rcases H with⟨c3,H⟩|⟨c3,H⟩
 ·
  have ia:((l0.length:Int)==(E.length:Int))=true:=beq_iff_eq.mpr c3
  have ja:((l0.length:Int) !=(E.length:Int))=false:=bne_eq_false_iff_eq.mpr c3
  have ka:(l0.length==E.length)=true:=by first|simpa using c3|(simp at c3 ⊢;omega)
  clear c3
  have H':=M_ H
  clear H
  go_enter Tryz.func20,Tryz.ntmps20
  go_wp2
  go_loopg [5] k (fun kq v5 w'=>∃(a:Int),v5=.int .i64 a∧Aside0 (laws_sameList.l0 kq l0 E a=some r)∧Aside0 (kq≤k)∧Aside0 (Below w.heap.size w w'))
  case atStart=>exact⟨(0),rs_,H',⟨Nat.le_refl _⟩,⟨hs_ y.1⟩⟩
  case round=>
   clear H'
   obtain⟨a,rfl,HA,la,y⟩:=hrel
   cases gk with
   | zero=>exact absurd HA.1 (by simp[laws_sameList.l0])
   | succ k1=>
    have H:=HA.1
    clear HA
    simp only[laws_sameList.l0] at H
    replace H:=ie_ H;rcases H with⟨c4,H⟩|⟨c4,H⟩
    ·
     have na:=decide_eq_true c4
     clear c4
     replace H:=i2_ H;obtain⟨va,wa,H⟩:=H
     replace H:=bi_ H;obtain⟨xa,A7,H⟩:=H
     replace H:=ib_ H;rcases H with⟨rfl,H⟩|⟨rfl,H⟩
     ·
      have H':=M_ H
      clear H
      try go_wp2
      replace y:=db_ y
      obtain⟨R,T⟩:0≤(a:Int)∧a<(l0.length:Int):=pq_
      obtain⟨z,N,O,Y,b,d,g,i,F,G⟩:=at_T29 ga.1 a R T
      have o:=i
      have p:=g
      have q:=d
      have s:=b
      cases Y
      replace b:=c4_ y b d g i;clear d g i;obtain⟨b,d,g,i⟩:=b
      have I:=M_ G
      have U:=M_ F
      clear G F
      replace R:=eq_true R;replace T:=eq_true T
      obtain⟨V,W⟩:0≤(a:Int)∧a<(E.length:Int):=pq_
      obtain⟨A,P,Q,Z,c,j,l,m,J,L⟩:=at_T29 ha.1 a V W
      have t:=m
      have u:=l
      have v:=j
      have x:=c
      cases Z
      replace c:=c4_ y c j l m;clear j l m;obtain⟨c,j,l,m⟩:=c
      have M:=M_ L
      have X:=M_ J
      clear L J
      replace V:=eq_true V;replace W:=eq_true W
      refine start_ (n:=10) (S:=fun w'=>w'.cell? (z.add ((a).toNat*4))=some (.slice N ((rd_T29 l0 a).f0).length O)∧d_ w' (z.add ((a).toNat*4)) 1 (.int .i64 ((rd_T29 l0 a).f1))∧d_ w' (z.add ((a).toNat*4)) 2 (.int .i64 ((rd_T29 l0 a).f2))∧d_ w' (z.add ((a).toNat*4)) 3 (.string ((rd_T29 l0 a).f3))∧w'.cell? (A.add ((a).toNat*4))=some (.slice P ((rd_T29 E a).f0).length Q)∧d_ w' (A.add ((a).toNat*4)) 1 (.int .i64 ((rd_T29 E a).f1))∧d_ w' (A.add ((a).toNat*4)) 2 (.int .i64 ((rd_T29 E a).f2))∧d_ w' (A.add ((a).toNat*4)) 3 (.string ((rd_T29 E a).f3))) (ds:=[]) (b_ 0 10) (by kernel_rfl) rfl rfl ⟨((y.1.cell (World.block_lt_of_cell? w _ s)).trans s),((y.1.cell (World.block_lt_of_cell? w _ q)).trans q),((y.1.cell (World.block_lt_of_cell? w _ p)).trans p),((y.1.cell (World.block_lt_of_cell? w _ o)).trans o),((y.1.cell (World.block_lt_of_cell? w _ x)).trans x),((y.1.cell (World.block_lt_of_cell? w _ v)).trans v),((y.1.cell (World.block_lt_of_cell? w _ u)).trans u),((y.1.cell (World.block_lt_of_cell? w _ t)).trans t)⟩ (fun B=>?_);refine with_tabW laws_sameList.tab6 laws_sameList.bits6 (fun D aa=>?_)
      generalize wr.drew=w9 at y I M b d g i c j l m B ⊢
      iterate 3 refine p_ D ?_
      refine qw_ 4 (m_ 10 23) D ?_
      refine qw_ 5 (m_ 10 55) D ?_
      refine qw_ 6 (m_ 10 119) D ?_
      refine qt_ 3 (b_ 7 3) D aa B ?_
      refine t0_ D aa B ?_
      refine o1_ 8 (b_ 9 1) D (fun K hK=>?_)
      refine gs_ Tryz.func19 #[.agg #[.slice N ((rd_T29 l0 a).f0).length O,.int .i64 ((rd_T29 l0 a).f1),.int .i64 ((rd_T29 l0 a).f2),.string ((rd_T29 l0 a).f3)],.agg #[.slice P ((rd_T29 E a).f0).length Q,.int .i64 ((rd_T29 E a).f1),.int .i64 ((rd_T29 E a).f2),.string ((rd_T29 E a).f3)]] ?_
      with_reducible refine(impl_SameAlarm.calls k1 _ _ ((rd_T29 l0 a).f0) ((rd_T29 l0 a).f1) ((rd_T29 l0 a).f2) ((rd_T29 l0 a).f3) _ _ ((rd_T29 E a).f0) ((rd_T29 E a).f1) ((rd_T29 E a).f2) ((rd_T29 E a).f3) true _ ?_ ?_ ?_ ?_ A7.1).mono ?_
      exact cp_ ((Kd.C_below I.1 y.1))
      exact U.1
      exact cp_ ((Kd.C_below M.1 y.1))
      exact X.1
      rintro e Ca ⟨rfl,hb⟩
      refine⟨_,rfl,?_⟩
      replace y:=st_ y hb
      (try clear hb)
      refine ho_ hK ⟨((y.1.cell (World.block_lt_of_cell? w _ s)).trans s),((y.1.cell (World.block_lt_of_cell? w _ q)).trans q),((y.1.cell (World.block_lt_of_cell? w _ p)).trans p),((y.1.cell (World.block_lt_of_cell? w _ o)).trans o),((y.1.cell (World.block_lt_of_cell? w _ x)).trans x),((y.1.cell (World.block_lt_of_cell? w _ v)).trans v),((y.1.cell (World.block_lt_of_cell? w _ u)).trans u),((y.1.cell (World.block_lt_of_cell? w _ t)).trans t)⟩ (fun B=>?_)
      refine p_ D ?_
      refine done_ (done_of D.1 (by kernel_rfl)) ?_
      try go_wp2
      go_roundg k1
      case measure=>have:=la.1;omega
      case rel=>exact⟨(wrap64 (a+1)),rs_,H',⟨by have:=la.1;omega⟩,⟨hs_ y.1⟩⟩
     obtain rfl:=Option.some.inj H
     try go_wp2
     replace y:=db_ y
     obtain⟨R,T⟩:0≤(a:Int)∧a<(l0.length:Int):=pq_
     obtain⟨z,N,O,Y,b,d,g,i,F,G⟩:=at_T29 ga.1 a R T
     have o:=i
     have p:=g
     have q:=d
     have s:=b
     cases Y
     replace b:=c4_ y b d g i;clear d g i;obtain⟨b,d,g,i⟩:=b
     have I:=M_ G
     have U:=M_ F
     clear G F
     replace R:=eq_true R;replace T:=eq_true T
     obtain⟨V,W⟩:0≤(a:Int)∧a<(E.length:Int):=pq_
     obtain⟨A,P,Q,Z,c,j,l,m,J,L⟩:=at_T29 ha.1 a V W
     have t:=m
     have u:=l
     have v:=j
     have x:=c
     cases Z
     replace c:=c4_ y c j l m;clear j l m;obtain⟨c,j,l,m⟩:=c
     have M:=M_ L
     have X:=M_ J
     clear L J
     replace V:=eq_true V;replace W:=eq_true W
     refine start_ (n:=10) (S:=fun w'=>w'.cell? (z.add ((a).toNat*4))=some (.slice N ((rd_T29 l0 a).f0).length O)∧d_ w' (z.add ((a).toNat*4)) 1 (.int .i64 ((rd_T29 l0 a).f1))∧d_ w' (z.add ((a).toNat*4)) 2 (.int .i64 ((rd_T29 l0 a).f2))∧d_ w' (z.add ((a).toNat*4)) 3 (.string ((rd_T29 l0 a).f3))∧w'.cell? (A.add ((a).toNat*4))=some (.slice P ((rd_T29 E a).f0).length Q)∧d_ w' (A.add ((a).toNat*4)) 1 (.int .i64 ((rd_T29 E a).f1))∧d_ w' (A.add ((a).toNat*4)) 2 (.int .i64 ((rd_T29 E a).f2))∧d_ w' (A.add ((a).toNat*4)) 3 (.string ((rd_T29 E a).f3))) (ds:=[]) (b_ 0 10) (by kernel_rfl) rfl rfl ⟨((y.1.cell (World.block_lt_of_cell? w _ s)).trans s),((y.1.cell (World.block_lt_of_cell? w _ q)).trans q),((y.1.cell (World.block_lt_of_cell? w _ p)).trans p),((y.1.cell (World.block_lt_of_cell? w _ o)).trans o),((y.1.cell (World.block_lt_of_cell? w _ x)).trans x),((y.1.cell (World.block_lt_of_cell? w _ v)).trans v),((y.1.cell (World.block_lt_of_cell? w _ u)).trans u),((y.1.cell (World.block_lt_of_cell? w _ t)).trans t)⟩ (fun B=>?_);refine with_tabW laws_sameList.tab6 laws_sameList.bits6 (fun D aa=>?_)
     generalize wr.drew=Da at y I M b d g i c j l m B ⊢
     iterate 3 refine p_ D ?_
     refine qw_ 4 (m_ 10 23) D ?_
     refine qw_ 5 (m_ 10 55) D ?_
     refine qw_ 6 (m_ 10 119) D ?_
     refine qt_ 3 (b_ 7 3) D aa B ?_
     refine t0_ D aa B ?_
     refine o1_ 8 (b_ 9 1) D (fun K hK=>?_)
     refine gs_ Tryz.func19 #[.agg #[.slice N ((rd_T29 l0 a).f0).length O,.int .i64 ((rd_T29 l0 a).f1),.int .i64 ((rd_T29 l0 a).f2),.string ((rd_T29 l0 a).f3)],.agg #[.slice P ((rd_T29 E a).f0).length Q,.int .i64 ((rd_T29 E a).f1),.int .i64 ((rd_T29 E a).f2),.string ((rd_T29 E a).f3)]] ?_
     with_reducible refine(impl_SameAlarm.calls k1 _ _ ((rd_T29 l0 a).f0) ((rd_T29 l0 a).f1) ((rd_T29 l0 a).f2) ((rd_T29 l0 a).f3) _ _ ((rd_T29 E a).f0) ((rd_T29 E a).f1) ((rd_T29 E a).f2) ((rd_T29 E a).f3) false _ ?_ ?_ ?_ ?_ A7.1).mono ?_
     exact cp_ ((Kd.C_below I.1 y.1))
     exact U.1
     exact cp_ ((Kd.C_below M.1 y.1))
     exact X.1
     rintro e Ea ⟨rfl,hb⟩
     refine⟨_,rfl,?_⟩
     replace y:=st_ y hb
     (try clear hb)
     refine ho_ hK ⟨((y.1.cell (World.block_lt_of_cell? w _ s)).trans s),((y.1.cell (World.block_lt_of_cell? w _ q)).trans q),((y.1.cell (World.block_lt_of_cell? w _ p)).trans p),((y.1.cell (World.block_lt_of_cell? w _ o)).trans o),((y.1.cell (World.block_lt_of_cell? w _ x)).trans x),((y.1.cell (World.block_lt_of_cell? w _ v)).trans v),((y.1.cell (World.block_lt_of_cell? w _ u)).trans u),((y.1.cell (World.block_lt_of_cell? w _ t)).trans t)⟩ (fun B=>?_)
     refine p_ D ?_
     refine done_ (done_of D.1 (by kernel_rfl)) ?_
     try go_wp2
     go_ret
     exact an_ (hs_ y.1)
    have na:decide (a<(l0.length:Int))=false:=decide_eq_false c4
    clear c4
    obtain rfl:=Option.some.inj H
    go_wp2
    go_ret
    exact an_ (hs_ y.1)
 have ia:((l0.length:Int)==(E.length:Int))=false:=beq_eq_false_iff_ne.mpr c3
 have ja:((l0.length:Int) !=(E.length:Int))=true:=bne_iff_ne.mpr c3
 have ka:(l0.length==E.length)=false:=by first|simpa using c3|(simp at c3 ⊢;omega)
 obtain rfl:=Option.some.inj H
 go_enter Tryz.func20,Tryz.ntmps20
 go_wp2
 go_ret
 exact an_ (hs_ y.1)
def impl_Sum.l0:Nat→ByteArray→Int→Int→Option (Int)
 | 0,_,_,_=>none
 | k+1,b,c,a=>if a<(b.size:Int) then (if 0≤a then (impl_Sum.l0 k b (((Go.bits .xor .u32 c ((bt b a)%4294967296))*16777619)%4294967296) (wrap64 (a+1))) else (none)) else (some (wrap64 (c)))
def impl_Sum.f (k:Nat) (a:ByteArray):Option (Int):=impl_Sum.l0 k a 2166136261 0
theorem impl_Sum.calls (k:Nat) (c:ByteArray) (r:Int) (w:World) (h:impl_Sum.f k c=some r) :
  Calls Tryz.prog 95 #[.string c] w fun e w'=>e=.returned (.int .i64 r)∧Drawn0 w w':=by
 unfold impl_Sum.f at h
 have H:=h;clear h
 have H':=M_ H
 clear H
 go_enter Tryz.func95,Tryz.ntmps95
 go_wp2
 go_loopg [3,4] k (fun kq o p w'=>∃(b:Int) (a:Int),o=.int .u32 b∧p=.int .i64 a∧Aside0 (impl_Sum.l0 kq c b a=some r)∧Aside0 (kq≤k)∧Drawn0 w w')
 case atStart=>exact⟨(2166136261),(0),rs_,rs_,H',⟨Nat.le_refl _⟩,by repeat (first|exact Drawn0.refl _|apply Drawn0.step)⟩
 case round=>
  clear H'
  obtain⟨b,a,rfl,rfl,j,d,⟨m1,rfl⟩⟩:=hrel
  cases gk with
  | zero=>exact absurd j.1 (by simp[impl_Sum.l0])
  | succ q=>
   have H:=j.1
   clear j
   simp only[impl_Sum.l0] at H
   replace H:=ie_ H;rcases H with⟨g,H⟩|⟨g,H⟩
   ·
    have i:=decide_eq_true g
    clear g
    replace H:=id_ H;obtain⟨l,H⟩:=H
    have H':=M_ H
    clear H
    obtain⟨m,n⟩:0≤(a:Int)∧a<(c.size:Int):=pq_
    have s:=bt_at c a
    replace m:=eq_true m;replace n:=eq_true n
    go_wp2
    go_roundg q
    case measure=>have:=d.1;omega
    case rel=>exact⟨(((Go.bits .xor .u32 b ((bt c a)%4294967296))*16777619)%4294967296),(wrap64 (a+1)),rs_,rs_,H',⟨by have:=d.1;omega⟩,by repeat (first|exact Drawn0.refl _|apply Drawn0.step)⟩
   have i:decide (a<(c.size:Int))=false:=decide_eq_false g
   clear g
   obtain rfl:=Option.some.inj H
   go_wp2
   go_ret
   exact⟨by first|rfl|(simp;done)|(simp[*];done),by repeat (first|exact Drawn0.refl _|apply Drawn0.step)⟩
def impl_PlainOk.l0:Nat→ByteArray→Int→Option (Bool)
 | 0,_,_=>none
 | k+1,b,a=>if a<(b.size:Int) then (if 0≤a then (if (bt b a)<32 then (some false) else (if (bt b a)>126 then (some false) else (if (bt b a)=34 then (some false) else (if (bt b a)=92 then (some false) else (impl_PlainOk.l0 k b (wrap64 (a+1))))))) else (none)) else (some true)
def impl_PlainOk.f (k:Nat) (a:ByteArray):Option (Bool):=if (a.size:Int)>12 then (some false) else (impl_PlainOk.l0 k a 0)
theorem impl_PlainOk.calls (k:Nat) (b:ByteArray) (r:Bool) (w:World) (h:impl_PlainOk.f k b=some r) :
  Calls Tryz.prog 121 #[.string b] w fun e w'=>e=.returned (.bool r)∧Drawn0 w w':=by
 unfold impl_PlainOk.f at h
 have H:=h;clear h
 replace H:=ie_ H;rcases H with⟨l,H⟩|⟨l,H⟩
 ·
  have m:decide (12<(b.size:Int))=true:=decide_eq_true l
  have n:decide (12<b.size)=true:=decide_eq_true (by omega)
  clear l
  obtain rfl:=Option.some.inj H
  go_enter Tryz.func121,Tryz.ntmps121
  go_wp2
  go_ret
  exact⟨by first|rfl|(simp;done)|(simp[*];done),by repeat (first|exact Drawn0.refl _|apply Drawn0.step)⟩
 have m:decide (12<(b.size:Int))=false:=decide_eq_false l
 have n:decide (12<b.size)=false:=decide_eq_false (by omega)
 clear l
 have H':=M_ H
 clear H
 go_enter Tryz.func121,Tryz.ntmps121
 go_wp2
 go_loopg [3] k (fun kq D w'=>∃(a:Int),D=.int .i64 a∧Aside0 (impl_PlainOk.l0 kq b a=some r)∧Aside0 (kq≤k)∧Drawn0 w w')
 case atStart=>exact⟨(0),rs_,H',⟨Nat.le_refl _⟩,by repeat (first|exact Drawn0.refl _|apply Drawn0.step)⟩
 case round=>
  clear H'
  obtain⟨a,rfl,B,o,⟨m1,rfl⟩⟩:=hrel
  cases gk with
  | zero=>exact absurd B.1 (by simp[impl_PlainOk.l0])
  | succ E=>
   have H:=B.1
   clear B
   simp only[impl_PlainOk.l0] at H
   replace H:=ie_ H;rcases H with⟨p,H⟩|⟨p,H⟩
   ·
    have q:=decide_eq_true p
    clear p
    replace H:=id_ H;obtain⟨C,H⟩:=H
    replace H:=ie_ H;rcases H with⟨s,H⟩|⟨s,H⟩
    ·
     have t:=decide_eq_true s
     clear s
     obtain rfl:=Option.some.inj H
     obtain⟨c,d⟩:0≤(a:Int)∧a<(b.size:Int):=pq_
     have g:=bt_at b a
     replace c:=eq_true c;replace d:=eq_true d
     go_wp2
     go_ret
     exact⟨by first|rfl|(simp;done)|(simp[*];done),by repeat (first|exact Drawn0.refl _|apply Drawn0.step)⟩
    have t:decide ((bt b a)<32)=false:=decide_eq_false s
    clear s
    replace H:=ie_ H;rcases H with⟨u,H⟩|⟨u,H⟩
    ·
     have v:decide (126<(bt b a))=true:=decide_eq_true u
     clear u
     obtain rfl:=Option.some.inj H
     obtain⟨c,d⟩:0≤(a:Int)∧a<(b.size:Int):=pq_
     have g:=bt_at b a
     replace c:=eq_true c;replace d:=eq_true d
     go_wp2
     go_ret
     exact⟨by first|rfl|(simp;done)|(simp[*];done),by repeat (first|exact Drawn0.refl _|apply Drawn0.step)⟩
    have v:decide (126<(bt b a))=false:=decide_eq_false u
    clear u
    replace H:=ie_ H;rcases H with⟨i,H⟩|⟨i,H⟩
    ·
     have x:((bt b a)==34)=true:=beq_iff_eq.mpr i
     have y:((bt b a) !=34)=false:=bne_eq_false_iff_eq.mpr i
     clear i
     obtain rfl:=Option.some.inj H
     obtain⟨c,d⟩:0≤(a:Int)∧a<(b.size:Int):=pq_
     have g:=bt_at b a
     replace c:=eq_true c;replace d:=eq_true d
     go_wp2
     go_ret
     exact⟨by first|rfl|(simp;done)|(simp[*];done),by repeat (first|exact Drawn0.refl _|apply Drawn0.step)⟩
    have x:((bt b a)==34)=false:=beq_eq_false_iff_ne.mpr i
    have y:((bt b a) !=34)=true:=bne_iff_ne.mpr i
    replace H:=ie_ H;rcases H with⟨j,H⟩|⟨j,H⟩
    ·
     have z:((bt b a)==92)=true:=beq_iff_eq.mpr j
     have A:((bt b a) !=92)=false:=bne_eq_false_iff_eq.mpr j
     clear j
     obtain rfl:=Option.some.inj H
     obtain⟨c,d⟩:0≤(a:Int)∧a<(b.size:Int):=pq_
     have g:=bt_at b a
     replace c:=eq_true c;replace d:=eq_true d
     go_wp2
     go_ret
     exact⟨by first|rfl|(simp;done)|(simp[*];done),by repeat (first|exact Drawn0.refl _|apply Drawn0.step)⟩
    have z:((bt b a)==92)=false:=beq_eq_false_iff_ne.mpr j
    have A:((bt b a) !=92)=true:=bne_iff_ne.mpr j
    have H':=M_ H
    clear H
    obtain⟨c,d⟩:0≤(a:Int)∧a<(b.size:Int):=pq_
    have g:=bt_at b a
    replace c:=eq_true c;replace d:=eq_true d
    go_wp2
    go_roundg E
    case measure=>have:=o.1;omega
    case rel=>exact⟨(wrap64 (a+1)),rs_,H',⟨by have:=o.1;omega⟩,by repeat (first|exact Drawn0.refl _|apply Drawn0.step)⟩
   have q:decide (a<(b.size:Int))=false:=decide_eq_false p
   clear p
   obtain rfl:=Option.some.inj H
   go_wp2
   go_ret
   exact⟨by first|rfl|(simp;done)|(simp[*];done),by repeat (first|exact Drawn0.refl _|apply Drawn0.step)⟩
def impl_in.f (a:Int) (b:Int) (c:Int):Option (Bool):=if a≥b then (some (decide (a≤c))) else (some false)
theorem impl_in.calls (c:Int) (d:Int) (g:Int) (r:Bool) (w:World) (h:impl_in.f c d g=some r) :
  Calls Tryz.prog 75 #[.int .i64 c,.int .i64 d,.int .i64 g] w fun e w'=>e=.returned (.bool r)∧Drawn0 w w':=by
 unfold impl_in.f at h
 have H:=h;clear h
 replace H:=ie_ H;rcases H with⟨a,H⟩|⟨a,H⟩
 ·
  have b:decide (d≤c)=true:=decide_eq_true a
  clear a
  obtain rfl:=Option.some.inj H
  go_enter Tryz.func75,Tryz.ntmps75
  go_wp2
  go_ret
  exact⟨by first|rfl|(simp;done)|(simp[*];done),by repeat (first|exact Drawn0.refl _|apply Drawn0.step)⟩
 have b:decide (d≤c)=false:=decide_eq_false a
 clear a
 obtain rfl:=Option.some.inj H
 go_enter Tryz.func75,Tryz.ntmps75
 go_wp2
 go_ret
 exact⟨by first|rfl|(simp;done)|(simp[*];done),by repeat (first|exact Drawn0.refl _|apply Drawn0.step)⟩
def impl_NameOk.l0:Nat→ByteArray→Int→Option (Bool)
 | 0,_,_=>none
 | k+1,b,a=>if a<(b.size:Int) then (if 0≤a then (if (bt b a)<97 then (some false) else (if (bt b a)>122 then (some false) else (impl_NameOk.l0 k b (wrap64 (a+1))))) else (none)) else (some true)
def impl_NameOk.f (k:Nat) (b:ByteArray):Option (Bool):=(impl_in.f (b.size:Int) 1 8).bind fun a=>(if a=true then (impl_NameOk.l0 k b 0) else (some false))
theorem impl_NameOk.calls (k:Nat) (b:ByteArray) (r:Bool) (w:World) (h:impl_NameOk.f k b=some r) :
  Calls Tryz.prog 150 #[.string b] w fun e w'=>e=.returned (.bool r)∧Drawn0 w w':=by
 unfold impl_NameOk.f at h
 have H:=h;clear h
 replace H:=bi_ H;obtain⟨v,x,H⟩:=H
 replace H:=ib_ H;rcases H with⟨rfl,H⟩|⟨rfl,H⟩
 ·
  have H':=M_ H
  clear H
  go_enter Tryz.func150,Tryz.ntmps150
  go_wp2_with (first|((with_reducible refine gate_callee (f:=75) rfl ?_);refine gl_ (some 6) Tryz.func75 #[.int .i64 (b.size:Int),.int .i64 1,.int .i64 8] ?_;(with_reducible refine(impl_in.calls (b.size:Int) 1 8 true _ x.1).mono ?_);rintro e w' ⟨rfl,⟨z,rfl⟩⟩;refine⟨_,rfl,?_⟩))
  go_loopg [3] k (fun kq A w'=>∃(a:Int),A=.int .i64 a∧Aside0 (impl_NameOk.l0 kq b a=some r)∧Aside0 (kq≤k)∧Drawn0 w w')
  case atStart=>exact⟨(0),rs_,H',⟨Nat.le_refl _⟩,by repeat (first|exact Drawn0.refl _|apply Drawn0.step)⟩
  case round=>
   clear H'
   obtain⟨a,rfl,t,g,⟨m1,rfl⟩⟩:=hrel
   cases gk with
   | zero=>exact absurd t.1 (by simp[impl_NameOk.l0])
   | succ B=>
    have H:=t.1
    clear t
    simp only[impl_NameOk.l0] at H
    replace H:=ie_ H;rcases H with⟨i,H⟩|⟨i,H⟩
    ·
     have j:=decide_eq_true i
     clear i
     replace H:=id_ H;obtain⟨y,H⟩:=H
     replace H:=ie_ H;rcases H with⟨l,H⟩|⟨l,H⟩
     ·
      have m:=decide_eq_true l
      clear l
      obtain rfl:=Option.some.inj H
      obtain⟨c,d⟩:0≤(a:Int)∧a<(b.size:Int):=pq_
      have n:=bt_at b a
      replace c:=eq_true c;replace d:=eq_true d
      go_wp2
      go_ret
      exact⟨by first|rfl|(simp;done)|(simp[*];done),by repeat (first|exact Drawn0.refl _|apply Drawn0.step)⟩
     have m:decide ((bt b a)<97)=false:=decide_eq_false l
     clear l
     replace H:=ie_ H;rcases H with⟨o,H⟩|⟨o,H⟩
     ·
      have p:decide (122<(bt b a))=true:=decide_eq_true o
      clear o
      obtain rfl:=Option.some.inj H
      obtain⟨c,d⟩:0≤(a:Int)∧a<(b.size:Int):=pq_
      have n:=bt_at b a
      replace c:=eq_true c;replace d:=eq_true d
      obtain⟨q,s⟩:0≤(a:Int)∧a<(b.size:Int):=pq_
      have u:=bt_at b a
      replace q:=eq_true q;replace s:=eq_true s
      go_wp2
      go_ret
      exact⟨by first|rfl|(simp;done)|(simp[*];done),by repeat (first|exact Drawn0.refl _|apply Drawn0.step)⟩
     have p:decide (122<(bt b a))=false:=decide_eq_false o
     clear o
     have H':=M_ H
     clear H
     obtain⟨c,d⟩:0≤(a:Int)∧a<(b.size:Int):=pq_
     have n:=bt_at b a
     replace c:=eq_true c;replace d:=eq_true d
     obtain⟨q,s⟩:0≤(a:Int)∧a<(b.size:Int):=pq_
     have u:=bt_at b a
     replace q:=eq_true q;replace s:=eq_true s
     go_wp2
     go_roundg B
     case measure=>have:=g.1;omega
     case rel=>exact⟨(wrap64 (a+1)),rs_,H',⟨by have:=g.1;omega⟩,by repeat (first|exact Drawn0.refl _|apply Drawn0.step)⟩
    have j:decide (a<(b.size:Int))=false:=decide_eq_false i
    clear i
    obtain rfl:=Option.some.inj H
    go_wp2
    go_ret
    exact⟨by first|rfl|(simp;done)|(simp[*];done),by repeat (first|exact Drawn0.refl _|apply Drawn0.step)⟩
 obtain rfl:=Option.some.inj H
 go_enter Tryz.func150,Tryz.ntmps150
 go_wp2_with (first|((with_reducible refine gate_callee (f:=75) rfl ?_);refine gl_ (some 6) Tryz.func75 #[.int .i64 (b.size:Int),.int .i64 1,.int .i64 8] ?_;(with_reducible refine(impl_in.calls (b.size:Int) 1 8 false _ x.1).mono ?_);rintro e w' ⟨rfl,⟨z,rfl⟩⟩;refine⟨_,rfl,?_⟩))
 go_ret
 exact⟨by first|rfl|(simp;done)|(simp[*];done),by repeat (first|exact Drawn0.refl _|apply Drawn0.step)⟩
def impl_LabelOk.f (k:Nat) (a:ByteArray) (b:ByteArray):Option (Bool):=(impl_NameOk.f k a).bind fun c=>(if c=true then ((impl_PlainOk.f k b).bind fun d=>(some d)) else (some false))
theorem impl_LabelOk.calls (k:Nat) (a:ByteArray) (b:ByteArray) (r:Bool) (w:World) (h:impl_LabelOk.f k a b=some r) :
  Calls Tryz.prog 132 #[.agg #[.string a,.string b]] w fun e w'=>e=.returned (.bool r)∧Below w.heap.size w w':=by
 have hu99:=Tryz.underlying99
 have d:=M_ (Below.refl w.heap.size w)
 unfold impl_LabelOk.f at h
 have H:=h;clear h
 replace H:=bi_ H;obtain⟨g,q,H⟩:=H
 have AHz_:=M_ H
 clear H
 go_enter Tryz.func132,Tryz.ntmps132
 go_wp2_with (first|((with_reducible refine gd_ 1 rfl ?_);refine bV_ 1 #[.string a,.string b] 99 ?_;intro j hg u c hb;have l:=gq_ hg d;replace d:=st_ d hb;clear hb hg;obtain⟨m,n,o,p⟩:=bc2_ c.1)|(((with_reducible refine gate_callee (f:=150) rfl ?_);refine gl_ (some 5) Tryz.func150 #[.string a] ?_;(with_reducible refine(impl_NameOk.calls k a g _ q.1).mono ?_);rintro e w' ⟨rfl,⟨s,rfl⟩⟩;refine⟨_,rfl,?_⟩);refine Aside0.out ?_))
 have H:=AHz_.1
 clear AHz_
 replace H:=ib_ H;rcases H with⟨rfl,H⟩|⟨rfl,H⟩
 ·
  replace H:=bi_ H;obtain⟨i,t,H⟩:=H
  obtain rfl:=Option.some.inj H
  refine⟨?_⟩
  go_wp2_with (first|(go_at_call 121;(with_reducible refine(impl_PlainOk.calls k b i _ t.1).mono ?_);rintro e w' ⟨rfl,⟨s,rfl⟩⟩))
  go_ret
  exact an_ (hs_ d.1)
 obtain rfl:=Option.some.inj H
 refine⟨?_⟩
 go_wp2
 go_ret
 exact an_ (hs_ d.1)
def impl_SetOk.l0:Nat→List S99→List S99→Int→Int→Option (Bool)
 | 0,_,_,_,_=>none
 | k+1,d,b,e,a=>if a<e then (if 0≤a then (if a<(b.length:Int) then (if a≥4 then (some false) else ((impl_LabelOk.f k ((rd_T99 b a).f0) ((rd_T99 b a).f1)).bind fun c=>(if c=true then (if a>0 then (if 0≤(wrap64 (a-1)) then (if (wrap64 (a-1))<(d.length:Int) then (if ((Op.bytesLess (((rd_T99 d (wrap64 (a-1))).f0).toList) (((rd_T99 b a).f0).toList))=true) then (impl_SetOk.l0 k d b e (wrap64 (a+1))) else (some false)) else (none)) else (none)) else (impl_SetOk.l0 k d b e (wrap64 (a+1)))) else (some false)))) else (none)) else (none)) else (some true)
def impl_SetOk.f (k:Nat) (l0:List S99):Option (Bool):=impl_SetOk.l0 k l0 l0 (l0.length:Int) 0
def impl_SetOk.T4:Bool×List (List Nat×List Nat):=(true,[([],[]),([0],[0]),([1],[1]),([2],[2]),([3,2,2],[2,3]),([4,2],[2,4]),([2,5],[2,5]),([6,4],[6]),([7],[7]),([8,7],[7,8]),([9,7,7],[7,9]),([10],[10]),([10],[10]),([12,10],[10,12]),([11,13,10],[10,11,13]),([14,10],[10,14]),([15,10],[10,15]),([10],[10]),([17,10],[10,17]),([16,18,10],[10,16,18]),([10,19,7],[7,10,19]),([7,20],[7,20])])
def impl_SetOk.B4:List Nat:=[0,1,3,7,15,31,63,127,255,511,1023,2047,2047,6143,16383,32767,65535,2047,133119,524287,1048575,2097151]
theorem impl_SetOk.tab4:rtab .any (opsOf Tryz.f116 4)=impl_SetOk.T4:=by kernel_rfl
theorem impl_SetOk.bits4:waitsOk impl_SetOk.T4.2 impl_SetOk.B4=true:=by kernel_rfl
theorem impl_SetOk.calls (k:Nat) (A0:Option Addr) (c0:Nat) (l0:List S99) (r:Bool) (w:World) (I:Kd.C k99 w A0 l0.length l0) (J:l0.length≤c0) (h:impl_SetOk.f k l0=some r) :
  Calls Tryz.prog 116 #[.slice A0 l0.length c0] w fun e w'=>e=.returned (.bool r)∧Below w.heap.size w w':=by
 have hu99:=Tryz.underlying99
 have L:=M_ I
 have na:=M_ J
 clear I J
 have l:=M_ (Below.refl w.heap.size w)
 unfold impl_SetOk.f at h
 have H:=h;clear h
 have H':=M_ H
 clear H
 go_enter Tryz.func116,Tryz.ntmps116
 go_wp2
 go_loopg [7] k (fun kq v7 w'=>∃(a:Int),v7=.int .i64 a∧Aside0 (impl_SetOk.l0 kq l0 l0 (l0.length:Int) a=some r)∧Aside0 (kq≤k)∧Aside0 (Below w.heap.size w w'))
 case atStart=>exact⟨(0),rs_,H',⟨Nat.le_refl _⟩,⟨hs_ l.1⟩⟩
 case round=>
  clear H'
  obtain⟨a,rfl,X,A,l⟩:=hrel
  cases gk with
  | zero=>exact absurd X.1 (by simp[impl_SetOk.l0])
  | succ G=>
   have H:=X.1
   clear X
   simp only[impl_SetOk.l0] at H
   replace H:=ie_ H;rcases H with⟨M,H⟩|⟨M,H⟩
   ·
    have N:=decide_eq_true M
    clear M
    replace H:=i2_ H;obtain⟨da,ea,H⟩:=H
    have AHz_:=M_ H
    clear H
    obtain⟨t,O,P,Q,fa,ga⟩:=au_T99 L.1 l a
    cases O
    go_wp2_with (first|(((with_reducible refine gd_ 4 rfl ?_);refine bV_ 4 #[.string (⟨#[]⟩:ByteArray),.string (⟨#[]⟩:ByteArray)] 99 ?_;intro g hg w6 b hb;have Y:=gq_ hg l;replace l:=st_ l hb;clear hb hg;obtain⟨ia,ja,ka,la⟩:=bc2_ b.1);refine Aside0.out ?_))
    have H:=AHz_.1
    clear AHz_
    replace H:=ie_ H;rcases H with⟨R,H⟩|⟨R,H⟩
    ·
     have T:decide (4≤a)=true:=decide_eq_true R
     clear R
     obtain rfl:=Option.some.inj H
     refine⟨?_⟩
     try go_wp2
     generalize hw_:((w6.setCell ⟨g,0,none⟩ (.string ((rd_T99 l0 a).f0))).setCell ⟨g,1,none⟩ (.string ((rd_T99 l0 a).f1)))=w8
     replace b:=wp_ hw_ #[.string ((rd_T99 l0 a).f0),.string ((rd_T99 l0 a).f1)] b
     replace l:=wb_ hw_ l
     clear hw_
     obtain⟨b,l⟩:=y2_ b l
     refine start_ (n:=22) (S:=fun w'=>True) (ds:=[]) (b_ 0 22) (by kernel_rfl) rfl rfl trivial (fun d=>?_);refine with_tabW impl_SetOk.tab4 impl_SetOk.bits4 (fun c s=>?_)
     generalize w8.drew=w9 at b l d ⊢
     iterate 3 refine p_ c ?_
     iterate 3 refine v_ c ?_
     iterate 2 refine p_ c ?_
     iterate 13 refine v_ c ?_
     refine p_ c ?_
     refine done_ (done_of c.1 (by kernel_rfl)) ?_
     try go_wp2
     go_ret
     exact an_ (hs_ l.1)
    have T:decide (4≤a)=false:=decide_eq_false R
    clear R
    replace H:=bi_ H;obtain⟨ma,B,H⟩:=H
    have AHz_:=M_ H
    clear H
    refine⟨?_⟩
    try go_wp2
    generalize hw_:((w6.setCell ⟨g,0,none⟩ (.string ((rd_T99 l0 a).f0))).setCell ⟨g,1,none⟩ (.string ((rd_T99 l0 a).f1)))=D
    replace b:=wp_ hw_ #[.string ((rd_T99 l0 a).f0),.string ((rd_T99 l0 a).f1)] b
    replace l:=wb_ hw_ l
    clear hw_
    obtain⟨b,l⟩:=y2_ b l
    have H:=AHz_.1
    clear AHz_
    replace H:=ib_ H;rcases H with⟨rfl,H⟩|⟨rfl,H⟩
    ·
     replace H:=ie_ H;rcases H with⟨v,H⟩|⟨v,H⟩
     ·
      have E:decide (0<a)=true:=decide_eq_true v
      clear v
      obtain⟨i,q⟩:∃j_:Int,(wrap64 (a-1))=j_:=⟨_,rfl⟩
      replace H:(if 0≤(i) then (if (i)<(l0.length:Int) then (if ((Op.bytesLess (((rd_T99 l0 (i)).f0).toList) (((rd_T99 l0 a).f0).toList))=true) then (impl_SetOk.l0 G l0 l0 (l0.length:Int) (wrap64 (a+1))) else (some false)) else (none)) else (none))=some r:=by first|(rw[q] at H;exact H)|(simp only[q] at H ⊢;exact H)
      (try rw[q] at B)
      have W:(IntKind.i64.wrap (a-1))=i:=(i64_w _).trans q
      replace H:=i2_ H;obtain⟨Z,aa,H⟩:=H
      have AHz_:=M_ H
      clear H
      obtain⟨x,y⟩:0≤((i):Int)∧(i)<(l0.length:Int):=pq_
      obtain⟨F,U,j,m⟩:=at_T99 L.1 (i) x y
      have o:=m
      have p:=j
      obtain rfl:t=F:=(by injection U)
      replace j:=c2_ l j m;clear m;obtain⟨j,m⟩:=j
      replace x:=eq_true x;replace y:=eq_true y
      refine start_ (n:=22) (S:=fun w'=>c_ w' g 0 (.string ((rd_T99 l0 a).f0))∧c_ w' g 1 (.string ((rd_T99 l0 a).f1))∧w'.cell? (t.add (((i)).toNat*2))=some (.string ((rd_T99 l0 (i)).f0))∧d_ w' (t.add (((i)).toNat*2)) 1 (.string ((rd_T99 l0 (i)).f1))) (ds:=[]) (b_ 0 22) (by kernel_rfl) rfl rfl ⟨bx_ b.1 0,bx_ b.1 1,((l.1.cell (World.block_lt_of_cell? w _ p)).trans p),((l.1.cell (World.block_lt_of_cell? w _ o)).trans o)⟩ (fun d=>?_);refine with_tabW impl_SetOk.tab4 impl_SetOk.bits4 (fun c s=>?_)
      generalize D.drew=qa at b l j m d ⊢
      iterate 3 refine p_ c ?_
      refine t0_ c s d ?_
      refine o1_ 4 (b_ 5 17) c (fun K V=>?_)
      refine gs_ Tryz.func132 #[.agg #[.string ((rd_T99 l0 a).f0),.string ((rd_T99 l0 a).f1)]] ?_
      with_reducible refine(impl_LabelOk.calls G ((rd_T99 l0 a).f0) ((rd_T99 l0 a).f1) true _ B.1).mono ?_
      rintro e ra ⟨rfl,hb⟩
      refine⟨_,rfl,?_⟩
      obtain⟨b,l⟩:=u2_ hb b l
      (try clear hb)
      refine ho_ V ⟨bx_ b.1 0,bx_ b.1 1,((l.1.cell (World.block_lt_of_cell? w _ p)).trans p),((l.1.cell (World.block_lt_of_cell? w _ o)).trans o)⟩ (fun d=>?_)
      iterate 11 refine p_ c ?_
      refine qw_ 17 (m_ 22 196607) c ?_
      refine qt_ 16 (b_ 18 4) c s d ?_
      refine t0_ c s d ?_
      iterate 3 refine p_ c ?_
      have H:=AHz_.1
      clear AHz_
      replace H:=ie_ H;rcases H with⟨z,H⟩|⟨z,H⟩
      ·
       have u:(Op.bytesLess (((rd_T99 l0 (i)).f0).toList) (((rd_T99 l0 a).f0).toList))=true:=z
       clear z
       have H':=M_ H
       clear H
       (try simp only[u])
       refine done_ (done_of c.1 (by kernel_rfl)) ?_
       try go_wp2
       go_roundg G
       case measure=>have:=A.1;omega
       case rel=>exact⟨(wrap64 (a+1)),rs_,H',⟨by have:=A.1;omega⟩,⟨hs_ l.1⟩⟩
      have u:(Op.bytesLess (((rd_T99 l0 (i)).f0).toList) (((rd_T99 l0 a).f0).toList))=false:=by simpa using z
      clear z
      obtain rfl:=Option.some.inj H
      (try simp only[u])
      refine done_ (done_of c.1 (by kernel_rfl)) ?_
      try go_wp2
      go_ret
      exact⟨by first|rfl|(simp[errW_none,errW_some]<;>rfl)|(simp only[←q];first|rfl|(simp[errW_none,errW_some]<;>rfl))|(simp[*,errW_none,errW_some]<;>rfl),hs_ l.1⟩
     have E:decide (0<a)=false:=decide_eq_false v
     clear v
     have H':=M_ H
     clear H
     refine start_ (n:=22) (S:=fun w'=>c_ w' g 0 (.string ((rd_T99 l0 a).f0))∧c_ w' g 1 (.string ((rd_T99 l0 a).f1))) (ds:=[]) (b_ 0 22) (by kernel_rfl) rfl rfl (e2_ b.1) (fun d=>?_);refine with_tabW impl_SetOk.tab4 impl_SetOk.bits4 (fun c s=>?_)
     generalize D.drew=sa at b l d ⊢
     iterate 3 refine p_ c ?_
     refine t0_ c s d ?_
     refine o1_ 4 (b_ 5 17) c (fun K V=>?_)
     refine gs_ Tryz.func132 #[.agg #[.string ((rd_T99 l0 a).f0),.string ((rd_T99 l0 a).f1)]] ?_
     with_reducible refine(impl_LabelOk.calls G ((rd_T99 l0 a).f0) ((rd_T99 l0 a).f1) true _ B.1).mono ?_
     rintro e ta ⟨rfl,hb⟩
     refine⟨_,rfl,?_⟩
     obtain⟨b,l⟩:=u2_ hb b l
     (try clear hb)
     refine ho_ V (e2_ b.1) (fun d=>?_)
     iterate 6 refine p_ c ?_
     iterate 9 refine v_ c ?_
     iterate 2 refine p_ c ?_
     refine done_ (done_of c.1 (by kernel_rfl)) ?_
     try go_wp2
     go_roundg G
     case measure=>have:=A.1;omega
     case rel=>exact⟨(wrap64 (a+1)),rs_,H',⟨by have:=A.1;omega⟩,⟨hs_ l.1⟩⟩
    obtain rfl:=Option.some.inj H
    refine start_ (n:=22) (S:=fun w'=>c_ w' g 0 (.string ((rd_T99 l0 a).f0))∧c_ w' g 1 (.string ((rd_T99 l0 a).f1))) (ds:=[]) (b_ 0 22) (by kernel_rfl) rfl rfl (e2_ b.1) (fun d=>?_);refine with_tabW impl_SetOk.tab4 impl_SetOk.bits4 (fun c s=>?_)
    generalize D.drew=ua at b l d ⊢
    iterate 3 refine p_ c ?_
    refine t0_ c s d ?_
    refine o1_ 4 (b_ 5 17) c (fun K V=>?_)
    refine gs_ Tryz.func132 #[.agg #[.string ((rd_T99 l0 a).f0),.string ((rd_T99 l0 a).f1)]] ?_
    with_reducible refine(impl_LabelOk.calls G ((rd_T99 l0 a).f0) ((rd_T99 l0 a).f1) false _ B.1).mono ?_
    rintro e va ⟨rfl,hb⟩
    refine⟨_,rfl,?_⟩
    obtain⟨b,l⟩:=u2_ hb b l
    (try clear hb)
    refine ho_ V (e2_ b.1) (fun d=>?_)
    iterate 3 refine p_ c ?_
    iterate 13 refine v_ c ?_
    refine p_ c ?_
    refine done_ (done_of c.1 (by kernel_rfl)) ?_
    try go_wp2
    go_ret
    exact an_ (hs_ l.1)
   have N:decide (a<(l0.length:Int))=false:=decide_eq_false M
   clear M
   obtain rfl:=Option.some.inj H
   go_wp2
   go_ret
   exact an_ (hs_ l.1)
end Go.Proofs.YtanfohlpkppeiaaGreat.Print
end
section
namespace Go.Proofs
open Go.Shelf
def Tryz.lays156_ren:Go.Shelf.Ren:=⟨fun|156=>117|165=>133|166=>134|169=>135|240=>151|241=>152|276=>156|277=>157|n=>n,fun|31=>117|9=>9|3=>3|4=>4|0=>0|20=>20|72=>137|76=>141|70=>135|37=>22|75=>140|127=>149|164=>122|5=>5|80=>143|n=>n,fun|n=>n⟩
theorem Tryz.lays156:Go.Proofs.Lays.n156 Tryz.prog Tryz.lays156_ren:={
  mixed:=by kernel_rfl
  f156:=Tryz.func117.trans (congrArg some (by kernel_rfl))
  f165:=Tryz.func133.trans (congrArg some (by kernel_rfl))
  f166:=Tryz.func134.trans (congrArg some (by kernel_rfl))
  f169:=Tryz.func135.trans (congrArg some (by kernel_rfl))
  f240:=Tryz.func151.trans (congrArg some (by kernel_rfl))
  f241:=Tryz.func152.trans (congrArg some (by kernel_rfl))
  f276:=Tryz.func156.trans (congrArg some (by kernel_rfl))
  f277:=Tryz.func157.trans (congrArg some (by kernel_rfl))
  t0:=Tryz.underlying0
  a0:=Tryz.isAgg0
  z0:=Tryz.sizeOf0
  v0:=Tryz.zeroValue0
  t3:=Tryz.underlying3
  a3:=Tryz.isAgg3
  z3:=Tryz.sizeOf3
  v3:=Tryz.zeroValue3
  t4:=Tryz.underlying4
  a4:=Tryz.isAgg4
  z4:=Tryz.sizeOf4
  v4:=Tryz.zeroValue4
  t9:=Tryz.underlying9
  a9:=Tryz.isAgg9
  z9:=Tryz.sizeOf9
  v9:=Tryz.zeroValue9
  t20:=Tryz.underlying20
  a20:=Tryz.isAgg20
  z20:=Tryz.sizeOf20
  v20:=Tryz.zeroValue20
  t31:=Tryz.underlying117
  a31:=Tryz.isAgg117
  z31:=Tryz.sizeOf117
  v31:=Tryz.zeroValue117
  t37:=Tryz.underlying22
  a37:=Tryz.isAgg22
  z37:=Tryz.sizeOf22
  v37:=Tryz.zeroValue22
  t70:=Tryz.underlying135
  a70:=Tryz.isAgg135
  z70:=Tryz.sizeOf135
  v70:=Tryz.zeroValue135
  t72:=Tryz.underlying137
  a72:=Tryz.isAgg137
  z72:=Tryz.sizeOf137
  v72:=Tryz.zeroValue137
  t75:=Tryz.underlying140
  a75:=Tryz.isAgg140
  z75:=Tryz.sizeOf140
  v75:=Tryz.zeroValue140
  t76:=Tryz.underlying141
  a76:=Tryz.isAgg141
  z76:=Tryz.sizeOf141
  v76:=Tryz.zeroValue141
  t127:=Tryz.underlying149
  a127:=Tryz.isAgg149
  z127:=Tryz.sizeOf149
  v127:=Tryz.zeroValue149
  t164:=Tryz.underlying122
  a164:=Tryz.isAgg122
  z164:=Tryz.sizeOf122
  v164:=Tryz.zeroValue122 }
theorem Tryz.Builder_Extra_156:Builder.Extra Tryz.prog Tryz.lays156_ren:={
  sizeBuilder:=by kernel_rfl
  liesBuilder:=by kernel_rfl
  t5:=Tryz.underlying5
  a5:=Tryz.isAgg5
  z5:=Tryz.sizeOf5
  v5:=Tryz.zeroValue5
  infoByte:=by kernel_rfl
  cellsByte:=by kernel_rfl
  sizeByte:=by kernel_rfl
  neB5:=by decide }
open Go.RowKit in
theorem Tryz.strings_Join_none (a:Option Addr) (c:Nat) (sep:ByteArray) (w:World) :
    Calls Tryz.prog 117 #[.slice a 0 c,.string sep] w fun e w'=>e=.returned (.string ⟨#[]⟩)∧w'=w:=Any.strings_Join_none Tryz.lays156 Tryz.Builder_Extra_156 a c sep w
open Go.RowKit in
theorem Tryz.strings_Join (bk o c:Nat) (xs:List ByteArray) (sep:ByteArray) (w:World) (hcells:∀(j:Nat) x,xs[j]?=some x→w.cell? ⟨bk,o+j,none⟩=some (.string x)) (hbk:bk<w.heap.size) (hN:xs.length≤140737488355328) (hcap:xs.length≤c) (hlen:(Lib.join (xs.map (·.data.toList)) sep.data.toList).length≤140737488355328) :
    Calls Tryz.prog 117 #[.slice (some ⟨bk,o,none⟩) xs.length c,.string sep] w fun e w'=>e=.returned (.string ⟨(Lib.join (xs.map (·.data.toList)) sep.data.toList).toArray⟩)∧Below w.heap.size w w':=Any.strings_Join Tryz.lays156 Tryz.Builder_Extra_156 bk o c xs sep w hcells hbk hN hcap hlen
def Tryz.laysGg26_ren:Go.Shelf.Ren:=⟨fun|26=>146|n=>n,fun|44=>131|3=>3|0=>0|4=>4|26=>115|37=>127|n=>n,fun|n=>n⟩
theorem Tryz.laysGg26:Go.Proofs.LaysGg.n26 Tryz.prog Tryz.laysGg26_ren:={
  mixed:=by kernel_rfl
  f26:=Tryz.func146.trans (congrArg some (by kernel_rfl))
  t0:=Tryz.underlying0
  a0:=Tryz.isAgg0
  z0:=Tryz.sizeOf0
  v0:=Tryz.zeroValue0
  i0:=by kernel_rfl
  t3:=Tryz.underlying3
  a3:=Tryz.isAgg3
  z3:=Tryz.sizeOf3
  v3:=Tryz.zeroValue3
  i3:=by kernel_rfl
  t4:=Tryz.underlying4
  a4:=Tryz.isAgg4
  z4:=Tryz.sizeOf4
  v4:=Tryz.zeroValue4
  i4:=by kernel_rfl
  t26:=Tryz.underlying115
  a26:=Tryz.isAgg115
  z26:=Tryz.sizeOf115
  v26:=Tryz.zeroValue115
  i26:=by kernel_rfl
  t37:=Tryz.underlying127
  a37:=Tryz.isAgg127
  z37:=Tryz.sizeOf127
  v37:=Tryz.zeroValue127
  i37:=by kernel_rfl
  t44:=Tryz.underlying131
  a44:=Tryz.isAgg131
  z44:=Tryz.sizeOf131
  v44:=Tryz.zeroValue131
  i44:=by kernel_rfl }
open Go.RowKit Go.Lib Go.Sort in
theorem Tryz.insertionSort_func_cells {α:Type} [Inhabited α] (enc:α→List Value) (k:Nat) (hk:∀x,(enc x).length=k) (lt:α→α→Bool) (g:Nat) (lb:Array Value) (sf:Nat) (sb:Array Value) (blk off a b:Nat) (d:Array α) (w:World) (eg:∀args w,(callFunc g args).run Tryz.prog w=.ok (.enter g args) w) (hless:LessReadsK Tryz.prog g lb enc k lt blk off d.size w) (hswap:SwapSwapsK Tryz.prog sf sb enc k blk off d.size) (hH:HoldsK enc k w blk off d) (hblk:blk<w.heap.size) (hab:a≤b) (hb:b≤d.size) (hsz:d.size<4611686018427387904) :
    Calls Tryz.prog 146 #[.agg #[.func (.func g) #[] lb,.func (.func sf) #[] sb],.int .i64 a,.int .i64 b] w fun e w'=>
      e=.returned (.tuple #[])∧∃n,w'=putRowK enc k (Sort.ahead (w.alloc (.cells #[.func (.func g) #[] lb,.func (.func sf) #[] sb] 131)) n) blk off (Sort.insertionSort lt d a b):=Any.insertionSort_func_cells Tryz.laysGg26 enc k hk lt g lb sf sb blk off a b d w eg hless hswap hH hblk hab hb hsz
def Tryz.laysGt8_ren:Go.Shelf.Ren:=⟨fun|8=>110|13=>124|14=>125|16=>127|15=>126|29=>146|30=>147|42=>154|49=>158|n=>n,fun|20=>20|26=>115|36=>125|0=>0|38=>127|42=>131|3=>3|4=>4|47=>108|17=>17|33=>122|34=>123|89=>163|12=>12|56=>118|82=>157|5=>5|83=>158|84=>159|85=>149|86=>160|87=>161|n=>n,fun|n=>n⟩
theorem Tryz.laysGt8:Go.Proofs.LaysGt.n8 Tryz.prog Tryz.laysGt8_ren:={
  mixed:=by kernel_rfl
  f8:=Tryz.func110.trans (congrArg some (by kernel_rfl))
  f13:=Tryz.func124.trans (congrArg some (by kernel_rfl))
  f14:=Tryz.func125.trans (congrArg some (by kernel_rfl))
  f15:=Tryz.func126.trans (congrArg some (by kernel_rfl))
  f16:=Tryz.func127.trans (congrArg some (by kernel_rfl))
  f29:=Tryz.func146.trans (congrArg some (by kernel_rfl))
  f30:=Tryz.func147.trans (congrArg some (by kernel_rfl))
  f42:=Tryz.func154.trans (congrArg some (by kernel_rfl))
  f49:=Tryz.func158.trans (congrArg some (by kernel_rfl))
  t0:=Tryz.underlying0
  a0:=Tryz.isAgg0
  z0:=Tryz.sizeOf0
  v0:=Tryz.zeroValue0
  i0:=by kernel_rfl
  t3:=Tryz.underlying3
  a3:=Tryz.isAgg3
  z3:=Tryz.sizeOf3
  v3:=Tryz.zeroValue3
  i3:=by kernel_rfl
  t4:=Tryz.underlying4
  a4:=Tryz.isAgg4
  z4:=Tryz.sizeOf4
  v4:=Tryz.zeroValue4
  i4:=by kernel_rfl
  t5:=Tryz.underlying5
  a5:=Tryz.isAgg5
  z5:=Tryz.sizeOf5
  v5:=Tryz.zeroValue5
  i5:=by kernel_rfl
  t12:=Tryz.underlying12
  a12:=Tryz.isAgg12
  z12:=Tryz.sizeOf12
  v12:=Tryz.zeroValue12
  i12:=by kernel_rfl
  t17:=Tryz.underlying17
  a17:=Tryz.isAgg17
  z17:=Tryz.sizeOf17
  v17:=Tryz.zeroValue17
  i17:=by kernel_rfl
  t20:=Tryz.underlying20
  a20:=Tryz.isAgg20
  z20:=Tryz.sizeOf20
  v20:=Tryz.zeroValue20
  i20:=by kernel_rfl
  t26:=Tryz.underlying115
  a26:=Tryz.isAgg115
  z26:=Tryz.sizeOf115
  v26:=Tryz.zeroValue115
  i26:=by kernel_rfl
  t33:=Tryz.underlying122
  a33:=Tryz.isAgg122
  z33:=Tryz.sizeOf122
  v33:=Tryz.zeroValue122
  i33:=by kernel_rfl
  t34:=Tryz.underlying123
  a34:=Tryz.isAgg123
  z34:=Tryz.sizeOf123
  v34:=Tryz.zeroValue123
  i34:=by kernel_rfl
  t36:=Tryz.underlying125
  a36:=Tryz.isAgg125
  z36:=Tryz.sizeOf125
  v36:=Tryz.zeroValue125
  i36:=by kernel_rfl
  t38:=Tryz.underlying127
  a38:=Tryz.isAgg127
  z38:=Tryz.sizeOf127
  v38:=Tryz.zeroValue127
  i38:=by kernel_rfl
  t42:=Tryz.underlying131
  a42:=Tryz.isAgg131
  z42:=Tryz.sizeOf131
  v42:=Tryz.zeroValue131
  i42:=by kernel_rfl
  t47:=Tryz.underlying108
  a47:=Tryz.isAgg108
  z47:=Tryz.sizeOf108
  v47:=Tryz.zeroValue108
  i47:=by kernel_rfl
  t56:=Tryz.underlying118
  a56:=Tryz.isAgg118
  z56:=Tryz.sizeOf118
  v56:=Tryz.zeroValue118
  i56:=by kernel_rfl
  t82:=Tryz.underlying157
  a82:=Tryz.isAgg157
  z82:=Tryz.sizeOf157
  v82:=Tryz.zeroValue157
  i82:=by kernel_rfl
  t83:=Tryz.underlying158
  a83:=Tryz.isAgg158
  z83:=Tryz.sizeOf158
  v83:=Tryz.zeroValue158
  i83:=by kernel_rfl
  t84:=Tryz.underlying159
  a84:=Tryz.isAgg159
  z84:=Tryz.sizeOf159
  v84:=Tryz.zeroValue159
  i84:=by kernel_rfl
  t85:=Tryz.underlying149
  a85:=Tryz.isAgg149
  z85:=Tryz.sizeOf149
  v85:=Tryz.zeroValue149
  i85:=by kernel_rfl
  t86:=Tryz.underlying160
  a86:=Tryz.isAgg160
  z86:=Tryz.sizeOf160
  v86:=Tryz.zeroValue160
  i86:=by kernel_rfl
  t87:=Tryz.underlying161
  a87:=Tryz.isAgg161
  z87:=Tryz.sizeOf161
  v87:=Tryz.zeroValue161
  i87:=by kernel_rfl
  t89:=Tryz.underlying163
  a89:=Tryz.isAgg163
  z89:=Tryz.sizeOf163
  v89:=Tryz.zeroValue163
  i89:=by kernel_rfl }
end Go.Proofs
end
section
namespace Go.Proofs.YtanfohlpkppeiaaGreat.Print
open Go.RowKit Go.Proofs.YtanfohlpkppeiaaGreatV.PrintWords Go.Proofs.YtanfohlpkppeiaaGreatV.PrintLast Go.Proofs.YtanfohlpkppeiaaGreatV.PrintMore
attribute [local go_sem] max2_int min2_int max_two min_two max_three min_three max_four min_four
set_option linter.unusedVariables false
set_option linter.unusedSimpArgs false
set_option maxHeartbeats 80000000
set_option maxRecDepth 100000
def strings_Join.f (a:List ByteArray) (b:ByteArray):Option ByteArray:=if a.length≤140737488355328∧(Lib.join (a.map (·.data.toList)) b.data.toList).length≤140737488355328 then some ⟨(Lib.join (a.map (·.data.toList)) b.data.toList).toArray⟩ else none
theorem strings_Join.calls (i:Option Addr) (d:Nat) (a:List ByteArray) (g:ByteArray) (r:ByteArray) (w:World) (k:Kd.C Kd.string w i a.length a) (l:a.length≤d) (h:strings_Join.f a g=some r) :
 Calls Tryz.prog 117 #[.slice i a.length d,.string g] w fun e w'=>e=.returned (.string r)∧Below w.heap.size w w':=by
 unfold strings_Join.f at h
 split at h
 ·
  rename_i hb
  injection h with h
  subst h
  by_cases h0:a=[]
  ·
   subst h0
   exact(Tryz.strings_Join_none i d g w).mono fun e w' ⟨he,hw⟩=>⟨he,hw▸Below.refl _ _⟩
  obtain⟨ad,rfl,hcell⟩:=k.2.2 (List.length_pos_iff.2 h0)
  have hc:∀(j:Nat) x,a[j]?=some x→w.cell? (ad.add j)=some (.string x):=by
   intro j x hx
   obtain⟨c,hl,hk,hu⟩:=hcell j x hx
   have:=hu 0 (.string x) (by rw[show c=[.string x] from hk];rfl)
   simpa [Kd.string,Kd.scalar] using this
  have hp:0<a.length:=List.length_pos_iff.2 h0
  have hs:=hc 0 a[0] (List.getElem?_eq_getElem hp)
  have hb0:ad.block<w.heap.size:=by
   have h1:=hs
   rw[show ad.add 0=ad from rfl] at h1
   unfold World.cell? at h1
   by_cases hlt:ad.block<w.heap.size
   ·
    exact hlt
   rw[Array.getElem?_eq_none (by omega)] at h1;simp at h1
  have hspot:ad=⟨ad.block,ad.off,none⟩:=by
   have h1:=hs
   rw[show ad.add 0=ad from rfl] at h1
   unfold World.cell? at h1
   rcases ad with⟨b,o,s⟩
   cases s with
   | none=>rfl
   | some s=>simp only[Option.isSome_some,if_true] at h1;split at h1<;>simp at h1
  have hcells:∀(j:Nat) x,a[j]?=some x→w.cell? ⟨ad.block,ad.off+j,none⟩=some (.string x):=by
   intro j x hx
   have:=hc j x hx
   unfold Addr.add at this
   by_cases hj:j=0
   ·
    subst hj;rw[if_pos rfl] at this;rw[hspot] at this;exact this
   rw[if_neg hj] at this;exact this
  rw[show (some ad:Option Addr)=some ⟨ad.block,ad.off,none⟩ from by rw[←hspot]]
  exact Tryz.strings_Join ad.block ad.off d a g w hcells hb0 hb.1 l hb.2
 exact absurd h (by simp)
def impl_SetText.l0:Nat→List ByteArray→List S99→Int→Int→Option (ByteArray)
 | 0,_,_,_,_=>none
 | k+1,e,c,d,a=>if a<d then (if 0≤a then (if a<(c.length:Int) then (if ((rd_T99 c a).f0).size+2≤9223372036854775807 then (if (((rd_T99 c a).f0)++(⟨#[61,34]⟩:ByteArray)).size+((rd_T99 c a).f1).size≤9223372036854775807 then (if ((((rd_T99 c a).f0)++(⟨#[61,34]⟩:ByteArray))++((rd_T99 c a).f1)).size+1≤9223372036854775807 then (if e.length<8796093022208 then (impl_SetText.l0 k (e++[((((rd_T99 c a).f0)++(⟨#[61,34]⟩:ByteArray))++((rd_T99 c a).f1))++(⟨#[34]⟩:ByteArray)]) c d (wrap64 (a+1))) else (none)) else (none)) else (none)) else (none)) else (none)) else (none)) else ((strings_Join.f e (⟨#[44,32]⟩:ByteArray)).bind fun b=>(if 1+b.size≤9223372036854775807 then (if ((⟨#[123]⟩:ByteArray)++b).size+1≤9223372036854775807 then (some (((⟨#[123]⟩:ByteArray)++b)++(⟨#[125]⟩:ByteArray))) else (none)) else (none)))
def impl_SetText.f (k:Nat) (l0:List S99):Option (ByteArray):=(impl_SetOk.f k l0).bind fun a=>(if a=true then (impl_SetText.l0 k ([]:List ByteArray) l0 (l0.length:Int) 0) else (some (⟨#[]⟩:ByteArray)))
theorem impl_SetText.calls (k:Nat) (Q:Option Addr) (S:Nat) (l0:List S99) (r:ByteArray) (w:World) (A:Kd.C k99 w Q l0.length l0) (B:l0.length≤S) (h:impl_SetText.f k l0=some r) :
  Calls Tryz.prog 96 #[.slice Q l0.length S] w fun e w'=>e=.returned (.string r)∧Below w.heap.size w w':=by
 have hu99:=Tryz.underlying99
 have D:=M_ A
 have T:=M_ B
 clear A B
 have m:=M_ (Below.refl w.heap.size w)
 unfold impl_SetText.f at h
 have H:=h;clear h
 replace H:=bi_ H;obtain⟨E,A2,H⟩:=H
 have AHz_:=M_ H
 clear H
 go_enter Tryz.func96,Tryz.ntmps96
 go_wp2_with (first|(((with_reducible refine gate_callee (f:=116) rfl ?_);refine gl_ (some 7) Tryz.func116 #[.slice Q l0.length S] ?_;(with_reducible refine(impl_SetOk.calls k _ _ l0 E _ ?_ ?_ A2.1).mono ?_);exact cp_ (D.1);exact T.1;rintro e w4 ⟨rfl,hb⟩;refine⟨_,rfl,?_⟩;replace m:=st_ m hb;(try clear hb));refine Aside0.out ?_))
 have H:=AHz_.1
 clear AHz_
 replace H:=ib_ H;rcases H with⟨rfl,H⟩|⟨rfl,H⟩
 ·
  have H':=M_ H
  clear H
  refine⟨?_⟩
  go_wp2
  go_loopg [3,11] k (fun kq v3 U w'=>∃(d:List ByteArray) (a:Int),U=.int .i64 a∧Aside0 (impl_SetText.l0 kq d l0 (l0.length:Int) a=some r)∧Aside0 (kq≤k)∧Aside0 (Kd.R Kd.string 9 w' w.heap.size (fun _=>True) v3 d)∧Aside0 (Below w.heap.size w w'))
  case atStart=>exact⟨(([]:List ByteArray)),(0),rs_,H',⟨Nat.le_refl _⟩,⟨by first|exact Kd.R_nil _ _ _ _ _|exact Kd.N_nil _ _ _ _ _|exact Kd.V_nil _ _ _ _ _|exact Kd.Q_nil _ _ _ _ _|exact Kd.S_nil _ _ _ _ _⟩,⟨hs_ m.1⟩⟩
  case round=>
   clear H'
   obtain⟨d,a,rfl,V,F,c,m⟩:=hrel
   cases gk with
   | zero=>exact absurd V.1 (by simp[impl_SetText.l0])
   | succ k1=>
    have H:=V.1
    clear V
    simp only[impl_SetText.l0] at H
    replace H:=ie_ H;rcases H with⟨G,H⟩|⟨G,H⟩
    ·
     have I:=decide_eq_true G
     clear G
     replace H:=i2_ H;obtain⟨ua,va,H⟩:=H
     replace H:=in_ H;obtain⟨W,H⟩:=H
     have wa:=eq_true W
     have xa:=decide_eq_true W
     try have ya:(9223372036854775807<((rd_T99 l0 a).f0).size+2)=False:=eq_false (Nat.not_lt.2 W)
     replace H:=in_ H;obtain⟨P,H⟩:=H
     have za:=eq_true P
     have Aa:=decide_eq_true P
     try have Ba:(9223372036854775807<(((rd_T99 l0 a).f0)++(⟨#[61,34]⟩:ByteArray)).size+((rd_T99 l0 a).f1).size)=False:=eq_false (Nat.not_lt.2 P)
     have n:=P
     simp only[ByteArray.size_append,show (⟨#[61,34]⟩:ByteArray).size=2 from rfl] at n
     have Ca:=eq_false (Nat.not_lt.2 n)
     have Da:=decide_eq_true n
     have Ea:=eq_true n
     clear n
     replace H:=in_ H;obtain⟨q,H⟩:=H
     have X:=eq_true q
     have Y:=decide_eq_true q
     try have Z:(9223372036854775807<((((rd_T99 l0 a).f0)++(⟨#[61,34]⟩:ByteArray))++((rd_T99 l0 a).f1)).size+1)=False:=eq_false (Nat.not_lt.2 q)
     have j:=q
     simp only[ByteArray.size_append,show (⟨#[61,34]⟩:ByteArray).size=2 from rfl] at j
     have aa:=eq_false (Nat.not_lt.2 j)
     have ba:=decide_eq_true j
     have ca:=eq_true j
     clear j
     replace H:=im_ H;obtain⟨u,H⟩:=H
     obtain⟨t,hy_⟩:∃y_:List ByteArray,y_=(d++[((((rd_T99 l0 a).f0)++(⟨#[61,34]⟩:ByteArray))++((rd_T99 l0 a).f1))++(⟨#[34]⟩:ByteArray)]):=⟨_,rfl⟩
     replace H:(impl_SetText.l0 k1 t l0 (l0.length:Int) (wrap64 (a+1)))=some r:=hm_
     have v:=M_ hy_;clear hy_
     have H':=M_ H
     clear H
     obtain⟨da,J,K,L,Fa,Ga⟩:=au_T99 D.1 m a
     cases J
     go_wp2_with (first|((with_reducible refine gd_ 5 rfl ?_);refine bV_ 5 #[.string (⟨#[]⟩:ByteArray),.string (⟨#[]⟩:ByteArray)] 99 ?_;intro x hg Ka i hb;replace c:=rb_ c hb;have ea:=gq_ hg m;replace m:=st_ m hb;clear hb hg;obtain⟨fa,ga,ha,ia⟩:=bc2_ i.1)|((with_reducible refine gate_builtin (b:=.append) (xs:=#[.tmp 15,.tmp 23]) rfl ?_);at_builtin;refine Kd.R_append Kd.string (w0:=w) w.heap.size rfl (.tmp 15) (.tmp 23) 117 9 (.string ⟨#[]⟩) 16 rfl Tryz.underlying117 info9 rfl (by decide) (by omega) u3 d (((((rd_T99 l0 a).f0)++(⟨#[61,34]⟩:ByteArray))++((rd_T99 l0 a).f1))++(⟨#[34]⟩:ByteArray)) [.string (((((rd_T99 l0 a).f0)++(⟨#[61,34]⟩:ByteArray))++((rd_T99 l0 a).f1))++(⟨#[34]⟩:ByteArray))] (fun _=>True) (fun _=>False) rfl (by first|(go_simp;done)|(go_simp;rfl)) ?aP (fun _ hk=>hk.elim) ?aF ?aO ?aB ?aS ?aL ?_;(case aP=>exact rfl);(case aB=>exact(hs_ m.1));(case aF=>exact(fun _ _=>trivial));(case aO=>exact(Kd.R_mono (ry_ c.1 i.1) (fun _ hk=>trivial)));(case aS=>exact(below_size (hs_ m.1)));(case aL=>have:=u.1;omega);intro Ha La ho hb hg hat;rw[←v.1] at ho;replace i:=M_ (blk_grown (g:=x) (o:=.cells #[.string ((rd_T99 l0 a).f0),.string ((rd_T99 l0 a).f1)] 99 (0,0)) (bp_ i.1) hg (Kd.R_ne c.1 i.1 (by decide)));replace m:=M_ (hb);have y:=M_ (ho);clear c;clear ho hb hg hat))
     go_roundg k1
     case measure=>have:=F.1;omega
     case rel=>exact⟨(t),(wrap64 (a+1)),rs_,H',⟨by have:=F.1;omega⟩,⟨rp_ y.1⟩,⟨hs_ m.1⟩⟩
    have I:decide (a<(l0.length:Int))=false:=decide_eq_false G
    clear G
    replace H:=bi_ H;obtain⟨p,ja,H⟩:=H
    replace H:=in_ H;obtain⟨z,H⟩:=H
    have ka:=eq_true z
    have la:=decide_eq_true z
    try have ma:(9223372036854775807<1+p.size)=False:=eq_false (Nat.not_lt.2 z)
    replace H:=in_ H;obtain⟨s,H⟩:=H
    have na:=eq_true s
    have oa:=decide_eq_true s
    try have pa:(9223372036854775807<((⟨#[123]⟩:ByteArray)++p).size+1)=False:=eq_false (Nat.not_lt.2 s)
    have l:=s
    simp only[ByteArray.size_append,show (⟨#[123]⟩:ByteArray).size=1 from rfl] at l
    have qa:=eq_false (Nat.not_lt.2 l)
    have ra:=decide_eq_true l
    have sa:=eq_true l
    clear l
    obtain rfl:=Option.some.inj H
    obtain⟨M,N,O⟩:=Kd.R_slice c.1
    subst O
    go_wp2_with (first|((with_reducible refine gate_callee (f:=117) rfl ?_);refine gl_ (some 27) Tryz.func117 #[.slice M d.length N,.string (⟨#[44,32]⟩:ByteArray)] ?_;(with_reducible refine(strings_Join.calls _ _ d (⟨#[44,32]⟩:ByteArray) p _ ?_ ?_ ja.1).mono ?_);exact cp_ ((Kd.R_reads' c.1).2.2);exact(Kd.R_reads' c.1).2.1;rintro e Ma ⟨rfl,hb⟩;refine⟨_,rfl,?_⟩;obtain⟨c,m⟩:=u2_ hb c m;(try clear hb)))
    go_ret
    exact an_ (hs_ m.1)
 obtain rfl:=Option.some.inj H
 refine⟨?_⟩
 go_wp2
 go_ret
 exact an_ (hs_ m.1)
def impl_Finger.f (k:Nat) (c:List S99):Option (Int):=(impl_SetText.f k c).bind fun b=>((impl_Sum.f k b).bind fun a=>(some (Int.tmod (Go.bits .xor .i64 a (a / 65536)) 32)))
theorem impl_Finger.calls (k:Nat) (i:Option Addr) (j:Nat) (b:List S99) (r:Int) (w:World) (c:Kd.C k99 w i b.length b) (d:b.length≤j) (h:impl_Finger.f k b=some r) :
  Calls Tryz.prog 55 #[.slice i b.length j] w fun e w'=>e=.returned (.int .i64 r)∧Below w.heap.size w w':=by
 have l:=M_ c
 have m:=M_ d
 clear c d
 have n:=M_ (Below.refl w.heap.size w)
 unfold impl_Finger.f at h
 have H:=h;clear h
 replace H:=bi_ H;obtain⟨a,o,H⟩:=H
 replace H:=bi_ H;obtain⟨g,p,H⟩:=H
 obtain rfl:=Option.some.inj H
 go_enter Tryz.func55,Tryz.ntmps55
 go_wp2_with (first|((with_reducible refine gate_callee (f:=96) rfl ?_);refine gl_ (some 5) Tryz.func96 #[.slice i b.length j] ?_;(with_reducible refine(impl_SetText.calls k _ _ b a _ ?_ ?_ o.1).mono ?_);exact cp_ (l.1);exact m.1;rintro e q ⟨rfl,hb⟩;refine⟨_,rfl,?_⟩;replace n:=st_ n hb;(try clear hb))|((with_reducible refine gate_callee (f:=95) rfl ?_);refine gl_ (some 6) Tryz.func95 #[.string a] ?_;(with_reducible refine(impl_Sum.calls k a g _ p.1).mono ?_);rintro e w' ⟨rfl,⟨s,rfl⟩⟩;refine⟨_,rfl,?_⟩))
 go_ret
 exact an_ (hs_ n.1)
def impl_PartOf.f (b:Int) (a:Int):Option (Int):=if a<1 then (some 0) else (if b<0 then (some 0) else (if a=0 then (none) else (some (Int.tmod b a))))
theorem impl_PartOf.calls (i:Int) (a:Int) (r:Int) (w:World) (h:impl_PartOf.f i a=some r) :
  Calls Tryz.prog 74 #[.int .i64 i,.int .i64 a] w fun e w'=>e=.returned (.int .i64 r)∧Drawn0 w w':=by
 unfold impl_PartOf.f at h
 have H:=h;clear h
 replace H:=ie_ H;rcases H with⟨b,H⟩|⟨b,H⟩
 ·
  have c:=decide_eq_true b
  clear b
  obtain rfl:=Option.some.inj H
  go_enter Tryz.func74,Tryz.ntmps74
  go_wp2
  go_ret
  exact⟨by first|rfl|(simp;done)|(simp[*];done),by repeat (first|exact Drawn0.refl _|apply Drawn0.step)⟩
 have c:decide (a<1)=false:=decide_eq_false b
 clear b
 replace H:=ie_ H;rcases H with⟨d,H⟩|⟨d,H⟩
 ·
  have g:=decide_eq_true d
  clear d
  obtain rfl:=Option.some.inj H
  go_enter Tryz.func74,Tryz.ntmps74
  go_wp2
  go_ret
  exact⟨by first|rfl|(simp;done)|(simp[*];done),by repeat (first|exact Drawn0.refl _|apply Drawn0.step)⟩
 have g:decide (i<0)=false:=decide_eq_false d
 clear d
 replace H:=io_ H;obtain⟨j,H⟩:=H
 have k:(a==0)=false:=beq_eq_false_iff_ne.mpr j
 have l:(a !=0)=true:=bne_iff_ne.mpr j
 obtain rfl:=Option.some.inj H
 go_enter Tryz.func74,Tryz.ntmps74
 go_wp2
 go_ret
 exact⟨by first|rfl|(simp;done)|(simp[*];done),by repeat (first|exact Drawn0.refl _|apply Drawn0.step)⟩
def impl_HomeOf.f (k:Nat) (c:List S26) (d:List S99):Option (Int):=(impl_Finger.f k d).bind fun a=>((impl_PartOf.f a (c.length:Int)).bind fun b=>(some b))
theorem impl_HomeOf.calls (k:Nat) (s:Option Addr) (t:Nat) (b:List S26) (m:Option Addr) (n:Nat) (c:List S99) (r:Int) (w:World) (d:Kd.C k26 w s b.length b) (g:b.length≤t) (i:Kd.C k99 w m c.length c) (j:c.length≤n) (h:impl_HomeOf.f k b c=some r) :
  Calls Tryz.prog 47 #[.slice s b.length t,.slice m c.length n] w fun e w'=>e=.returned (.int .i64 r)∧Below w.heap.size w w':=by
 have u:=M_ d
 have v:=M_ g
 clear d g
 have o:=M_ i
 have p:=M_ j
 clear i j
 have q:=M_ (Below.refl w.heap.size w)
 unfold impl_HomeOf.f at h
 have H:=h;clear h
 replace H:=bi_ H;obtain⟨a,x,H⟩:=H
 replace H:=bi_ H;obtain⟨l,y,H⟩:=H
 obtain rfl:=Option.some.inj H
 go_enter Tryz.func47,Tryz.ntmps47
 go_wp2_with (first|((with_reducible refine gate_callee (f:=55) rfl ?_);refine gl_ (some 6) Tryz.func55 #[.slice m c.length n] ?_;(with_reducible refine(impl_Finger.calls k _ _ c a _ ?_ ?_ x.1).mono ?_);exact cp_ (o.1);exact p.1;rintro e z ⟨rfl,hb⟩;refine⟨_,rfl,?_⟩;replace q:=st_ q hb;(try clear hb))|((with_reducible refine gate_callee (f:=74) rfl ?_);refine gl_ (some 9) Tryz.func74 #[.int .i64 a,.int .i64 (b.length:Int)] ?_;(with_reducible refine(impl_PartOf.calls a (b.length:Int) l _ y.1).mono ?_);rintro e w' ⟨rfl,⟨A,rfl⟩⟩;refine⟨_,rfl,?_⟩))
 go_ret
 exact an_ (hs_ q.1)
def impl_copySet.f (a:List S99):Option ((List S99)):=if ([]:List S99).length+a.length<4398046511104 then (some (([]:List S99)++a)) else (none)
theorem impl_copySet.calls (n:Option Addr) (o:Nat) (a:List S99) (r:List S99) (w:World) (g:Kd.C k99 w n a.length a) (i:a.length≤o) (h:impl_copySet.f a=some r) :
  Calls Tryz.prog 97 #[.slice n a.length o] w fun e w'=>∃v0_:Value,e=.returned (v0_)∧Kd.R k99 99 w' w.heap.size (fun _=>True) v0_ r∧Below w.heap.size w w':=by
 have m:=M_ g
 have q:=M_ i
 clear g i
 have l:=M_ (Below.refl w.heap.size w)
 unfold impl_copySet.f at h
 have H:=h;clear h
 replace H:=im_ H;obtain⟨j,H⟩:=H
 obtain⟨k,hy_⟩:∃y_:List S99,y_=(([]:List S99)++a):=⟨_,rfl⟩
 replace H:(some k)=some r:=hm_
 have c:=M_ hy_;clear hy_
 obtain rfl:=Option.some.inj H
 go_enter Tryz.func97,Tryz.ntmps97
 go_wp2_with (first|((with_reducible refine gate_builtin (b:=.append) (xs:=#[.const (.slice none 0 0),.tmp 3]) rfl ?_);at_builtin;refine Kd.R_append_rows k99 (w0:=w) w.heap.size rfl (.const (.slice none 0 0)) (.tmp 3) 27 99 (.agg #[(.string ⟨#[]⟩),(.string ⟨#[]⟩)]) 32 rfl Tryz.underlying27 info99 rfl (by decide) (by omega) (.slice none 0 0) ([]:List S99) a _ _ _ (fun _=>True) (fun _=>False) rfl rfl ?aO ?aR (fun _ _ h=>h) (fun _ h=>h.elim) ?aF ?aB ?aS ?aL ?_;(case aR=>repeat (first|exact m.1|(with_reducible first|refine ca_ ?_ _|refine cn_ ?_ _|refine cd_ ?_)));(case aB=>exact(hs_ l.1));(case aF=>exact(fun _ _=>trivial));(case aO=>exact((Kd.R_nil _ _ _ _ (fun _=>True))));(case aS=>exact(below_size (hs_ l.1)));(case aL=>have:=j.1;omega);intro p s ho hb hg hat;rw[←c.1] at ho;replace l:=M_ (hb);have d:=M_ (ho);clear ho hb hg hat))
 go_ret
 exact⟨_,rr_,rp_ d.1,hs_ l.1⟩
def impl_copyAlarm.f (a:List S99) (b:Int) (c:Int) (d:ByteArray):Option ((List S99)×Int×Int×ByteArray):=(impl_copySet.f a).bind fun e=>(some (e,b,c,d))
theorem impl_copyAlarm.calls (g:Option Addr) (i:Nat) (b:List S99) (j:Int) (k:Int) (l:ByteArray) (O:List S99) (P:Int) (Q:Int) (S:ByteArray) (w:World) (m:Kd.C k99 w g b.length b) (n:b.length≤i) (h:impl_copyAlarm.f b j k l=some (O,P,Q,S)) :
  Calls Tryz.prog 58 #[.agg #[.slice g b.length i,.int .i64 j,.int .i64 k,.string l]] w fun e w'=>∃v0_:Value,e=.returned (.agg #[v0_,.int .i64 P,.int .i64 Q,.string S])∧Kd.R k99 99 w' w.heap.size (fun _=>True) v0_ O∧Below w.heap.size w w':=by
 have hu29:=Tryz.underlying29
 have t:=M_ m
 have u:=M_ n
 clear m n
 have o:=M_ (Below.refl w.heap.size w)
 unfold impl_copyAlarm.f at h
 have H:=h;clear h
 replace H:=bi_ H;obtain⟨q,A2,H⟩:=H
 simp only[Option.some.injEq,Prod.mk.injEq] at H
 obtain⟨rfl,rfl,rfl,rfl⟩:=H
 go_enter Tryz.func58,Tryz.ntmps58
 go_wp2_with (first|((with_reducible refine gd_ 1 rfl ?_);refine bV_ 1 #[.slice g b.length i,.int .i64 j,.int .i64 k,.string l] 29 ?_;intro v hg w3 a hb;have B:=gq_ hg o;replace o:=st_ o hb;clear hb hg)|((with_reducible refine gd_ 2 rfl ?_);refine bV_ 2 #[.slice none 0 0,.int .i64 0,.int .i64 0,.string (⟨#[]⟩:ByteArray)] 29 ?_;intro r hg w4 c hb;have D:=gq_ hg o;replace o:=st_ o hb;obtain⟨d,x,a⟩:=nb_ a hg hb;clear hb hg;have T:=n2_ d;obtain⟨U,V,W,X,Y,Z,aa,ba⟩:=bc4_ a.1)|((with_reducible refine gate_callee (f:=97) rfl ?_);refine gl_ (some 5) Tryz.func97 #[.slice g b.length i] ?_;(with_reducible refine(impl_copySet.calls _ _ b q _ ?_ ?_ A2.1).mono ?_);exact cp_ ((Kd.C_below t.1 o.1));exact u.1;rintro e w7 ⟨ca,rfl,y,hb⟩;refine⟨_,rfl,?_⟩;have s:=rw_ y o;obtain⟨a,c,o⟩:=u3_ hb a c o;(try clear hb y);obtain⟨z,A,E⟩:=Kd.R_slice s.1;subst E;obtain⟨da,ea,fa,ga,ha,ia,ja,ka⟩:=bc4_ a.1;obtain⟨F,G,I,J,K,L,M,N⟩:=bc4_ c.1))
 refine bodyPost_ret (results_cell_row rfl _ _ r 29 #[.slice z q.length A,.int .i64 j,.int .i64 k,.string l] (0,0) _ rfl (bp_ c.1) Tryz.underlying29 rfl (by kernel_rfl)) rfl ?_
 exact⟨_,rr_,Kd.R_mono (rf_ r (Kd.R_far (p:=⟨v,0,none⟩) (Kd.R_types (Kd.R_types s.1 a.1 (by decide)) c.1 (by decide)) (fun _ hk=>hk.1.2) (.slice z q.length A)) (fun _ hk=>hk.2)) (fun _ hk=>trivial),hs_ o.1⟩
def impl_copyAlarms.l0:Nat→List S29→List S29→Int→Int→Option ((List S29))
 | 0,_,_,_,_=>none
 | k+1,d,c,e,b=>if b<e then (if 0≤b then (if b<(c.length:Int) then ((impl_copyAlarm.f ((rd_T29 c b).f0) ((rd_T29 c b).f1) ((rd_T29 c b).f2) ((rd_T29 c b).f3)).bind fun a=>(if d.length<2513169434916 then (impl_copyAlarms.l0 k (d++[(⟨a.1,a.2.1,a.2.2.1,a.2.2.2⟩:S29)]) c e (wrap64 (b+1))) else (none))) else (none)) else (none)) else (some d)
def impl_copyAlarms.f (k:Nat) (l0:List S29):Option ((List S29)):=impl_copyAlarms.l0 k ([]:List S29) l0 (l0.length:Int) 0
theorem impl_copyAlarms.calls (k:Nat) (X:Option Addr) (Y:Nat) (l0:List S29) (r:List S29) (w:World) (F:Kd.C k29 w X l0.length l0) (G:l0.length≤Y) (h:impl_copyAlarms.f k l0=some r) :
  Calls Tryz.prog 81 #[.slice X l0.length Y] w fun e w'=>∃v0_:Value,e=.returned (v0_)∧Kd.S k29 29 w' w.heap.size (fun _=>True) v0_ r∧Below w.heap.size w w':=by
 have hu29:=Tryz.underlying29
 have T:=M_ F
 have oa:=M_ G
 clear F G
 have u:=M_ (Below.refl w.heap.size w)
 unfold impl_copyAlarms.f at h
 have H:=h;clear h
 have H':=M_ H
 clear H
 go_enter Tryz.func81,Tryz.ntmps81
 go_wp2
 go_loopg [3,8] k (fun kq v3 v8 w'=>∃(p:List S29) (a:Int),v8=.int .i64 a∧Aside0 (impl_copyAlarms.l0 kq p l0 (l0.length:Int) a=some r)∧Aside0 (kq≤k)∧Aside0 (Kd.S k29 29 w' w.heap.size (fun _=>True) v3 p)∧Aside0 (Below w.heap.size w w'))
 case atStart=>exact⟨(([]:List S29)),(0),rs_,H',⟨Nat.le_refl _⟩,⟨ni_⟩,⟨hs_ u.1⟩⟩
 case round=>
  clear H'
  obtain⟨p,a,rfl,U,I,d,u⟩:=hrel
  cases gk with
  | zero=>exact absurd U.1 (by simp[impl_copyAlarms.l0])
  | succ Z=>
   have H:=U.1
   clear U
   simp only[impl_copyAlarms.l0] at H
   replace H:=ie_ H;rcases H with⟨J,H⟩|⟨J,H⟩
   ·
    have K:=decide_eq_true J
    clear J
    replace H:=i2_ H;obtain⟨aa,ba,H⟩:=H
    replace H:=bi_ H;obtain⟨⟨j,q,s,t⟩,A5,H⟩:=H;(try dsimp only at H)
    replace H:=im_ H;obtain⟨L,H⟩:=H
    obtain⟨y,hy_⟩:∃y_:List S29,y_=(p++[(⟨j,q,s,t⟩:S29)]):=⟨_,rfl⟩
    replace H:(impl_copyAlarms.l0 Z y l0 (l0.length:Int) (wrap64 (a+1)))=some r:=hm_
    have B:=M_ hy_;clear hy_
    have H':=M_ H
    clear H
    obtain⟨V,l,m,M,N,O,P,Q,v,x,ca,da⟩:=au_T29 T.1 u a
    cases M
    go_wp2_with (first|((with_reducible refine gd_ 5 rfl ?_);refine bV_ 5 #[.slice none 0 0,.int .i64 0,.int .i64 0,.string (⟨#[]⟩:ByteArray)] 29 ?_;intro i hg w7 c hb;replace d:=se_ d hg hb;have W:=gq_ hg u;replace u:=st_ u hb;clear hb hg;obtain⟨ea,fa,ga,ha,ia,ja,ka,la⟩:=bc4_ c.1)|((with_reducible refine gate_callee (f:=58) rfl ?_);refine gl_ (some 14) Tryz.func58 #[.agg #[.slice l ((rd_T29 l0 a).f0).length m,.int .i64 ((rd_T29 l0 a).f1),.int .i64 ((rd_T29 l0 a).f2),.string ((rd_T29 l0 a).f3)]] ?_;(with_reducible refine(impl_copyAlarm.calls _ _ ((rd_T29 l0 a).f0) ((rd_T29 l0 a).f1) ((rd_T29 l0 a).f2) ((rd_T29 l0 a).f3) j q s t _ ?_ ?_ A5.1).mono ?_);exact Kd.C_below x.1 (hs_ u.1);exact v.1;rintro e w9 ⟨ma,rfl,D,hb⟩;refine⟨_,rfl,?_⟩;replace d:=M_ (Kd.S_elder' (sf_ i d.1 (fun _ hk=>hk.2)) (Kd.R_base D) hb);have n:=rw_ D u;replace c:=by_ c #[.slice l ((rd_T29 l0 a).f0).length m,.int .i64 ((rd_T29 l0 a).f1),.int .i64 ((rd_T29 l0 a).f2),.string ((rd_T29 l0 a).f3)] hb;replace u:=st_ u hb;(try clear hb D);obtain⟨z,A,R⟩:=Kd.R_slice n.1;subst R)|((with_reducible refine gate_builtin (b:=.append) (xs:=#[.tmp 12,.tmp 15]) rfl ?_);at_builtin;refine Kd.S_append k29 (w0:=w) w.heap.size rfl (.tmp 12) (.tmp 15) 40 29 (.agg #[(.slice none 0 0),(.int .i64 0),(.int .i64 0),(.string ⟨#[]⟩)]) 56 rfl Tryz.underlying40 info29 rfl (by decide) (by omega) u3 p (⟨j,q,s,t⟩:S29) [.slice z j.length A,.int .i64 q,.int .i64 s,.string t] (fun k_=>k_≠i) (fun k_=>some k_=(.slice z j.length A:Value).ownBlock) rfl rfl ?aP (fun k_ hk_=>((Kd.R_mono (ok':=fun k_=>((fun k_=>k_≠i)) k_∧some k_≠(u3:Value).ownBlock) (Kd.R_types (Kd.R_apart' (n.1) (Kd.S_typed d.1) (by decide)) c.1 (by decide)) (fun k_ hk=>⟨hk.2,hk.1.2⟩))).1 k_ hk_.symm) ?aF ?aO ?aB ?aS ?aL ?_;(case aP=>exact k29_mkM _ _ _ (⟨j,q,s,t⟩:S29) (Kd.R_mono (Kd.R_tight rfl (Kd.R_mono (ok':=fun k_=>((fun k_=>k_≠i)) k_∧some k_≠(u3:Value).ownBlock) (Kd.R_types (Kd.R_apart' (n.1) (Kd.S_typed d.1) (by decide)) c.1 (by decide)) (fun k_ hk=>⟨hk.2,hk.1.2⟩))) (fun _ h_=>h_)));(case aB=>exact(hs_ u.1));(case aF=>exact(fun k_ hk=>Kd.freshB (g:=i) (o:=.cells #[.slice l ((rd_T29 l0 a).f0).length m,.int .i64 ((rd_T29 l0 a).f1),.int .i64 ((rd_T29 l0 a).f2),.string ((rd_T29 l0 a).f3)] 29 (0,0)) (pb_ c.1) k_ hk));(case aO=>exact(Kd.S_mono (sp_ d.1) (fun k_ hk=>⟨hk.1.2,fun e_=>hk.2 e_⟩)));(case aS=>exact(below_size (hs_ u.1)));(case aL=>have:=L.1;omega);intro na sa ho hb hg hat;rw[←B.1] at ho;replace c:=M_ (blk_grown (bq_ c.1) hg (Kd.S_away d.1 (fun _ hk=>hk.1.2)));replace u:=M_ (hb);have E:=M_ (ho);clear d n;clear ho hb hg hat))
    go_roundg Z
    case measure=>have:=I.1;omega
    case rel=>exact⟨(y),(wrap64 (a+1)),rs_,H',⟨by have:=I.1;omega⟩,⟨Kd.S_mono (sp_ E.1) (fun _ hk=>trivial)⟩,⟨hs_ u.1⟩⟩
   have K:decide (a<(l0.length:Int))=false:=decide_eq_false J
   clear J
   obtain rfl:=Option.some.inj H
   go_wp2
   go_ret
   exact⟨_,rr_,sp_ d.1,hs_ u.1⟩
def impl_copyChain.f (k:Nat) (a:Int) (b:List S29):Option (Int×(List S29)):=(impl_copyAlarms.f k b).bind fun c=>(some (a,c))
theorem impl_copyChain.calls (k:Nat) (l:Int) (m:Option Addr) (o:Nat) (d:List S29) (P:Int) (Q:List S29) (w:World) (r:Kd.C k29 w m d.length d) (s:d.length≤o) (h:impl_copyChain.f k l d=some (P,Q)) :
  Calls Tryz.prog 94 #[.agg #[.int .i64 l,.slice m d.length o]] w fun e w'=>∃v1_:Value,e=.returned (.agg #[.int .i64 P,v1_])∧Kd.S k29 29 w' w.heap.size (fun _=>True) v1_ Q∧Below w.heap.size w w':=by
 have hu80:=Tryz.underlying80
 have y:=M_ r
 have z:=M_ s
 clear r s
 have q:=M_ (Below.refl w.heap.size w)
 unfold impl_copyChain.f at h
 have H:=h;clear h
 replace H:=bi_ H;obtain⟨x,W,H⟩:=H
 simp only[Option.some.injEq,Prod.mk.injEq] at H
 obtain⟨rfl,rfl⟩:=H
 go_enter Tryz.func94,Tryz.ntmps94
 try go_wp2_with (first|((with_reducible refine gd_ 1 rfl ?_);refine bV_ 1 #[.int .i64 l,.slice m d.length o] 80 ?_;intro t hg w3 b hb;have J:=gq_ hg q;replace q:=st_ q hb;clear hb hg)|((with_reducible refine gd_ 2 rfl ?_);refine bV_ 2 #[.int .i64 0,.slice none 0 0] 80 ?_;intro p hg X a hb;have L:=gq_ hg q;replace q:=st_ q hb;obtain⟨g,j,b⟩:=nb_ b hg hb;clear hb hg))
 obtain⟨b,a,q⟩:=y3_ b a q
 refine start_ (n:=7) (S:=fun w'=>c_ w' t 0 (.int .i64 l)∧c_ w' t 1 (.slice m d.length o)) (ds:=[]) (b_ 0 7) (by kernel_rfl) rfl rfl (e2_ b.1) (fun c=>?_)
 generalize X.drew=w5 at b a q c ⊢
 refine pure_ (i:=0) (N:=some 3) (v:=?_) (a':=?_) (b_ 1 6) rfl rfl (by kernel_rfl) (fun _ _ _ h=>h) (Or.inl ⟨by rfl,?_⟩) ?_ ?_
 rotate_left
 ·
  intro w'
  go_simp
  with_reducible rfl
 rotate_left
 ·
  simp only[fr_]
  rfl
 refine pure_ (i:=2) (N:=some 5) (v:=?_) (a':=?_) #[t_,f_,t_,f_,f_,f_,f_] rfl rfl (by kernel_rfl) (fun _ _ _ h=>h) (Or.inl ⟨by rfl,?_⟩) ?_ ?_
 rotate_left
 ·
  intro w'
  go_simp
  with_reducible rfl
 rotate_left
 ·
  simp only[fr_]
  rfl
 refine take_ (i:=1) (N:=some 4) (v:=?_) (a':=?_) (b_ 3 4) rfl rfl (by kernel_rfl) (fun _ _ _ h=>h) (Or.inl ⟨by rfl,?_⟩) c ?_ ?_
 rotate_left
 ·
  rintro w' ⟨s0,s1⟩
  go_simp
  with_reducible rfl
 rotate_left
 ·
  simp only[fr_]
  rfl
 refine take_ (i:=3) (N:=some 6) (v:=?_) (a':=?_) (b_ 4 3) rfl rfl (by kernel_rfl) (fun _ _ _ h=>h) (Or.inl ⟨by rfl,?_⟩) c ?_ ?_
 rotate_left
 ·
  rintro w' ⟨s0,s1⟩
  go_simp
  with_reducible rfl
 rotate_left
 ·
  simp only[fr_]
  rfl
 refine one_ (i:=4) (N:=some 7) (b_ 5 2) rfl rfl (by kernel_rfl) (by decide) (fun K D=>?_)
 refine gs_ Tryz.func81 #[.slice m d.length o] ?_
 with_reducible refine(impl_copyAlarms.calls k _ _ d x _ ?_ ?_ W.1).mono ?_
 exact cp_ ((Kd.C_below y.1 q.1))
 exact z.1
 rintro e R ⟨T,rfl,A,hb⟩
 refine⟨_,rfl,?_⟩
 have u:=sw_ A q
 obtain⟨b,a,q⟩:=u3_ hb b a q
 (try clear hb A)
 obtain⟨M,O,B⟩:=Kd.S_slice u.1
 (first|subst B|(obtain⟨rfl,rfl⟩:=si_ B))
 refine ho_ D (e2_ b.1) (fun c=>?_)
 refine pure_ (i:=5) (N:=some 8) (v:=?_) (a':=?_) (b_ 6 1) rfl rfl (by kernel_rfl) (fun _ _ _ h=>h) (Or.inl ⟨by rfl,?_⟩) ?_ ?_
 rotate_left
 ·
  intro w'
  go_simp
  with_reducible rfl
 rotate_left
 ·
  simp only[fr_]
  rfl
 refine one_ (i:=6) (N:=none) (b_ 7 0) rfl rfl (by kernel_rfl) (by decide) (fun K D=>?_)
 have Y:R.cell? ⟨p,0,none⟩=some (.int .i64 0):=bx_ a.1 0
 have U:=blk_frozen a.1 0
 have E:=g.1
 have F:=j.1
 have Z:R.cell? ⟨p,1,none⟩=some (.slice none 0 0):=bx_ a.1 1
 have V:=blk_frozen a.1 1
 have G:=g.1
 have I:=j.1
 refine skip_ (w1:=?_) (by rfl) rfl ?_ ?_
 rotate_left
 ·
  go_simp
  rfl
 refine D.out _ _ ⟨(cg_ (c.1)),(cg_ (c.2))⟩ (fun c=>?_)
 clear D K
 refine done_ (by kernel_rfl) ?_
 try go_wp2
 refine bodyPost_ret (results_cell_row rfl _ _ p 80 #[.int .i64 l,.slice M x.length O] (0,0) _ rfl (bp_ a.1) Tryz.underlying80 rfl (by kernel_rfl)) rfl ?_
 exact⟨_,rr_,Kd.S_mono (sy_ u.1 a.1) (fun _ hk=>trivial),hs_ q.1⟩
def impl_copyPart.l0:Nat→List S80→Int→Int→Int→Int→List S80→Option (Int×Int×(List S80))
 | 0,_,_,_,_,_,_=>none
 | k+1,g,h,d,b,c,a=>if d<h then (if 0≤d then (if d<(g.length:Int) then ((impl_copyChain.f k ((rd_T80 g d).f0) ((rd_T80 g d).f1)).bind fun e=>(if a.length<4398046511104 then (impl_copyPart.l0 k g h (wrap64 (d+1)) b c (a++[(⟨e.1,e.2⟩:S80)])) else (none))) else (none)) else (none)) else (some (b,c,a))
def impl_copyPart.f (k:Nat) (b:Int) (c:Int) (a:List S80):Option (Int×Int×(List S80)):=impl_copyPart.l0 k a (a.length:Int) 0 b c ([]:List S80)
def impl_copyPart.T5:Bool×List (List Nat×List Nat):=(true,[([],[]),([0],[0]),([],[]),([2],[2]),([3],[3]),([1,4,3],[1,4]),([0,1,2,3,4,5],[]),([6,5,5,0,1,2,3,4,5],[5,6])])
def impl_copyPart.B5:List Nat:=[0,1,0,4,12,31,63,127]
theorem impl_copyPart.tab5:rtab .any (opsOf Tryz.f54 5)=impl_copyPart.T5:=by kernel_rfl
theorem impl_copyPart.bits5:waitsOk impl_copyPart.T5.2 impl_copyPart.B5=true:=by kernel_rfl
theorem impl_copyPart.calls (k:Nat) (t:Int) (u:Int) (T:Option Addr) (U:Nat) (j:List S80) (r1:Int) (r2:Int) (r3:List S80) (w:World) (V:Kd.C k80 w T j.length j) (W:j.length≤U) (h:impl_copyPart.f k t u j=some (r1,r2,r3)) :
  Calls Tryz.prog 54 #[.agg #[.int .i64 t,.int .i64 u,.slice T j.length U]] w fun e w'=>∃v2_:Value,e=.returned (.agg #[.int .i64 r1,.int .i64 r2,v2_])∧Kd.S k80 80 w' w.heap.size (fun _=>True) v2_ r3∧Below w.heap.size w w':=by
 have hu26:=Tryz.underlying26
 have hu80:=Tryz.underlying80
 have ia:=M_ V
 have Na:=M_ W
 clear V W
 have x:=M_ (Below.refl w.heap.size w)
 unfold impl_copyPart.f at h
 have H:=h;clear h
 have H':=M_ H
 clear H
 go_enter Tryz.func54,Tryz.ntmps54
 go_wp2_with (first|((with_reducible refine gd_ 1 rfl ?_);refine bV_ 1 #[.int .i64 t,.int .i64 u,.slice T j.length U] 26 ?_;intro ja hg w2 c hb;have Oa:=gq_ hg x;replace x:=st_ x hb;clear hb hg)|((with_reducible refine gd_ 2 rfl ?_);refine bV_ 2 #[.int .i64 0,.int .i64 0,.slice none 0 0] 26 ?_;intro X hg w3 d hb;have Pa:=gq_ hg x;replace x:=st_ x hb;obtain⟨J,L,c⟩:=nb_ c hg hb;clear hb hg;have Hb:=n2_ J;obtain⟨Ib,Jb,Kb,Lb,Mb,Nb⟩:=bc3_ c.1)|((with_reducible refine gd_ 3 rfl ?_);refine bV_ 3 #[.int .i64 0,.int .i64 0,.slice none 0 0] 26 ?_;intro A hg w6 b hb;have Qa:=gq_ hg x;replace x:=st_ x hb;obtain⟨M,r,c⟩:=nb_ c hg hb;obtain⟨N,s,d⟩:=nb_ d hg hb;clear hb hg;have Ob:=n2_ r;have Pb:=n2_ s;obtain⟨Qb,Rb,Sb,Tb,Ub,Vb⟩:=bc3_ b.1;obtain⟨Ra,Sa,Ta,Ua,Va,Wa⟩:=bc3_ c.1))
 go_loopg [14] k (fun kq Xa w'=>∃(i:Int) (m:List S80) (p:Value),Xa=.int .i64 i∧Aside0 (impl_copyPart.l0 kq j (j.length:Int) i t u m=some (r1,r2,r3))∧Aside0 (kq≤k)∧Aside0 (Kd.S k80 80 w' w.heap.size (fun _=>True) p m)∧Aside0 (w'.heap[ja]?=some (.cells #[.int .i64 t,.int .i64 u,(.slice T j.length U)] 26 (0,0)))∧Aside0 (w'.heap[X]?=some (.cells #[.int .i64 0,.int .i64 0,(.slice none 0 0)] 26 (0,0)))∧Aside0 (w'.heap[A]?=some (.cells #[.int .i64 t,.int .i64 u,p] 26 (0,0)))∧Aside0 (Below w.heap.size w w'))
 case atStart=>exact⟨(0),(([]:List S80)),(.slice none 0 0),rs_,H',⟨Nat.le_refl _⟩,⟨ni_⟩,⟨bq_ c.1⟩,⟨bq_ d.1⟩,⟨bp_ b.1⟩,⟨hs_ x.1⟩⟩
 case round=>
  clear H'
  obtain⟨i,m,p,rfl,HA,ra,a,c,d,b,x⟩:=hrel
  cases gk with
  | zero=>exact absurd HA.1 (by simp[impl_copyPart.l0])
  | succ k1=>
   have H:=HA.1
   clear HA
   simp only[impl_copyPart.l0] at H
   replace H:=ie_ H;rcases H with⟨Y,H⟩|⟨Y,H⟩
   ·
    have ka:=decide_eq_true Y
    clear Y
    replace H:=i2_ H;obtain⟨ab,bb,H⟩:=H
    replace H:=bi_ H;obtain⟨⟨F,G⟩,cb,H⟩:=H;(try dsimp only at H)
    replace H:=im_ H;obtain⟨la,H⟩:=H
    obtain⟨Z,hy_⟩:∃y_:List S80,y_=(m++[(⟨F,G⟩:S80)]):=⟨_,rfl⟩
    replace H:(impl_copyPart.l0 k1 j (j.length:Int) (wrap64 (i+1)) t u Z)=some (r1,r2,r3):=hm_
    have ma:=M_ hy_;clear hy_
    have H':=M_ H
    clear H
    obtain⟨db,y,z,sa,ta,ua,aa,ba,Wb,Xb⟩:=au_T80 ia.1 x i
    cases sa
    try go_wp2_with (first|((with_reducible refine gd_ 5 rfl ?_);refine bV_ 5 #[.int .i64 0,.slice none 0 0] 80 ?_;intro q hg eb l hb;replace a:=se_ a hg hb;have fb:=gq_ hg x;replace x:=st_ x hb;obtain⟨na,O,c⟩:=nb_ c hg hb;obtain⟨oa,P,d⟩:=nb_ d hg hb;obtain⟨Q,B,b⟩:=nb_ b hg hb;clear hb hg;have gb:=n2_ O;have ib:=n2_ P;have jb:=n2_ B;obtain⟨kb,lb,mb,nb⟩:=bc2_ l.1))
    generalize hw_:((eb.setCell ⟨q,0,none⟩ (.int .i64 ((rd_T80 j i).f0))).setCell ⟨q,1,none⟩ (.slice y ((rd_T80 j i).f1).length z))=ob
    have va:=ws_ hw_ (Kd.S_mono (ok':=(fun k_=>k_≠q)) (sf_ q a.1 (fun _ hk=>hk.2)) (fun _ hk=>hk.2))
    replace c:=wq_ hw_ c
    replace d:=wq_ hw_ d
    replace b:=wq_ hw_ b
    replace l:=wp_ hw_ #[.int .i64 ((rd_T80 j i).f0),.slice y ((rd_T80 j i).f1).length z] l
    replace x:=wb_ hw_ x
    clear hw_
    (try clear a)
    have a:=va
    clear va
    obtain⟨a,c,d,b,l,x⟩:=y6_ a c d b l x
    refine start_ (n:=8) (S:=fun w'=>c_ w' A 0 (.int .i64 t)∧c_ w' A 1 (.int .i64 u)∧c_ w' A 2 (p)∧c_ w' q 0 (.int .i64 ((rd_T80 j i).f0))∧c_ w' q 1 (.slice y ((rd_T80 j i).f1).length z)) (ds:=[7]) (b_ 0 8) (by kernel_rfl) rfl rfl (f3_ b.1 (e2_ l.1)) (fun D=>?_);refine with_tabW impl_copyPart.tab5 impl_copyPart.bits5 (fun I pb=>?_)
    generalize ob.drew=bc at a c d b l x D ⊢
    refine p_ I ?_
    iterate 2 refine t0_ I pb D ?_
    refine o1_ 3 (b_ 4 4) I (fun K hK=>?_)
    refine gs_ Tryz.func94 #[.agg #[.int .i64 ((rd_T80 j i).f0),.slice y ((rd_T80 j i).f1).length z]] ?_
    with_reducible refine(impl_copyChain.calls k1 ((rd_T80 j i).f0) _ _ ((rd_T80 j i).f1) F G _ ?_ ?_ cb.1).mono ?_
    exact cp_ ((Kd.C_below ba.1 x.1))
    exact aa.1
    rintro e cc ⟨Yb,rfl,pa,hb⟩
    refine⟨_,rfl,?_⟩
    obtain⟨Ma,ca⟩:=Kd.S_name pa
    replace a:=su_ ca (sp_ a.1) hb
    have R:=sg_ ca pa x
    obtain⟨c,d,b,l,x⟩:=u5_ hb c d b l x
    (try clear hb pa)
    obtain⟨wa,xa,ga⟩:=Kd.S_slice R.1
    (first|subst ga|(obtain⟨rfl,rfl⟩:=si_ ga))
    obtain⟨qa,ea,E⟩:=Kd.S_fp (Kd.S_types (Kd.S_apart' (R.1) (Kd.S_typed a.1) (by decide)) l.1 (by decide))
    refine ho_ hK (f3_ b.1 (e2_ l.1)) (fun D=>?_)
    refine o1_ 4 (b_ 5 3) I (fun K hK=>?_)
    refine value_ (w1:=?_) (v:=?_) (by rfl) rfl ?_ ?_
    rotate_left 2
    ·
     go_simp
     constructor
     ·
      rfl
     rfl
    refine ho_ hK ⟨(blk_cell (blk_alloc b.1 _) 0).trans rfl,(blk_cell (blk_alloc b.1 _) 1).trans rfl,(blk_cell (blk_alloc b.1 _) 2).trans rfl,(blk_cell (blk_alloc l.1 _) 0).trans rfl,(blk_cell (blk_alloc l.1 _) 1).trans rfl⟩ (fun D=>?_)
    refine o1_ 5 (b_ 6 2) I (fun K hK=>?_)
    refine Kd.S_append_step k80 (w0:=w) w.heap.size (by rfl) (.tmp 19) (.tmp 22) 24 80 (.agg #[(.int .i64 0),(.slice none 0 0)]) 32 rfl Tryz.underlying24 info80 rfl (by decide) (by omega) p m (⟨F,G⟩:S80) [.int .i64 F,.slice wa G.length xa] (fun k_=>k_≠q) (fun k_=>qa k_) rfl rfl ?aP (fun k_ hk_=>⟨(E k_ hk_).1.2,(E k_ hk_).1.1.2⟩) ?aF ?aO ?aB ?aS ?aL ?_
    (case aP=>exact k80_mkM _ _ _ (⟨F,G⟩:S80) (Kd.S_mono ea (fun _ h_=>h_)))
    (case aB=>exact(hs_ x.1))
    (case aF=>exact(fun k_ hk=>Kd.freshB (g:=q) (o:=.cells #[.int .i64 ((rd_T80 j i).f0),.slice y ((rd_T80 j i).f1).length z] 80 (0,0)) (pb_ l.1) k_ hk))
    (case aO=>exact(Kd.S_mono (sp_ a.1) (fun k_ hk=>⟨hk.1,fun e_=>(fun ez_=>Nat.lt_irrefl _ (Nat.lt_of_lt_of_le hk.2 (E _ ez_).1.1.1.2)) e_⟩)))
    (case aS=>exact(below_size (hs_ x.1)))
    (case aL=>have:=la.1;omega)
    intro Zb qb ho hb hg hat
    rw[←ma.1] at ho
    replace c:=bg_ c hg a
    replace d:=bg_ d hg a
    replace b:=bg_ b hg a
    replace l:=M_ (blk_grown (bq_ l.1) hg (Kd.S_away a.1 (fun _ hk=>hk.1)))
    replace x:=M_ (hb)
    have da:=M_ (ho)
    clear a R
    clear ho hb hg hat
    obtain⟨ya,za,ha⟩:=Kd.S_slice da.1
    (first|subst ha|(obtain⟨rfl,rfl⟩:=si_ ha))
    refine ho_ hK (f3_ b.1 (e2_ l.1)) (fun D=>?_)
    refine p_ I ?_
    refine l1_ 7 (b_ 8 0) I (fun K hK=>?_)
    have ac:qb.cell? ⟨A,2,none⟩=some (p):=bx_ b.1 2
    have rb:=blk_frozen b.1 2
    have Aa:=M.1
    have Ba:=N.1
    have Ca:=B.1
    have Da:=r.1
    have Ea:=s.1
    have Fa:=Q.1
    refine skip_ (w1:=?_) (by rfl) rfl ?_ ?_
    rotate_left
    ·
     go_simp
     rfl
    refine hK.out _ _ ?_
    clear hK K
    refine done_ (done_of I.1 (by kernel_rfl)) ?_
    try go_wp2
    go_roundg k1
    case measure=>have:=ra.1;omega
    case rel=>exact⟨(wrap64 (i+1)),(Z),(.slice ya Z.length za),rs_,H',⟨by have:=ra.1;omega⟩,⟨Kd.S_mono (sy_ da.1 b.1) (fun _ hk=>trivial)⟩,⟨bq_ c.1⟩,⟨bq_ d.1⟩,⟨bp_ b.1⟩,⟨hs_ x.1⟩⟩
   have ka:decide (i<(j.length:Int))=false:=decide_eq_false Y
   clear Y
   simp only[Option.some.injEq,Prod.mk.injEq] at H
   obtain⟨rfl,rfl,rfl⟩:=H
   have sb:=n2_ r
   have tb:=n2_ s
   obtain⟨ub,vb,wb,xb,yb,zb⟩:=bc3_ b.1
   have Ab:=n2_ L
   obtain⟨Bb,Cb,Db,Eb,Fb,Gb⟩:=bc3_ d.1
   obtain⟨Ga,Ha,Ia⟩:=Kd.S_slice a.1
   subst Ia
   go_wp2
   refine bodyPost_ret (results_cell_row rfl _ _ X 26 #[.int .i64 t,.int .i64 u,.slice Ga m.length Ha] (0,0) _ rfl (bp_ d.1) Tryz.underlying26 rfl (by kernel_rfl)) rfl ?_
   exact⟨_,rr_,Kd.S_mono (sy_ a.1 d.1) (fun _ hk=>trivial),hs_ x.1⟩
def impl_chainOf.l0:Nat→Int→List S80→Int→Int→Option (Int)
 | 0,_,_,_,_=>none
 | k+1,c,b,d,a=>if a<d then (if 0≤a then (if a<(b.length:Int) then (if ((rd_T80 b a).f0)=c then (some a) else (impl_chainOf.l0 k c b d (wrap64 (a+1)))) else (none)) else (none)) else (some (-1))
def impl_chainOf.f (k:Nat) (b:Int) (c:Int) (a:List S80) (d:Int):Option (Int):=impl_chainOf.l0 k d a (a.length:Int) 0
theorem impl_chainOf.calls (k:Nat) (g:Int) (i:Int) (j:Option Addr) (l:Nat) (a:List S80) (p:Int) (r:Int) (w:World) (n:Kd.C k80 w j a.length a) (o:a.length≤l) (h:impl_chainOf.f k g i a p=some r) :
  Calls Tryz.prog 56 #[.agg #[.int .i64 g,.int .i64 i,.slice j a.length l],.int .i64 p] w fun e w'=>e=.returned (.int .i64 r)∧Below w.heap.size w w':=by
 have hu26:=Tryz.underlying26
 have hu80:=Tryz.underlying80
 have q:=M_ n
 have L:=M_ o
 clear n o
 have m:=M_ (Below.refl w.heap.size w)
 unfold impl_chainOf.f at h
 have H:=h;clear h
 have H':=M_ H
 clear H
 go_enter Tryz.func56,Tryz.ntmps56
 go_wp2_with (first|((with_reducible refine gd_ 2 rfl ?_);refine bV_ 2 #[.int .i64 g,.int .i64 i,.slice j a.length l] 26 ?_;intro s hg w3 c hb;have M:=gq_ hg m;replace m:=st_ m hb;clear hb hg;obtain⟨X,Y,Z,aa,ba,ca⟩:=bc3_ c.1))
 go_loopg [10] k (fun kq N w'=>∃(b:Int),N=.int .i64 b∧Aside0 (impl_chainOf.l0 kq p a (a.length:Int) b=some r)∧Aside0 (kq≤k)∧Aside0 (w'.heap[s]?=some (.cells #[.int .i64 g,.int .i64 i,(.slice j a.length l)] 26 (0,0)))∧Aside0 (Below w.heap.size w w'))
 case atStart=>exact⟨(0),rs_,H',⟨Nat.le_refl _⟩,⟨bq_ c.1⟩,⟨hs_ m.1⟩⟩
 case round=>
  clear H'
  obtain⟨b,rfl,O,x,c,m⟩:=hrel
  cases gk with
  | zero=>exact absurd O.1 (by simp[impl_chainOf.l0])
  | succ k1=>
   have H:=O.1
   clear O
   simp only[impl_chainOf.l0] at H
   replace H:=ie_ H;rcases H with⟨y,H⟩|⟨y,H⟩
   ·
    have z:=decide_eq_true y
    clear y
    replace H:=i2_ H;obtain⟨da,ea,H⟩:=H
    have AHz_:=M_ H
    clear H
    obtain⟨P,J,K,A,B,D,E,F,fa,ga⟩:=au_T80 q.1 m b
    cases A
    go_wp2_with (first|(((with_reducible refine gd_ 6 rfl ?_);refine bV_ 6 #[.int .i64 0,.slice none 0 0] 80 ?_;intro Q hg w9 t hb;have R:=gq_ hg m;replace m:=st_ m hb;obtain⟨u,d,c⟩:=nb_ c hg hb;clear hb hg;have S:=n2_ d;obtain⟨T,U,V,W⟩:=bc2_ t.1);refine Aside0.out ?_))
    have H:=AHz_.1
    clear AHz_
    replace H:=ie_ H;rcases H with⟨v,H⟩|⟨v,H⟩
    ·
     have G:(((rd_T80 a b).f0)==p)=true:=beq_iff_eq.mpr v
     have I:(((rd_T80 a b).f0) !=p)=false:=bne_eq_false_iff_eq.mpr v
     clear v
     obtain rfl:=Option.some.inj H
     refine⟨?_⟩
     go_wp2
     go_ret
     exact an_ (hs_ m.1)
    have G:(((rd_T80 a b).f0)==p)=false:=beq_eq_false_iff_ne.mpr v
    have I:(((rd_T80 a b).f0) !=p)=true:=bne_iff_ne.mpr v
    have H':=M_ H
    clear H
    refine⟨?_⟩
    go_wp2
    go_roundg k1
    case measure=>have:=x.1;omega
    case rel=>exact⟨(wrap64 (b+1)),rs_,H',⟨by have:=x.1;omega⟩,⟨bq_ c.1⟩,⟨hs_ m.1⟩⟩
   have z:decide (b<(a.length:Int))=false:=decide_eq_false y
   clear y
   obtain rfl:=Option.some.inj H
   go_wp2
   go_ret
   exact an_ (hs_ m.1)
def impl_Touch.f (e:List S99) (a:Int) (b:Int) (f:ByteArray) (g:List S99) (c:Int) (d:Int) (h:ByteArray):Option (Bool):=if a≤d then (some (decide (c≤b))) else (some false)
theorem impl_Touch.calls (j:Option Addr) (k:Nat) (a:List S99) (g:Int) (l:Int) (m:ByteArray) (n:Option Addr) (o:Nat) (b:List S99) (p:Int) (i:Int) (q:ByteArray) (r:Bool) (w:World) (s:Kd.C k99 w j a.length a) (t:a.length≤k) (u:Kd.C k99 w n b.length b) (v:b.length≤o) (h:impl_Touch.f a g l m b p i q=some r) :
  Calls Tryz.prog 80 #[.agg #[.slice j a.length k,.int .i64 g,.int .i64 l,.string m],.agg #[.slice n b.length o,.int .i64 p,.int .i64 i,.string q]] w fun e w'=>e=.returned (.bool r)∧Below w.heap.size w w':=by
 have hu29:=Tryz.underlying29
 have D:=M_ s
 have E:=M_ t
 clear s t
 have F:=M_ u
 have G:=M_ v
 clear u v
 have x:=M_ (Below.refl w.heap.size w)
 unfold impl_Touch.f at h
 have H:=h;clear h
 have AHz_:=M_ H
 clear H
 go_enter Tryz.func80,Tryz.ntmps80
 go_wp2_with (first|((with_reducible refine gd_ 2 rfl ?_);refine bV_ 2 #[.slice j a.length k,.int .i64 g,.int .i64 l,.string m] 29 ?_;intro I hg w4 c hb;have J:=gq_ hg x;replace x:=st_ x hb;clear hb hg)|(((with_reducible refine gd_ 3 rfl ?_);refine bV_ 3 #[.slice n b.length o,.int .i64 p,.int .i64 i,.string q] 29 ?_;intro K hg w5 y hb;have L:=gq_ hg x;replace x:=st_ x hb;obtain⟨d,z,c⟩:=nb_ c hg hb;clear hb hg;have M:=n2_ d;obtain⟨N,O,P,Q,R,S,T,U⟩:=bc4_ c.1;obtain⟨V,W,X,Y,Z,aa,ba,ca⟩:=bc4_ y.1);refine Aside0.out ?_))
 have H:=AHz_.1
 clear AHz_
 replace H:=ie_ H;rcases H with⟨A,H⟩|⟨A,H⟩
 ·
  have B:=decide_eq_true A
  clear A
  obtain rfl:=Option.some.inj H
  refine⟨?_⟩
  go_wp2
  go_ret
  exact an_ (hs_ x.1)
 have B:decide (g≤i)=false:=decide_eq_false A
 clear A
 obtain rfl:=Option.some.inj H
 refine⟨?_⟩
 go_wp2
 go_ret
 exact an_ (hs_ x.1)
def impl_Merge.f (h:List S99) (c:Int) (i:Int) (j:ByteArray) (d:List S99) (b:Int) (e:Int) (g:ByteArray):Option ((List S99)×Int×Int×ByteArray):=(impl_copyAlarm.f d b e g).bind fun a=>((impl_Touch.f h c i j d b e g).bind fun k=>(if k=true then (some (a.1,mn c b,a.2.2.1,a.2.2.2)) else (some (a.1,a.2.1,a.2.2.1,a.2.2.2))))
theorem impl_Merge.calls (F:Option Addr) (G:Nat) (n:List S99) (o:Int) (x:Int) (y:ByteArray) (z:Option Addr) (A:Nat) (i:List S99) (j:Int) (l:Int) (m:ByteArray) (r1:List S99) (r2:Int) (r3:Int) (r4:ByteArray) (w:World) (U:Kd.C k99 w F n.length n) (V:n.length≤G) (W:Kd.C k99 w z i.length i) (X:i.length≤A) (h:impl_Merge.f n o x y i j l m=some (r1,r2,r3,r4)) :
  Calls Tryz.prog 24 #[.agg #[.slice F n.length G,.int .i64 o,.int .i64 x,.string y],.agg #[.slice z i.length A,.int .i64 j,.int .i64 l,.string m]] w fun e w'=>∃v0_:Value,e=.returned (.agg #[v0_,.int .i64 r2,.int .i64 r3,.string r4])∧Kd.R k99 99 w' w.heap.size (fun _=>True) v0_ r1∧Below w.heap.size w w':=by
 have hu29:=Tryz.underlying29
 have Y:=M_ U
 have Z:=M_ V
 clear U V
 have J:=M_ W
 have K:=M_ X
 clear W X
 have k:=M_ (Below.refl w.heap.size w)
 unfold impl_Merge.f at h
 have H:=h;clear h
 replace H:=bi_ H;obtain⟨⟨B,M,D,E⟩,A3,H⟩:=H;(try dsimp only at H)
 replace H:=bi_ H;obtain⟨Rc,A4,H⟩:=H
 replace H:=ib_ H;rcases H with⟨rfl,H⟩|⟨rfl,H⟩
 ·
  obtain⟨ca,I⟩:∃j_:Int,(mn o j)=j_:=⟨_,rfl⟩
  replace H:(some (B,ca,D,E))=some (r1,r2,r3,r4):=by first|(rw[I] at H;exact H)|(simp only[I] at H ⊢;exact H)
  (try rw[I] at A3)
  (try rw[I] at A4)
  have hji6_:(if j<o then j else o)=ca:=I
  simp only[Option.some.injEq,Prod.mk.injEq] at H
  obtain⟨rfl,rfl,rfl,rfl⟩:=H
  go_enter Tryz.func24,Tryz.ntmps24
  go_wp2_with (first|((with_reducible refine gd_ 2 rfl ?_);refine bV_ 2 #[.slice F n.length G,.int .i64 o,.int .i64 x,.string y] 29 ?_;intro ha hg w7 a hb;have ia:=gq_ hg k;replace k:=st_ k hb;clear hb hg)|((with_reducible refine gd_ 3 rfl ?_);refine bV_ 3 #[.slice z i.length A,.int .i64 j,.int .i64 l,.string m] 29 ?_;intro ja hg w8 b hb;have ka:=gq_ hg k;replace k:=st_ k hb;obtain⟨N,q,a⟩:=nb_ a hg hb;clear hb hg)|((with_reducible refine gd_ 4 rfl ?_);refine bV_ 4 #[.slice none 0 0,.int .i64 0,.int .i64 0,.string (⟨#[]⟩:ByteArray)] 29 ?_;intro L hg w9 c hb;have la:=gq_ hg k;replace k:=st_ k hb;obtain⟨r,O,a⟩:=nb_ a hg hb;obtain⟨s,P,b⟩:=nb_ b hg hb;clear hb hg;have wa:=n2_ q;have xa:=n2_ s;obtain⟨ya,za,Aa,Ba,Ca,Da,Ea,Fa⟩:=bc4_ b.1)|((with_reducible refine gate_callee (f:=58) rfl ?_);refine gl_ (some 7) Tryz.func58 #[.agg #[.slice z i.length A,.int .i64 j,.int .i64 l,.string m]] ?_;(with_reducible refine(impl_copyAlarm.calls _ _ i j l m B M D E _ ?_ ?_ A3.1).mono ?_);exact cp_ ((Kd.C_below J.1 k.1));exact K.1;rintro e Sc ⟨na,rfl,aa,hb⟩;refine⟨_,rfl,?_⟩;have d:=rw_ aa k;obtain⟨a,b,c,k⟩:=u4_ hb a b c k;(try clear hb aa))|((with_reducible refine gd_ 5 rfl ?_);refine bV_ 5 #[.slice none 0 0,.int .i64 0,.int .i64 0,.string (⟨#[]⟩:ByteArray)] 29 ?_;intro ba hg Tc g hb;replace d:=rb_ d hb;have ma:=gq_ hg k;replace k:=st_ k hb;obtain⟨Q,t,a⟩:=nb_ a hg hb;obtain⟨S,u,b⟩:=nb_ b hg hb;obtain⟨T,v,c⟩:=nb_ c hg hb;clear hb hg;obtain⟨da,ea,oa⟩:=Kd.R_slice d.1;subst oa;have Ga:=n2_ t;have Ha:=n2_ u;have Ia:=n2_ v;obtain⟨Ja,Ka,La,Ma,Na,Oa,Pa,Qa⟩:=bc4_ g.1;have Ra:=n2_ r;obtain⟨Sa,Ta,Ua,Va,Wa,Xa,Ya,Za⟩:=bc4_ a.1;obtain⟨ab,bb,cb,db,eb,fb,gb,ib⟩:=bc4_ b.1)|((with_reducible refine gate_callee (f:=80) rfl ?_);refine gl_ (some 10) Tryz.func80 #[.agg #[.slice F n.length G,.int .i64 o,.int .i64 x,.string y],.agg #[.slice z i.length A,.int .i64 j,.int .i64 l,.string m]] ?_;(with_reducible refine(impl_Touch.calls _ _ n o x y _ _ i j l m true _ ?_ ?_ ?_ ?_ A4.1).mono ?_);exact Kd.C_below Y.1 (hs_ k.1);exact Z.1;exact Kd.C_below J.1 (hs_ k.1);exact K.1;rintro e Uc ⟨rfl,hb⟩;refine⟨_,rfl,?_⟩;replace d:=M_ (Kd.R_below (ry_ d.1 g.1) hb);obtain⟨a,b,c⟩:=u3_ hb a b c;replace g:=by_ g #[.slice da B.length ea,.int .i64 M,.int .i64 D,.string E] hb;replace k:=st_ k hb;(try clear hb);obtain⟨jb,kb,lb,mb,nb,ob,pb,qb⟩:=bc4_ a.1;obtain⟨rb,sb,tb,ub,vb,wb,xb,yb⟩:=bc4_ b.1;obtain⟨zb,Ab,Bb,Cb,Db,Eb,Fb,Gb⟩:=bc4_ g.1;obtain⟨Hb,Ib,Jb,Kb,Lb,Mb,Nb,Ob⟩:=bc4_ c.1))
  refine bodyPost_ret (results_cell_row rfl _ _ L 29 #[.slice da B.length ea,.int .i64 ca,.int .i64 D,.string E] (0,0) _ rfl (bp_ c.1) Tryz.underlying29 rfl (by kernel_rfl)) rfl ?_
  exact⟨_,by first|rfl|(simp[errW_none,errW_some]<;>rfl)|(simp only[←I];first|rfl|(simp[errW_none,errW_some]<;>rfl))|(simp[*,errW_none,errW_some]<;>rfl),Kd.R_mono (rf_ L (Kd.R_far (p:=⟨ba,1,none⟩) (Kd.R_types (Kd.R_types d.1 g.1 (by decide)) c.1 (by decide)) (fun _ hk=>hk.1.2) (.int .i64 ca)) (fun _ hk=>hk.2)) (fun _ hk=>trivial),hs_ k.1⟩
 simp only[Option.some.injEq,Prod.mk.injEq] at H
 obtain⟨rfl,rfl,rfl,rfl⟩:=H
 go_enter Tryz.func24,Tryz.ntmps24
 go_wp2_with (first|((with_reducible refine gd_ 2 rfl ?_);refine bV_ 2 #[.slice F n.length G,.int .i64 o,.int .i64 x,.string y] 29 ?_;intro ha hg Vc a hb;have ia:=gq_ hg k;replace k:=st_ k hb;clear hb hg)|((with_reducible refine gd_ 3 rfl ?_);refine bV_ 3 #[.slice z i.length A,.int .i64 j,.int .i64 l,.string m] 29 ?_;intro ja hg Wc b hb;have ka:=gq_ hg k;replace k:=st_ k hb;obtain⟨N,q,a⟩:=nb_ a hg hb;clear hb hg)|((with_reducible refine gd_ 4 rfl ?_);refine bV_ 4 #[.slice none 0 0,.int .i64 0,.int .i64 0,.string (⟨#[]⟩:ByteArray)] 29 ?_;intro L hg Xc c hb;have la:=gq_ hg k;replace k:=st_ k hb;obtain⟨r,O,a⟩:=nb_ a hg hb;obtain⟨s,P,b⟩:=nb_ b hg hb;clear hb hg;have Pb:=n2_ q;have Qb:=n2_ s;obtain⟨Rb,Sb,Tb,Ub,Vb,Wb,Xb,Yb⟩:=bc4_ b.1)|((with_reducible refine gate_callee (f:=58) rfl ?_);refine gl_ (some 7) Tryz.func58 #[.agg #[.slice z i.length A,.int .i64 j,.int .i64 l,.string m]] ?_;(with_reducible refine(impl_copyAlarm.calls _ _ i j l m B M D E _ ?_ ?_ A3.1).mono ?_);exact cp_ ((Kd.C_below J.1 k.1));exact K.1;rintro e Yc ⟨na,rfl,aa,hb⟩;refine⟨_,rfl,?_⟩;have d:=rw_ aa k;obtain⟨a,b,c,k⟩:=u4_ hb a b c k;(try clear hb aa))|((with_reducible refine gd_ 5 rfl ?_);refine bV_ 5 #[.slice none 0 0,.int .i64 0,.int .i64 0,.string (⟨#[]⟩:ByteArray)] 29 ?_;intro ba hg Zc g hb;replace d:=rb_ d hb;have ma:=gq_ hg k;replace k:=st_ k hb;obtain⟨Q,t,a⟩:=nb_ a hg hb;obtain⟨S,u,b⟩:=nb_ b hg hb;obtain⟨T,v,c⟩:=nb_ c hg hb;clear hb hg;obtain⟨fa,ga,pa⟩:=Kd.R_slice d.1;subst pa;have Zb:=n2_ t;have ac:=n2_ u;have bc:=n2_ v;obtain⟨cc,dc,ec,fc,gc,hc,ic,jc⟩:=bc4_ g.1;have kc:=n2_ r;obtain⟨lc,mc,nc,oc,pc,qc,rc,sc⟩:=bc4_ a.1;obtain⟨tc,uc,vc,wc,xc,yc,zc,Ac⟩:=bc4_ b.1)|((with_reducible refine gate_callee (f:=80) rfl ?_);refine gl_ (some 10) Tryz.func80 #[.agg #[.slice F n.length G,.int .i64 o,.int .i64 x,.string y],.agg #[.slice z i.length A,.int .i64 j,.int .i64 l,.string m]] ?_;(with_reducible refine(impl_Touch.calls _ _ n o x y _ _ i j l m false _ ?_ ?_ ?_ ?_ A4.1).mono ?_);exact Kd.C_below Y.1 (hs_ k.1);exact Z.1;exact Kd.C_below J.1 (hs_ k.1);exact K.1;rintro e ad ⟨rfl,hb⟩;refine⟨_,rfl,?_⟩;replace d:=M_ (Kd.R_below (ry_ d.1 g.1) hb);obtain⟨a,b,c⟩:=u3_ hb a b c;replace g:=by_ g #[.slice fa B.length ga,.int .i64 M,.int .i64 D,.string E] hb;replace k:=st_ k hb;(try clear hb);obtain⟨Bc,Cc,Dc,Ec,Fc,Gc,Hc,Ic⟩:=bc4_ g.1;obtain⟨Jc,Kc,Lc,Mc,Nc,Oc,Pc,Qc⟩:=bc4_ c.1))
 refine bodyPost_ret (results_cell_row rfl _ _ L 29 #[.slice fa B.length ga,.int .i64 M,.int .i64 D,.string E] (0,0) _ rfl (bp_ c.1) Tryz.underlying29 rfl (by kernel_rfl)) rfl ?_
 exact⟨_,rr_,Kd.R_mono (ry_ d.1 c.1) (fun _ hk=>trivial),hs_ k.1⟩
def impl_labelsAt.l0:Nat→List S99→List S29→Int→Int→Option (Int)
 | 0,_,_,_,_=>none
 | k+1,d,c,e,a=>if a<e then (if 0≤a then (if a<(c.length:Int) then ((impl_SameSet.f k ((rd_T29 c a).f0) d).bind fun b=>(if b=true then (some a) else (impl_labelsAt.l0 k d c e (wrap64 (a+1))))) else (none)) else (none)) else (some (-1))
def impl_labelsAt.f (k:Nat) (l0:List S29) (a:List S99):Option (Int):=impl_labelsAt.l0 k a l0 (l0.length:Int) 0
theorem impl_labelsAt.calls (k:Nat) (M:Option Addr) (N:Nat) (l0:List S29) (B:Option Addr) (D:Nat) (j:List S99) (r:Int) (w:World) (m:Kd.C k29 w M l0.length l0) (n:l0.length≤N) (o:Kd.C k99 w B j.length j) (p:j.length≤D) (h:impl_labelsAt.f k l0 j=some r) :
  Calls Tryz.prog 101 #[.slice M l0.length N,.slice B j.length D] w fun e w'=>e=.returned (.int .i64 r)∧Below w.heap.size w w':=by
 have hu29:=Tryz.underlying29
 have E:=M_ m
 have ba:=M_ n
 clear m n
 have F:=M_ o
 have G:=M_ p
 clear o p
 have b:=M_ (Below.refl w.heap.size w)
 unfold impl_labelsAt.f at h
 have H:=h;clear h
 have H':=M_ H
 clear H
 go_enter Tryz.func101,Tryz.ntmps101
 go_wp2
 go_loopg [9] k (fun kq v9 w'=>∃(a:Int),v9=.int .i64 a∧Aside0 (impl_labelsAt.l0 kq j l0 (l0.length:Int) a=some r)∧Aside0 (kq≤k)∧Aside0 (Below w.heap.size w w'))
 case atStart=>exact⟨(0),rs_,H',⟨Nat.le_refl _⟩,⟨hs_ b.1⟩⟩
 case round=>
  clear H'
  obtain⟨a,rfl,I,q,b⟩:=hrel
  cases gk with
  | zero=>exact absurd I.1 (by simp[impl_labelsAt.l0])
  | succ O=>
   have H:=I.1
   clear I
   simp only[impl_labelsAt.l0] at H
   replace H:=ie_ H;rcases H with⟨s,H⟩|⟨s,H⟩
   ·
    have t:=decide_eq_true s
    clear s
    replace H:=i2_ H;obtain⟨P,Q,H⟩:=H
    replace H:=bi_ H;obtain⟨u,A6,H⟩:=H
    have AHz_:=M_ H
    clear H
    obtain⟨J,g,i,v,x,y,z,A,c,d,R,S⟩:=au_T29 E.1 b a
    cases v
    go_wp2_with (first|((with_reducible refine gd_ 6 rfl ?_);refine bV_ 6 #[.slice none 0 0,.int .i64 0,.int .i64 0,.string (⟨#[]⟩:ByteArray)] 29 ?_;intro K hg w8 l hb;have L:=gq_ hg b;replace b:=st_ b hb;clear hb hg;obtain⟨T,U,V,W,X,Y,Z,aa⟩:=bc4_ l.1)|(((with_reducible refine gate_callee (f:=72) rfl ?_);refine gl_ (some 17) Tryz.func72 #[.slice g ((rd_T29 l0 a).f0).length i,.slice B j.length D] ?_;(with_reducible refine(impl_SameSet.calls O _ _ ((rd_T29 l0 a).f0) _ _ j u _ ?_ ?_ ?_ ?_ A6.1).mono ?_);exact Kd.C_below d.1 (hs_ b.1);exact c.1;exact Kd.C_below F.1 (hs_ b.1);exact G.1;rintro e w' ⟨rfl,⟨nd,rfl⟩⟩;refine⟨_,rfl,?_⟩);refine Aside0.out ?_))
    have H:=AHz_.1
    clear AHz_
    replace H:=ib_ H;rcases H with⟨rfl,H⟩|⟨rfl,H⟩
    ·
     obtain rfl:=Option.some.inj H
     refine⟨?_⟩
     go_wp2
     go_ret
     exact an_ (hs_ b.1)
    have H':=M_ H
    clear H
    refine⟨?_⟩
    go_wp2
    go_roundg O
    case measure=>have:=q.1;omega
    case rel=>exact⟨(wrap64 (a+1)),rs_,H',⟨by have:=q.1;omega⟩,⟨hs_ b.1⟩⟩
   have t:decide (a<(l0.length:Int))=false:=decide_eq_false s
   clear s
   obtain rfl:=Option.some.inj H
   go_wp2
   go_ret
   exact an_ (hs_ b.1)
def impl_InChain.f (k:Nat) (c:Int) (a:List S29) (d:List S99):Option (Int):=(impl_labelsAt.f k a d).bind fun b=>(some b)
theorem impl_InChain.calls (k:Nat) (g:Int) (c:Option Addr) (d:Nat) (a:List S29) (t:Option Addr) (u:Nat) (m:List S99) (r:Int) (w:World) (i:Kd.C k29 w c a.length a) (j:a.length≤d) (p:Kd.C k99 w t m.length m) (q:m.length≤u) (h:impl_InChain.f k g a m=some r) :
  Calls Tryz.prog 64 #[.agg #[.int .i64 g,.slice c a.length d],.slice t m.length u] w fun e w'=>e=.returned (.int .i64 r)∧Below w.heap.size w w':=by
 have hu80:=Tryz.underlying80
 have n:=M_ i
 have o:=M_ j
 clear i j
 have v:=M_ p
 have x:=M_ q
 clear p q
 have l:=M_ (Below.refl w.heap.size w)
 unfold impl_InChain.f at h
 have H:=h;clear h
 replace H:=bi_ H;obtain⟨s,F,H⟩:=H
 obtain rfl:=Option.some.inj H
 go_enter Tryz.func64,Tryz.ntmps64
 go_wp2_with (first|((with_reducible refine gd_ 2 rfl ?_);refine bV_ 2 #[.int .i64 g,.slice c a.length d] 80 ?_;intro y hg G b hb;have z:=gq_ hg l;replace l:=st_ l hb;clear hb hg;obtain⟨A,B,D,E⟩:=bc2_ b.1)|((with_reducible refine gate_callee (f:=101) rfl ?_);refine gl_ (some 8) Tryz.func101 #[.slice c a.length d,.slice t m.length u] ?_;(with_reducible refine(impl_labelsAt.calls k _ _ a _ _ m s _ ?_ ?_ ?_ ?_ F.1).mono ?_);exact cp_ ((Kd.C_below n.1 l.1));exact o.1;exact cp_ ((Kd.C_below v.1 l.1));exact x.1;rintro e I ⟨rfl,hb⟩;refine⟨_,rfl,?_⟩;obtain⟨b,l⟩:=u2_ hb b l;(try clear hb)))
 go_ret
 exact an_ (hs_ l.1)
def impl_PutChain.f (k:Nat) (h:Int) (c:List S29) (g:List S99) (i:Int) (j:Int) (l:ByteArray):Option (Int×(List S29)×Bool):=(impl_copyChain.f k h c).bind fun b=>((impl_InChain.f k h c g).bind fun a=>(if a≥0 then (if 0≤a then (if a<(c.length:Int) then ((impl_Merge.f ((rd_T29 c a).f0) ((rd_T29 c a).f1) ((rd_T29 c a).f2) ((rd_T29 c a).f3) g i j l).bind fun d=>(if a<(b.2.length:Int) then (some (b.1,(b.2.set (a:Int).toNat (⟨d.1,d.2.1,d.2.2.1,d.2.2.2⟩:S29)),false)) else (none))) else (none)) else (none)) else ((impl_copyAlarm.f g i j l).bind fun e=>(if b.2.length<2513169434916 then (some (b.1,(b.2++[(⟨e.1,e.2.1,e.2.2.1,e.2.2.2⟩:S29)]),true)) else (none)))))
def impl_PutChain.T4:Bool×List (List Nat×List Nat):=(true,[([],[]),([0],[0]),([],[]),([],[]),([3],[3]),([],[]),([4,5],[4,5]),([6],[6]),([],[]),([7,8],[7,8]),([1,2,0,1,2,3,4,5,6,7,8,9],[1,2]),([10,9,9,0,1,2,3,4,5,6,7,8,9],[9,10])])
def impl_PutChain.B4:List Nat:=[0,1,0,0,8,0,56,120,0,504,1023,2047]
theorem impl_PutChain.tab4:rtab .any (opsOf Tryz.f57 4)=impl_PutChain.T4:=by kernel_rfl
theorem impl_PutChain.bits4:waitsOk impl_PutChain.T4.2 impl_PutChain.B4=true:=by kernel_rfl
def impl_PutChain.T6:Bool×List (List Nat×List Nat):=(true,[([],[]),([0],[0]),([],[]),([2],[2]),([3],[3]),([1,4,3],[1,4]),([0,1,2,3,4,5],[]),([6,5,5,0,1,2,3,4,5],[5,6])])
def impl_PutChain.B6:List Nat:=[0,1,0,4,12,31,63,127]
theorem impl_PutChain.tab6:rtab .any (opsOf Tryz.f57 6)=impl_PutChain.T6:=by kernel_rfl
theorem impl_PutChain.bits6:waitsOk impl_PutChain.T6.2 impl_PutChain.B6=true:=by kernel_rfl
theorem impl_PutChain.calls (k:Nat) (M:Int) (ia:Option Addr) (V:Nat) (m:List S29) (I:Option Addr) (J:Nat) (t:List S99) (z:Int) (A:Int) (B:ByteArray) (r1:Int) (r2:List S29) (r3:Bool) (w:World) (Ga:Kd.C k29 w ia m.length m) (Ha:m.length≤V) (Ia:Kd.C k99 w I t.length t) (Ja:t.length≤J) (h:impl_PutChain.f k M m t z A B=some (r1,r2,r3)) :
  Calls Tryz.prog 57 #[.agg #[.int .i64 M,.slice ia m.length V],.agg #[.slice I t.length J,.int .i64 z,.int .i64 A,.string B]] w fun e w'=>∃v1_:Value,e=.returned (.tuple #[.agg #[.int .i64 r1,v1_],.bool r3])∧Kd.S k29 29 w' w.heap.size (fun _=>True) v1_ r2∧Below w.heap.size w w':=by
 have hu80:=Tryz.underlying80
 have hu29:=Tryz.underlying29
 have ra:=M_ Ga
 have Ka:=M_ Ha
 clear Ga Ha
 have sa:=M_ Ia
 have ta:=M_ Ja
 clear Ia Ja
 have s:=M_ (Below.refl w.heap.size w)
 unfold impl_PutChain.f at h
 have H:=h;clear h
 replace H:=bi_ H;obtain⟨⟨N,r⟩,A3,H⟩:=H;(try dsimp only at H)
 replace H:=bi_ H;obtain⟨i,A4,H⟩:=H
 have AHz_:=M_ H
 clear H
 go_enter Tryz.func57,Tryz.ntmps57
 go_wp2_with (first|((with_reducible refine gd_ 2 rfl ?_);refine bV_ 2 #[.int .i64 M,.slice ia m.length V] 80 ?_;intro ua hg Xc d hb;have cb:=gq_ hg s;replace s:=st_ s hb;clear hb hg)|((with_reducible refine gd_ 3 rfl ?_);refine bV_ 3 #[.slice I t.length J,.int .i64 z,.int .i64 A,.string B] 29 ?_;intro q hg Yc b hb;have db:=gq_ hg s;replace s:=st_ s hb;obtain⟨va,eb,d⟩:=nb_ d hg hb;clear hb hg)|((with_reducible refine gd_ 4 rfl ?_);refine bV_ 4 #[.int .i64 0,.slice none 0 0] 80 ?_;intro ga hg Zc l hb;have fb:=gq_ hg s;replace s:=st_ s hb;obtain⟨wa,gb,d⟩:=nb_ d hg hb;obtain⟨xa,ib,b⟩:=nb_ b hg hb;clear hb hg;have Qb:=n2_ va;have Rb:=n2_ wa;obtain⟨Sb,Tb,Ub,Vb⟩:=bc2_ d.1)|((with_reducible refine gate_callee (f:=94) rfl ?_);refine gl_ (some 9) Tryz.func94 #[.agg #[.int .i64 M,.slice ia m.length V]] ?_;(with_reducible refine(impl_copyChain.calls k M _ _ m N r _ ?_ ?_ A3.1).mono ?_);exact cp_ ((Kd.C_below ra.1 s.1));exact Ka.1;rintro e ad ⟨Kc,rfl,ba,hb⟩;refine⟨_,rfl,?_⟩;have a:=M_ (Kd.S_lower (Kd.S_newB ba (pb_ b.1)) (below_size (hs_ s.1)));obtain⟨d,b,l,s⟩:=u4_ hb d b l s;(try clear hb ba))|((with_reducible refine gd_ 6 rfl ?_);refine bV_ 6 #[.int .i64 0,.slice none 0 0] 80 ?_;intro L hg bd c hb;replace a:=sb_ a hb;have jb:=gq_ hg s;replace s:=st_ s hb;obtain⟨ya,W,d⟩:=nb_ d hg hb;obtain⟨za,X,b⟩:=nb_ b hg hb;obtain⟨Aa,Y,l⟩:=nb_ l hg hb;clear hb hg;have Wb:=n2_ W;have Xb:=n2_ X;have Yb:=n2_ Y;obtain⟨Zb,ac,bc,cc⟩:=bc2_ c.1;obtain⟨Z,D,qb⟩:=Kd.S_slice a.1;subst qb;obtain⟨dc,ec,fc,gc⟩:=bc2_ d.1;have hc:=n2_ xa;obtain⟨ic,jc,kc,lc,mc,nc,oc,pc⟩:=bc4_ b.1)|(((with_reducible refine gate_callee (f:=64) rfl ?_);refine gl_ (some 13) Tryz.func64 #[.agg #[.int .i64 M,.slice ia m.length V],.slice I t.length J] ?_;(with_reducible refine(impl_InChain.calls k M _ _ m _ _ t i _ ?_ ?_ ?_ ?_ A4.1).mono ?_);exact Kd.C_below ra.1 (hs_ s.1);exact Ka.1;exact Kd.C_below sa.1 (hs_ s.1);exact ta.1;rintro e rb ⟨rfl,hb⟩;refine⟨_,rfl,?_⟩;replace a:=M_ (Kd.S_below (sy_ a.1 c.1) hb);obtain⟨d,b,l⟩:=u3_ hb d b l;replace c:=by_ c #[.int .i64 N,.slice Z r.length D] hb;replace s:=st_ s hb;(try clear hb));refine Aside0.out ?_))
 have H:=AHz_.1
 clear AHz_
 replace H:=ie_ H;rcases H with⟨c5,H⟩|⟨c5,H⟩
 ·
  have tb:decide (0≤i)=true:=decide_eq_true c5
  clear c5
  replace H:=i2_ H;obtain⟨Lc,Mc,H⟩:=H
  replace H:=bi_ H;obtain⟨⟨O,ca,da,ea⟩,A8,H⟩:=H;(try dsimp only at H)
  replace H:=id_ H;obtain⟨Nc,H⟩:=H
  obtain⟨Sa,hy_⟩:∃y_:List S29,y_=(r.set (i:Int).toNat (⟨O,ca,da,ea⟩:S29)):=⟨_,rfl⟩
  replace H:(some (N,Sa,false))=some (r1,r2,r3):=hm_
  have kb:=M_ hy_;clear hy_
  simp only[Option.some.injEq,Prod.mk.injEq] at H
  obtain⟨rfl,rfl,rfl⟩:=H
  refine⟨?_⟩
  try go_wp2
  obtain⟨a,d,b,l,c,s⟩:=y6_ a d b l c s
  obtain⟨La,Ma⟩:0≤(i:Int)∧i<(m.length:Int):=pq_
  obtain⟨U,Ca,Da,ub,y,E,F,G,ja,ka⟩:=at_T29 ra.1 i La Ma
  have P:=G
  have Q:=F
  have R:=E
  have T:=y
  cases ub
  replace y:=c4_ s y E F G;clear E F G;obtain⟨y,E,F,G⟩:=y
  have la:=M_ ka
  have Na:=M_ ja
  clear ka ja
  replace La:=eq_true La;replace Ma:=eq_true Ma
  refine start_ (n:=12) (S:=fun w'=>c_ w' L 0 (.int .i64 N)∧c_ w' L 1 (.slice Z r.length D)∧c_ w' ua 0 (.int .i64 M)∧c_ w' ua 1 (.slice (some U) m.length V)∧c_ w' q 0 (.slice I t.length J)∧c_ w' q 1 (.int .i64 z)∧c_ w' q 2 (.int .i64 A)∧c_ w' q 3 (.string B)∧w'.cell? (U.add ((i).toNat*4))=some (.slice Ca ((rd_T29 m i).f0).length Da)∧d_ w' (U.add ((i).toNat*4)) 1 (.int .i64 ((rd_T29 m i).f1))∧d_ w' (U.add ((i).toNat*4)) 2 (.int .i64 ((rd_T29 m i).f2))∧d_ w' (U.add ((i).toNat*4)) 3 (.string ((rd_T29 m i).f3))) (ds:=[11]) (b_ 0 12) (by kernel_rfl) rfl rfl ⟨bx_ c.1 0,bx_ c.1 1,bx_ d.1 0,bx_ d.1 1,bx_ b.1 0,bx_ b.1 1,bx_ b.1 2,bx_ b.1 3,((s.1.cell (World.block_lt_of_cell? w _ T)).trans T),((s.1.cell (World.block_lt_of_cell? w _ R)).trans R),((s.1.cell (World.block_lt_of_cell? w _ Q)).trans Q),((s.1.cell (World.block_lt_of_cell? w _ P)).trans P)⟩ (fun u=>?_);refine with_tabW impl_PutChain.tab4 impl_PutChain.bits4 (fun x Oa=>?_)
  generalize rb.drew=dd at a d b l c s la y E F G u ⊢
  refine p_ x ?_
  refine qw_ 2 (m_ 12 5) x ?_
  refine qw_ 3 (m_ 12 13) x ?_
  refine qw_ 5 (m_ 12 45) x ?_
  refine qt_ 1 (m_ 12 47) x Oa u ?_
  refine qt_ 4 (b_ 6 6) x Oa u ?_
  refine p_ x ?_
  iterate 2 refine t0_ x Oa u ?_
  refine o1_ 9 (b_ 10 2) x (fun K hK=>?_)
  refine gs_ Tryz.func24 #[.agg #[.slice Ca ((rd_T29 m i).f0).length Da,.int .i64 ((rd_T29 m i).f1),.int .i64 ((rd_T29 m i).f2),.string ((rd_T29 m i).f3)],.agg #[.slice I t.length J,.int .i64 z,.int .i64 A,.string B]] ?_
  with_reducible refine(impl_Merge.calls _ _ ((rd_T29 m i).f0) ((rd_T29 m i).f1) ((rd_T29 m i).f2) ((rd_T29 m i).f3) _ _ t z A B O ca da ea _ ?_ ?_ ?_ ?_ A8.1).mono ?_
  exact cp_ ((Kd.C_below la.1 s.1))
  exact Na.1
  exact cp_ ((Kd.C_below sa.1 s.1))
  exact ta.1
  rintro e qc ⟨Oc,rfl,ba,hb⟩
  refine⟨_,rfl,?_⟩
  replace a:=M_ (Kd.S_elder' (sp_ a.1) (Kd.R_base ba) hb)
  have Ba:=rw_ ba s
  obtain⟨d,b,l,c,s⟩:=u5_ hb d b l c s
  (try clear hb ba)
  obtain⟨lb,mb⟩:0≤(i:Int)∧(i:Int)<((r.length:Int):Int):=pq_
  obtain⟨go10,Pc,Ta,Ua,gl10,cl10,HG10⟩:=Kd.S_form a.1 (by omega)
  (first|cases Ta|(injection Ta with ea_ en_ ec_;(first|subst ea_|(injection ea_ with ea_;subst ea_));subst ec_;clear en_))
  have GB10:=M_ Ua
  have GG10:=M_ HG10
  clear Ua gl10 HG10
  obtain⟨_,Qc,hcl10,hM10,aa,hfr10,_,_⟩:=Kd.S_elem a.1 z29 (i:Int) lb mb
  obtain⟨Ra,rfl,Jb⟩:=k29_openM hM10
  have Kb:World.cell? _ ⟨go10,(i:Int).toNat*4,none⟩=some (Ra):=aa 0 _ rfl
  have Lb:World.cell? _ ⟨go10,(i:Int).toNat*4+1,none⟩=some (.int .i64 ((rd_T29 r i).f1)):=aa 1 _ rfl
  have Mb:World.cell? _ ⟨go10,(i:Int).toNat*4+2,none⟩=some (.int .i64 ((rd_T29 r i).f2)):=aa 2 _ rfl
  have Nb:World.cell? _ ⟨go10,(i:Int).toNat*4+3,none⟩=some (.string ((rd_T29 r i).f3)):=aa 3 _ rfl
  have hf10_0:World.frozen? _ ⟨go10,(i:Int).toNat*4,none⟩=false:=hfr10 0
  have hf10_1:World.frozen? _ ⟨go10,(i:Int).toNat*4+1,none⟩=false:=hfr10 1
  have hf10_2:World.frozen? _ ⟨go10,(i:Int).toNat*4+2,none⟩=false:=hfr10 2
  have hf10_3:World.frozen? _ ⟨go10,(i:Int).toNat*4+3,none⟩=false:=hfr10 3
  clear hcl10 aa hfr10 hM10
  replace lb:=eq_true lb;replace mb:=eq_true mb
  obtain⟨ma,na,Va⟩:=Kd.R_slice Ba.1
  (first|subst Va|(obtain⟨rfl,rfl⟩:=si_ Va))
  have HX30:=M_ (show Kd.S k29 29 _ w.heap.size (fun k_=>((fun k_=>k_≠q)) k_∧¬((fun k_=>some k_=(.slice ma O.length na:Value).ownBlock)) k_) (.slice (some ⟨go10,0,none⟩) r.length D) r from (Kd.S_mono a.1 (fun k_ hk=>⟨hk.1.2,fun e_=>hk.2 e_⟩)))
  obtain⟨oki30,Rc,hcl30,hM30,nb,hfr30,hoki30,hH30⟩:=Kd.S_elem HX30.out z29 (i:Int) (of_decide_eq_true (by with_reducible assumption)) (by have h_:(i:Int)<((r.length:Int):Int):=of_decide_eq_true (by with_reducible assumption);first|exact h_|(have e_:=(Kd.S_reads' a.1).1;omega)|simpa using h_)
  obtain⟨Ob,rfl,Pb⟩:=k29_openM hM30
  have HP30:=(Kd.S_seg hH30 (of_decide_eq_true (by with_reducible assumption)) (by have h_:(i:Int)<((r.length:Int):Int):=of_decide_eq_true (by with_reducible assumption);first|exact h_|(have e_:=(Kd.S_reads' a.1).1;omega)|simpa using h_) (seg:=[.slice ma O.length na,.int .i64 ca,.int .i64 da,.string ea]) (j:=0) (show 4≤4 from by decide) (x':=(⟨O,ca,da,ea⟩:S29)) (okg:=(fun k_=>some k_=(.slice ma O.length na:Value).ownBlock)) (okp:=fun k_=>oki30 k_∨((fun k_=>some k_=(.slice ma O.length na:Value).ownBlock)) k_) (k29_mkM _ _ _ (⟨O,ca,da,ea⟩:S29) (Kd.R_mono (Kd.R_tight rfl (Kd.R_mono (ok':=fun k_=>((fun k_=>k_≠q)) k_∧k_≠go10) (Kd.R_types (Kd.R_apart' (Ba.1) (Kd.S_typed a.1) (by decide)) b.1 (by decide)) (fun k_ hk=>⟨hk.2,fun e_=>(hk.1.2) (by rw[e_];rfl)⟩))) (fun _ h_=>Or.inr (h_)))) (fun _ hk=>hk) (fun k_ hk_=>((Kd.R_mono (ok':=fun k_=>((fun k_=>k_≠q)) k_∧k_≠go10) (Kd.R_types (Kd.R_apart' (Ba.1) (Kd.S_typed a.1) (by decide)) b.1 (by decide)) (fun k_ hk=>⟨hk.2,fun e_=>(hk.1.2) (by rw[e_];rfl)⟩))).1 k_ hk_.symm)).1
  rw[←kb.1] at HP30
  have HQ30:=M_ HP30
  clear hcl30 nb hfr30 hM30 HP30
  refine ho_ hK ⟨bx_ c.1 0,bx_ c.1 1,bx_ d.1 0,bx_ d.1 1,bx_ b.1 0,bx_ b.1 1,bx_ b.1 2,bx_ b.1 3,((s.1.cell (World.block_lt_of_cell? w _ T)).trans T),((s.1.cell (World.block_lt_of_cell? w _ R)).trans R),((s.1.cell (World.block_lt_of_cell? w _ Q)).trans Q),((s.1.cell (World.block_lt_of_cell? w _ P)).trans P)⟩ (fun u=>?_)
  refine p_ x ?_
  refine l1_ 11 (b_ 12 0) x (fun K hK=>?_)
  refine skip_ (w1:=?_) (by rfl) rfl ?_ ?_
  rotate_left
  ·
   go_simp
   rfl
  refine hK.out _ _ ?_
  clear hK K
  refine done_ (done_of x.1 (by kernel_rfl)) ?_
  generalize hw_:((((qc.setCell ⟨go10,(i:Int).toNat*4,none⟩ (.slice ma O.length na)).setCell ⟨go10,(i:Int).toNat*4+1,none⟩ (.int .i64 ca)).setCell ⟨go10,(i:Int).toNat*4+2,none⟩ (.int .i64 da)).setCell ⟨go10,(i:Int).toNat*4+3,none⟩ (.string ea))=Fa
  have vb:Aside0 (Kd.S k29 29 Fa w.heap.size (fun k_=>k_≠q) (.slice (some ⟨go10,0,none⟩) r.length D) Sa):=⟨by rw[←hw_];exact(by (with_reducible repeat (first|apply Kd.S_alloc|apply Kd.S_drewN|apply Kd.S_drew));exact HQ30.out)⟩
  have wb:Aside0 (Fa.heap[ua]?=some (.cells #[.int .i64 M,.slice (some U) m.length V] 80 (0,0))):=⟨by rw[←hw_];exact(by (with_reducible repeat (first|refine kn_ ?_ _|refine kd_ ?_|refine ka_ ?_ _));refine blk_far ?_ (by have h_:=Kd.S_ne a.1 d.1 (by decide);intro e_;exact h_ (by rw[e_];rfl)) _;(with_reducible repeat (first|refine kn_ ?_ _|refine kd_ ?_|refine ka_ ?_ _));refine blk_far ?_ (by have h_:=Kd.S_ne a.1 d.1 (by decide);intro e_;exact h_ (by rw[e_];rfl)) _;(with_reducible repeat (first|refine kn_ ?_ _|refine kd_ ?_|refine ka_ ?_ _));refine blk_far ?_ (by have h_:=Kd.S_ne a.1 d.1 (by decide);intro e_;exact h_ (by rw[e_];rfl)) _;(with_reducible repeat (first|refine kn_ ?_ _|refine kd_ ?_|refine ka_ ?_ _));refine blk_far ?_ (by have h_:=Kd.S_ne a.1 d.1 (by decide);intro e_;exact h_ (by rw[e_];rfl)) _;(with_reducible repeat (first|refine kn_ ?_ _|refine kd_ ?_|refine ka_ ?_ _));exact d.1)⟩
  have n2_:Aside0 (Fa.heap[q]?=some (.cells #[.slice I t.length J,.int .i64 z,.int .i64 A,.string B] 29 (0,0))):=⟨by rw[←hw_];exact(by (with_reducible repeat (first|refine kn_ ?_ _|refine kd_ ?_|refine ka_ ?_ _));refine blk_far ?_ (by have h_:=Kd.S_away a.1 (fun _ hk=>hk.1.2);intro e_;exact h_ (by rw[e_];rfl)) _;(with_reducible repeat (first|refine kn_ ?_ _|refine kd_ ?_|refine ka_ ?_ _));refine blk_far ?_ (by have h_:=Kd.S_away a.1 (fun _ hk=>hk.1.2);intro e_;exact h_ (by rw[e_];rfl)) _;(with_reducible repeat (first|refine kn_ ?_ _|refine kd_ ?_|refine ka_ ?_ _));refine blk_far ?_ (by have h_:=Kd.S_away a.1 (fun _ hk=>hk.1.2);intro e_;exact h_ (by rw[e_];rfl)) _;(with_reducible repeat (first|refine kn_ ?_ _|refine kd_ ?_|refine ka_ ?_ _));refine blk_far ?_ (by have h_:=Kd.S_away a.1 (fun _ hk=>hk.1.2);intro e_;exact h_ (by rw[e_];rfl)) _;(with_reducible repeat (first|refine kn_ ?_ _|refine kd_ ?_|refine ka_ ?_ _));exact b.1)⟩
  have xb:Aside0 (Fa.heap[ga]?=some (.cells #[.int .i64 0,.slice none 0 0] 80 (0,0))):=⟨by rw[←hw_];exact(by (with_reducible repeat (first|refine kn_ ?_ _|refine kd_ ?_|refine ka_ ?_ _));refine blk_far ?_ (by have h_:=Kd.S_ne a.1 l.1 (by decide);intro e_;exact h_ (by rw[e_];rfl)) _;(with_reducible repeat (first|refine kn_ ?_ _|refine kd_ ?_|refine ka_ ?_ _));refine blk_far ?_ (by have h_:=Kd.S_ne a.1 l.1 (by decide);intro e_;exact h_ (by rw[e_];rfl)) _;(with_reducible repeat (first|refine kn_ ?_ _|refine kd_ ?_|refine ka_ ?_ _));refine blk_far ?_ (by have h_:=Kd.S_ne a.1 l.1 (by decide);intro e_;exact h_ (by rw[e_];rfl)) _;(with_reducible repeat (first|refine kn_ ?_ _|refine kd_ ?_|refine ka_ ?_ _));refine blk_far ?_ (by have h_:=Kd.S_ne a.1 l.1 (by decide);intro e_;exact h_ (by rw[e_];rfl)) _;(with_reducible repeat (first|refine kn_ ?_ _|refine kd_ ?_|refine ka_ ?_ _));exact l.1)⟩
  have yb:Aside0 (Fa.heap[L]?=some (.cells #[.int .i64 N,.slice (some ⟨go10,0,none⟩) r.length D] 80 (0,0))):=⟨by rw[←hw_];exact(by (with_reducible repeat (first|refine kn_ ?_ _|refine kd_ ?_|refine ka_ ?_ _));refine blk_far ?_ (by have h_:=Kd.S_ne a.1 c.1 (by decide);intro e_;exact h_ (by rw[e_];rfl)) _;(with_reducible repeat (first|refine kn_ ?_ _|refine kd_ ?_|refine ka_ ?_ _));refine blk_far ?_ (by have h_:=Kd.S_ne a.1 c.1 (by decide);intro e_;exact h_ (by rw[e_];rfl)) _;(with_reducible repeat (first|refine kn_ ?_ _|refine kd_ ?_|refine ka_ ?_ _));refine blk_far ?_ (by have h_:=Kd.S_ne a.1 c.1 (by decide);intro e_;exact h_ (by rw[e_];rfl)) _;(with_reducible repeat (first|refine kn_ ?_ _|refine kd_ ?_|refine ka_ ?_ _));refine blk_far ?_ (by have h_:=Kd.S_ne a.1 c.1 (by decide);intro e_;exact h_ (by rw[e_];rfl)) _;(with_reducible repeat (first|refine kn_ ?_ _|refine kd_ ?_|refine ka_ ?_ _));exact c.1)⟩
  have zb:Aside0 (Below w.heap.size w Fa):=⟨by rw[←hw_];exact(by repeat (first|(with_reducible first|exact s.1|apply ba_|apply bn_|apply bd_|refine below_set ?_ GB10.out|refine below_set ?_ GB10.out|refine below_set ?_ GB10.out|refine below_set ?_ GB10.out|refine below_set ?_ cb.1|refine below_set ?_ db.1|refine below_set ?_ fb.1|refine below_set ?_ jb.1)|exact s.1))⟩
  clear hw_
  (try clear a d b l c s)
  have a:=vb
  have d:=wb
  have b:=n2_
  have l:=xb
  have c:=yb
  have s:=zb
  clear vb wb n2_ xb yb zb
  obtain⟨rc,sc,tc,uc⟩:=bc2_ c.1
  obtain⟨vc,wc,xc,yc⟩:=bc2_ l.1
  try go_wp2
  refine bodyPost_ret (results_ct rfl _ _ ga 80 #[.int .i64 N,.slice (some ⟨go10,0,none⟩) r.length D] (0,0) _ rfl (bp_ l.1) Tryz.underlying80 rfl (by kernel_rfl)) rfl ?_
  exact⟨_,rr_,Kd.S_mono (sy_ a.1 l.1) (fun _ hk=>trivial),hs_ s.1⟩
 have tb:decide (0≤i)=false:=decide_eq_false c5
 clear c5
 replace H:=bi_ H;obtain⟨⟨fa,oa,pa,qa⟩,zc,H⟩:=H;(try dsimp only at H)
 replace H:=im_ H;obtain⟨ob,H⟩:=H
 obtain⟨Pa,hy_⟩:∃y_:List S29,y_=(r++[(⟨fa,oa,pa,qa⟩:S29)]):=⟨_,rfl⟩
 replace H:(some (N,Pa,true))=some (r1,r2,r3):=hm_
 have pb:=M_ hy_;clear hy_
 simp only[Option.some.injEq,Prod.mk.injEq] at H
 obtain⟨rfl,rfl,rfl⟩:=H
 refine⟨?_⟩
 try go_wp2
 obtain⟨a,d,b,l,c,s⟩:=y6_ a d b l c s
 refine start_ (n:=8) (S:=fun w'=>c_ w' L 0 (.int .i64 N)∧c_ w' L 1 (.slice Z r.length D)∧c_ w' q 0 (.slice I t.length J)∧c_ w' q 1 (.int .i64 z)∧c_ w' q 2 (.int .i64 A)∧c_ w' q 3 (.string B)) (ds:=[7]) (b_ 0 8) (by kernel_rfl) rfl rfl (f2_ c.1 (e4_ b.1)) (fun u=>?_);refine with_tabW impl_PutChain.tab6 impl_PutChain.bits6 (fun x Oa=>?_)
 generalize rb.drew=ed at a d b l c s u ⊢
 refine p_ x ?_
 iterate 2 refine t0_ x Oa u ?_
 refine o1_ 3 (b_ 4 4) x (fun K hK=>?_)
 refine gs_ Tryz.func58 #[.agg #[.slice I t.length J,.int .i64 z,.int .i64 A,.string B]] ?_
 with_reducible refine(impl_copyAlarm.calls _ _ t z A B fa oa pa qa _ ?_ ?_ zc.1).mono ?_
 exact cp_ ((Kd.C_below sa.1 s.1))
 exact ta.1
 rintro e fd ⟨Sc,rfl,ba,hb⟩
 refine⟨_,rfl,?_⟩
 replace a:=M_ (Kd.S_elder' (sp_ a.1) (Kd.R_base ba) hb)
 have ha:=rw_ ba s
 obtain⟨d,b,l,c,s⟩:=u5_ hb d b l c s
 (try clear hb ba)
 obtain⟨Wa,Xa,Ya⟩:=Kd.R_slice ha.1
 (first|subst Ya|(obtain⟨rfl,rfl⟩:=si_ Ya))
 refine ho_ hK (f2_ c.1 (e4_ b.1)) (fun u=>?_)
 refine o1_ 4 (b_ 5 3) x (fun K hK=>?_)
 refine value_ (w1:=?_) (v:=?_) (by rfl) rfl ?_ ?_
 rotate_left 2
 ·
  go_simp
  constructor
  ·
   rfl
  rfl
 refine ho_ hK ⟨(blk_cell (blk_alloc c.1 _) 0).trans rfl,(blk_cell (blk_alloc c.1 _) 1).trans rfl,(blk_cell (blk_alloc b.1 _) 0).trans rfl,(blk_cell (blk_alloc b.1 _) 1).trans rfl,(blk_cell (blk_alloc b.1 _) 2).trans rfl,(blk_cell (blk_alloc b.1 _) 3).trans rfl⟩ (fun u=>?_)
 refine o1_ 5 (b_ 6 2) x (fun K hK=>?_)
 refine Kd.S_append_step k29 (w0:=w) w.heap.size (by rfl) (.tmp 29) (.tmp 32) 40 29 (.agg #[(.slice none 0 0),(.int .i64 0),(.int .i64 0),(.string ⟨#[]⟩)]) 56 rfl Tryz.underlying40 info29 rfl (by decide) (by omega) (.slice Z r.length D) r (⟨fa,oa,pa,qa⟩:S29) [.slice Wa fa.length Xa,.int .i64 oa,.int .i64 pa,.string qa] (fun k_=>k_≠q) (fun k_=>some k_=(.slice Wa fa.length Xa:Value).ownBlock) rfl rfl ?aP (fun k_ hk_=>((Kd.R_mono (ok':=fun k_=>((fun k_=>k_≠q)) k_∧some k_≠(.slice Z r.length D:Value).ownBlock) (Kd.R_types (Kd.R_apart' (ha.1) (Kd.S_typed a.1) (by decide)) b.1 (by decide)) (fun k_ hk=>⟨hk.2,hk.1.2⟩))).1 k_ hk_.symm) ?aF ?aO ?aB ?aS ?aL ?_
 (case aP=>exact k29_mkM _ _ _ (⟨fa,oa,pa,qa⟩:S29) (Kd.R_mono (Kd.R_tight rfl (Kd.R_mono (ok':=fun k_=>((fun k_=>k_≠q)) k_∧some k_≠(.slice Z r.length D:Value).ownBlock) (Kd.R_types (Kd.R_apart' (ha.1) (Kd.S_typed a.1) (by decide)) b.1 (by decide)) (fun k_ hk=>⟨hk.2,hk.1.2⟩))) (fun _ h_=>h_)))
 (case aB=>exact(hs_ s.1))
 (case aF=>exact(fun k_ hk=>Kd.freshB (g:=q) (o:=.cells #[.slice I t.length J,.int .i64 z,.int .i64 A,.string B] 29 (0,0)) (pb_ b.1) k_ hk))
 (case aO=>exact(Kd.S_mono (sp_ a.1) (fun k_ hk=>⟨hk.1.2,fun e_=>hk.2 e_⟩)))
 (case aS=>exact(below_size (hs_ s.1)))
 (case aL=>have:=ob.1;omega)
 intro Tc Ac ho hb hg hat
 rw[←pb.1] at ho
 replace d:=bg_ d hg a
 replace b:=M_ (blk_grown (bq_ b.1) hg (Kd.S_away a.1 (fun _ hk=>hk.1.2)))
 replace l:=bg_ l hg a
 replace c:=bg_ c hg a
 replace s:=M_ (hb)
 have Qa:=M_ (ho)
 clear a ha
 clear ho hb hg hat
 obtain⟨Za,ab,bb⟩:=Kd.S_slice Qa.1
 (first|subst bb|(obtain⟨rfl,rfl⟩:=si_ bb))
 refine ho_ hK (f2_ c.1 (e4_ b.1)) (fun u=>?_)
 refine p_ x ?_
 refine l1_ 7 (b_ 8 0) x (fun K hK=>?_)
 have Uc:Ac.cell? ⟨L,1,none⟩=some (.slice Z r.length D):=bx_ c.1 1
 have Bc:=blk_frozen c.1 1
 have Ab:=ya.1
 have Bb:=za.1
 have Cb:=Aa.1
 have Db:=W.1
 have Eb:=X.1
 have Fb:=Y.1
 refine skip_ (w1:=?_) (by rfl) rfl ?_ ?_
 rotate_left
 ·
  go_simp
  rfl
 refine hK.out _ _ ?_
 clear hK K
 refine done_ (done_of x.1 (by kernel_rfl)) ?_
 obtain⟨Cc,Dc,Ec,Fc⟩:=bc2_ c.1
 obtain⟨Gc,Hc,Ic,Jc⟩:=bc2_ l.1
 try go_wp2
 refine bodyPost_ret (results_ct rfl _ _ ga 80 #[.int .i64 N,.slice Za Pa.length ab] (0,0) _ rfl (bp_ l.1) Tryz.underlying80 rfl (by kernel_rfl)) rfl ?_
 exact⟨_,rr_,Kd.S_mono (sf_ ga (Kd.S_far (p:=⟨L,1,none⟩) (Kd.S_types (Kd.S_types Qa.1 c.1 (by decide)) l.1 (by decide)) (fun _ hk=>hk.1.2) (.slice Za Pa.length ab)) (fun _ hk=>hk.2)) (fun _ hk=>trivial),hs_ s.1⟩
mutual
def impl_PutIn.l0:Nat→Int→Int→List S99→Int→Int→ByteArray→Int→Int→List S80→Option (Int×Int×(List S80)×Bool)
 | 0,_,_,_,_,_,_,_,_,_=>none
 | k+1,i,h,b,c,d,e,f,g,a=>if h<(a.length:Int) then (if 0≤h then (impl_PutIn.j1 k i h (decide (((rd_T80 a h).f0)≤i)) b c d e f g a) else (none)) else (impl_PutIn.j1 k i h false b c d e f g a)
def impl_PutIn.j1:Nat→Int→Int→Bool→List S99→Int→Int→ByteArray→Int→Int→List S80→Option (Int×Int×(List S80)×Bool)
 | 0,_,_,_,_,_,_,_,_,_,_=>none
 | k+1,q,j,p,c,d,e,g,h,i,a=>if p=true then (impl_PutIn.l0 k q (wrap64 (j+1)) c d e g h i a) else ((impl_copyAlarm.f c d e g).bind fun b=>(if 0≤j then (if j≤(a.length:Int) then ((some (a.drop (j:Int).toNat:List S80)).bind fun l=>((some (a.take (j:Int).toNat:List S80)).bind fun m=>(if ([]:List S80).length+m.length<4398046511104 then ((some (([]:List S80)++m:List S80)).bind fun n=>(if n.length<4398046511104 then ((some (n++[(⟨q,(([(⟨b.1,b.2.1,b.2.2.1,b.2.2.2⟩:S29)]:List S29))⟩:S80)]:List S80)).bind fun o=>(if o.length+l.length<4398046511104 then (some (h,i,(o++l),true)) else (none))) else (none))) else (none)))) else (none)) else (none)))
end
def impl_PutIn.f (k:Nat) (g:Int) (h:Int) (c:List S80) (e:List S99) (i:Int) (j:Int) (l:ByteArray):Option (Int×Int×(List S80)×Bool):=(impl_copyPart.f k g h c).bind fun a=>((impl_Finger.f k e).bind fun m=>((impl_chainOf.f k g h c m).bind fun b=>(if b≥0 then (if 0≤b then (if b<(c.length:Int) then ((impl_PutChain.f k ((rd_T80 c b).f0) ((rd_T80 c b).f1) e i j l).bind fun d=>(if b<(a.2.2.length:Int) then (some (a.1,wrap64 (a.2.1+1),(a.2.2.set (b:Int).toNat (⟨d.1,d.2.1⟩:S80)),d.2.2)) else (none))) else (none)) else (none)) else (impl_PutIn.l0 k m 0 e i j l a.1 (wrap64 (a.2.1+1)) a.2.2))))
def impl_PutIn.T6:Bool×List (List Nat×List Nat):=(true,[([],[]),([0],[0]),([],[]),([1,2],[1,2]),([3],[3]),([],[]),([4,5],[4,5]),([6],[6]),([7],[7]),([7],[7]),([],[]),([10,8,6,0,1,2,3,4,5,6,7,8,10],[8,10]),([9,11,0,1,2,3,4,5,6,7,8,9,10,11],[9])])
def impl_PutIn.B6:List Nat:=[0,1,0,7,15,0,63,127,255,255,0,1535,4095]
theorem impl_PutIn.tab6:rtab .any (opsOf Tryz.f8 6)=impl_PutIn.T6:=by kernel_rfl
theorem impl_PutIn.bits6:waitsOk impl_PutIn.T6.2 impl_PutIn.B6=true:=by kernel_rfl
def impl_PutIn.T13:Bool×List (List Nat×List Nat):=(true,[([],[]),([0],[0]),([],[]),([1,2],[1,2]),([3],[3]),([],[]),([5],[5]),([4,6,4],[4,6]),([],[]),([8],[8]),([],[]),([9,10],[9,10]),([7,11,7],[7,11]),([0,1,2,3,4,5,6,7,8,9,10,11,12],[]),([13,12,12,0,1,2,3,4,5,6,7,8,9,10,11,12],[12,13])])
def impl_PutIn.B13:List Nat:=[0,1,0,7,15,0,32,127,0,256,0,1792,4095,8191,16383]
theorem impl_PutIn.tab13:rtab .any (opsOf Tryz.f8 13)=impl_PutIn.T13:=by kernel_rfl
theorem impl_PutIn.bits13:waitsOk impl_PutIn.T13.2 impl_PutIn.B13=true:=by kernel_rfl
theorem impl_PutIn.calls (k:Nat) (ha:Int) (ia:Int) (Xa:Option Addr) (za:Nat) (F:List S80) (ca:Option Addr) (da:Nat) (M:List S99) (T:Int) (U:Int) (V:ByteArray) (r1:Int) (r2:Int) (r3:List S80) (r4:Bool) (w:World) (yc:Kd.C k80 w Xa F.length F) (zc:F.length≤za) (Ac:Kd.C k99 w ca M.length M) (Bc:M.length≤da) (h:impl_PutIn.f k ha ia F M T U V=some (r1,r2,r3,r4)) :
  Calls Tryz.prog 8 #[.agg #[.int .i64 ha,.int .i64 ia,.slice Xa F.length za],.agg #[.slice ca M.length da,.int .i64 T,.int .i64 U,.string V]] w fun e w'=>∃v2_:Value,e=.returned (.tuple #[.agg #[.int .i64 r1,.int .i64 r2,v2_],.bool r4])∧Kd.S k80 80 w' w.heap.size (fun _=>True) v2_ r3∧Below w.heap.size w w':=by
 have hu26:=Tryz.underlying26
 have hu29:=Tryz.underlying29
 have hu80:=Tryz.underlying80
 have ob:=M_ yc
 have Gb:=M_ zc
 clear yc zc
 have pb:=M_ Ac
 have qb:=M_ Bc
 clear Ac Bc
 have D:=M_ (Below.refl w.heap.size w)
 unfold impl_PutIn.f at h
 have H:=h;clear h
 replace H:=bi_ H;obtain⟨⟨aa,ba,s⟩,A3,H⟩:=H;(try dsimp only at H)
 replace H:=bi_ H;obtain⟨L,A4,H⟩:=H
 replace H:=bi_ H;obtain⟨E,A5,H⟩:=H
 replace H:=ie_ H;rcases H with⟨c6,H⟩|⟨c6,H⟩
 ·
  have he:decide (0≤E)=true:=decide_eq_true c6
  clear c6
  replace H:=i2_ H;obtain⟨mi,ni,H⟩:=H
  replace H:=bi_ H;obtain⟨⟨Ya,Za,Eb⟩,A9,H⟩:=H;(try dsimp only at H)
  replace H:=id_ H;obtain⟨rf,H⟩:=H
  obtain⟨pd,hy_⟩:∃y_:List S80,y_=(s.set (E:Int).toNat (⟨Ya,Za⟩:S80)):=⟨_,rfl⟩
  replace H:(some (aa,wrap64 (ba+1),pd,Eb))=some (r1,r2,r3,r4):=hm_
  have Ad:=M_ hy_;clear hy_
  simp only[Option.some.injEq,Prod.mk.injEq] at H
  obtain⟨rfl,rfl,rfl,rfl⟩:=H
  go_enter Tryz.func8,Tryz.ntmps8
  try go_wp2_with (first|((with_reducible refine gd_ 2 rfl ?_);refine bV_ 2 #[.int .i64 ha,.int .i64 ia,.slice Xa F.length za] 26 ?_;intro R hg zi b hb;have Bd:=gq_ hg D;replace D:=st_ D hb;clear hb hg)|((with_reducible refine gd_ 3 rfl ?_);refine bV_ 3 #[.slice ca M.length da,.int .i64 T,.int .i64 U,.string V] 29 ?_;intro m hg Ai a hb;have Cd:=gq_ hg D;replace D:=st_ D hb;obtain⟨fb,rb,b⟩:=nb_ b hg hb;clear hb hg)|((with_reducible refine gd_ 4 rfl ?_);refine bV_ 4 #[.int .i64 0,.int .i64 0,.slice none 0 0] 26 ?_;intro ra hg Bi l hb;have Dd:=gq_ hg D;replace D:=st_ D hb;obtain⟨gb,sb,b⟩:=nb_ b hg hb;obtain⟨Oa,ec,a⟩:=nb_ a hg hb;clear hb hg;have sf:=n2_ fb;have tf:=n2_ gb;obtain⟨uf,vf,wf,xf,yf,zf⟩:=bc3_ b.1)|((with_reducible refine gate_callee (f:=54) rfl ?_);refine gl_ (some 14) Tryz.func54 #[.agg #[.int .i64 ha,.int .i64 ia,.slice Xa F.length za]] ?_;(with_reducible refine(impl_copyPart.calls k ha ia _ _ F aa ba s _ ?_ ?_ A3.1).mono ?_);exact cp_ ((Kd.C_below ob.1 D.1));exact Gb.1;rintro e Ci ⟨ie,rfl,Pa,hb⟩;refine⟨_,rfl,?_⟩;obtain⟨W,fc⟩:=Kd.S_name Pa;have r:=M_ (Kd.S_lower (Kd.S_newB (Kd.S_gez fc Pa) (pb_ a.1)) (below_size (hs_ D.1)));obtain⟨b,a,l,D⟩:=u4_ hb b a l D;(try clear hb Pa))|((with_reducible refine gd_ 6 rfl ?_);refine bV_ 6 #[.int .i64 0,.int .i64 0,.slice none 0 0] 26 ?_;intro y hg Di c hb;replace r:=M_ (Kd.S_below (Kd.S_ltz hg (sp_ r.1)) hb);have Ed:=gq_ hg D;replace D:=st_ D hb;obtain⟨tb,ja,b⟩:=nb_ b hg hb;obtain⟨ib,ta,a⟩:=nb_ a hg hb;obtain⟨ub,ka,l⟩:=nb_ l hg hb;clear hb hg;have Af:=n2_ ja;have Bf:=n2_ ta;have Cf:=n2_ ka;obtain⟨Df,Ef,Ff,Gf,Hf,If⟩:=bc3_ c.1;obtain⟨Mb,lb,je⟩:=Kd.S_slice r.1;subst je;have Jf:=n2_ Oa;obtain⟨Kf,Lf,Mf,Nf,Of,Pf,Qf,Rf⟩:=bc4_ a.1)|((with_reducible refine gate_callee (f:=55) rfl ?_);refine gl_ (some 21) Tryz.func55 #[.slice ca M.length da] ?_;(with_reducible refine(impl_Finger.calls k _ _ M L _ ?_ ?_ A4.1).mono ?_);exact Kd.C_below pb.1 (hs_ D.1);exact qb.1;rintro e Ei ⟨rfl,hb⟩;refine⟨_,rfl,?_⟩;replace r:=M_ (Kd.S_below (sy_ r.1 c.1) hb);obtain⟨b,a,l⟩:=u3_ hb b a l;replace c:=by_ c #[.int .i64 aa,.int .i64 (wrap64 (ba+1)),.slice Mb s.length lb] hb;replace D:=st_ D hb;(try clear hb);obtain⟨Sf,Tf,Uf,Vf,Wf,Xf⟩:=bc3_ b.1)|((with_reducible refine gate_callee (f:=56) rfl ?_);refine gl_ (some 24) Tryz.func56 #[.agg #[.int .i64 ha,.int .i64 ia,.slice Xa F.length za],.int .i64 L] ?_;(with_reducible refine(impl_chainOf.calls k ha ia _ _ F L E _ ?_ ?_ A5.1).mono ?_);exact cp_ ((Kd.C_below ob.1 D.1));exact Gb.1;rintro e Yf ⟨rfl,hb⟩;refine⟨_,rfl,?_⟩;obtain⟨r,b,a,l,c,D⟩:=u6_ hb r b a l c D;(try clear hb)))
  obtain⟨r,b,a,l,c,D⟩:=y6_ r b a l c D
  obtain⟨Cc,Dc⟩:0≤(E:Int)∧E<(F.length:Int):=pq_
  obtain⟨Da,jb,kb,ke,La,ab,Nb,Ob⟩:=at_T80 ob.1 E Cc Dc
  have X:=ab
  have Y:=La
  cases ke
  replace La:=c2_ D La ab;clear ab;obtain⟨La,ab⟩:=La
  have vb:=M_ Ob
  have Pb:=M_ Nb
  clear Ob Nb
  replace Cc:=eq_true Cc;replace Dc:=eq_true Dc
  refine start_ (n:=13) (S:=fun w'=>c_ w' R 0 (.int .i64 ha)∧c_ w' R 1 (.int .i64 ia)∧c_ w' R 2 (.slice (some Da) F.length za)∧c_ w' m 0 (.slice ca M.length da)∧c_ w' m 1 (.int .i64 T)∧c_ w' m 2 (.int .i64 U)∧c_ w' m 3 (.string V)∧w'.cell? (Da.add ((E).toNat*2))=some (.int .i64 ((rd_T80 F E).f0))∧d_ w' (Da.add ((E).toNat*2)) 1 (.slice jb ((rd_T80 F E).f1).length kb)) (ds:=[]) (b_ 0 13) (by kernel_rfl) rfl rfl ⟨bx_ b.1 0,bx_ b.1 1,bx_ b.1 2,bx_ a.1 0,bx_ a.1 1,bx_ a.1 2,bx_ a.1 3,((D.1.cell (World.block_lt_of_cell? w _ Y)).trans Y),((D.1.cell (World.block_lt_of_cell? w _ X)).trans X)⟩ (fun A=>?_);refine with_tabW impl_PutIn.tab6 impl_PutIn.bits6 (fun ga sc=>?_)
  generalize Yf.drew=Fi at r b a l c D vb La ab A ⊢
  refine p_ ga ?_
  refine qw_ 2 (m_ 13 5) ga ?_
  refine qt_ 1 (b_ 3 10) ga sc A ?_
  refine p_ ga ?_
  iterate 2 refine t0_ ga sc A ?_
  refine join_ (σ:=Value×Nat×Nat) 2 (b_ 11 2) (fun s_=>[(34,.tuple #[.agg #[.int .i64 Ya,s_.1],.bool Eb]),(9,.pointer (some ⟨s_.2.2,0,none⟩)),(27,.tuple #[.agg #[.int .i64 Ya,s_.1],.bool Eb]),(35,.agg #[.int .i64 Ya,s_.1]),(36,.bool Eb)]) (fun s_ w'=>(c_ w' R 0 (.int .i64 ha)∧c_ w' R 1 (.int .i64 ia)∧c_ w' R 2 (.slice (some Da) F.length za)∧c_ w' m 0 (.slice ca M.length da)∧c_ w' m 1 (.int .i64 T)∧c_ w' m 2 (.int .i64 U)∧c_ w' m 3 (.string V)∧w'.cell? (Da.add ((E).toNat*2))=some (.int .i64 ((rd_T80 F E).f0))∧d_ w' (Da.add ((E).toNat*2)) 1 (.slice jb ((rd_T80 F E).f1).length kb))∧(Kd.S k80 80 w' w.heap.size (fun k_=>k_≠m∧k_≠s_.2.2∧W≤k_∧k_<y∧k_<s_.2.1) (.slice Mb s.length lb) s)∧(Kd.S k29 29 w' w.heap.size (fun k_=>k_≠m∧s_.2.1≤k_) s_.1 Za)∧(w'.heap[R]?=some (.cells #[.int .i64 ha,.int .i64 ia,.slice (some Da) F.length za] 26 (0,0)))∧(w'.heap[m]?=some (.cells #[.slice ca M.length da,.int .i64 T,.int .i64 U,.string V] 29 (0,0)))∧(w'.heap[ra]?=some (.cells #[.int .i64 0,.int .i64 0,.slice none 0 0] 26 (0,0)))∧(w'.heap[y]?=some (.cells #[.int .i64 aa,.int .i64 (wrap64 (ba+1)),.slice Mb s.length lb] 26 (0,0)))∧(w'.heap[s_.2.2]?=some (.cells #[.int .i64 0,.slice none 0 0] 80 (0,0)))∧(w.heap.size≤s_.2.2)∧(w.heap.size≤s_.2.2)∧(R≠s_.2.2)∧(s_.2.2≠R)∧(m≠s_.2.2)∧(s_.2.2≠m)∧(ra≠s_.2.2)∧(s_.2.2≠ra)∧(y≠s_.2.2)∧(s_.2.2≠y)∧(Below w.heap.size w w')) ?_ ?_
  rotate_left
  ·
   intro wb
   refine two_ (i:=6) (j:=10) (Ni:=some 34) (Nj:=some 9) (b_ 7 6) (m_ 13 1087) rfl rfl rfl rfl (two_of ga.1 (by kernel_rfl)) (by decide) (by decide) (fun K hK=>?_) (fun K hK=>?_)
   ·
    skip
    refine gs_ Tryz.func57 #[.agg #[.int .i64 ((rd_T80 F E).f0),.slice jb ((rd_T80 F E).f1).length kb],.agg #[.slice ca M.length da,.int .i64 T,.int .i64 U,.string V]] ?_
    with_reducible refine(impl_PutChain.calls k ((rd_T80 F E).f0) _ _ ((rd_T80 F E).f1) _ _ M T U V Ya Za Eb _ ?_ ?_ ?_ ?_ A9.1).mono ?_
    exact cp_ ((Kd.C_below vb.1 D.1))
    exact Pb.1
    exact cp_ ((Kd.C_below pb.1 D.1))
    exact qb.1
    rintro e Zf ⟨Qb,rfl,Pa,hb⟩
    refine⟨_,rfl,?_⟩
    obtain⟨Ja,xb⟩:=Kd.S_name Pa
    replace r:=su_ xb (sp_ r.1) hb
    have Aa:=M_ (Kd.S_lower (Kd.S_newB (Kd.S_gez xb Pa) (pb_ a.1)) (below_size (hs_ D.1)))
    obtain⟨b,a,l,c,D⟩:=u5_ hb b a l c D
    (try clear hb Pa)
    refine ho_ hK ⟨bx_ b.1 0,bx_ b.1 1,bx_ b.1 2,bx_ a.1 0,bx_ a.1 1,bx_ a.1 2,bx_ a.1 3,((D.1.cell (World.block_lt_of_cell? w _ Y)).trans Y),((D.1.cell (World.block_lt_of_cell? w _ X)).trans X)⟩ (fun A=>?_)
    iterate 3 refine p_ ga ?_
    refine o1_ 10 (b_ 11 2) ga (fun K hK=>?_)
    refine bs1_ 9 #[.int .i64 0,.slice none 0 0] 80 ?_
    intro sa hg ag bb hb
    replace r:=se_ r hg hb
    replace Aa:=sb_ Aa hb
    have ea:=M_ (bb)
    have cb:=gq_ hg D
    have Hb:=gq_ hg D
    replace D:=st_ D hb
    have ua:=nk_ b hg
    have la:=Ne_.mk (ng_ b.1 hg)
    replace b:=bk2_ b hb
    have va:=nk_ a hg
    have ma:=Ne_.mk (ng_ a.1 hg)
    replace a:=bk2_ a hb
    have wa:=nk_ l hg
    have na:=Ne_.mk (ng_ l.1 hg)
    replace l:=bk2_ l hb
    have oa:=nk_ c hg
    have xa:=Ne_.mk (ng_ c.1 hg)
    replace c:=bk2_ c hb
    clear hb bb hg
    refine ho_ hK ⟨bx_ b.1 0,bx_ b.1 1,bx_ b.1 2,bx_ a.1 0,bx_ a.1 1,bx_ a.1 2,bx_ a.1 3,((D.1.cell (World.block_lt_of_cell? w _ Y)).trans Y),((D.1.cell (World.block_lt_of_cell? w _ X)).trans X)⟩ (fun A=>?_)
    exact norm_ (by simp only[putAll,fr_]) (wb (Qb,Ja,sa) _ ⟨A,(Kd.S_mono (sp_ r.1) (fun _ hk=>⟨hk.1.1.1.2,⟨hk.2,⟨hk.1.1.1.1.2,⟨hk.1.1.2,hk.1.2⟩⟩⟩⟩)),(Kd.S_mono (sp_ Aa.1) (fun _ hk=>⟨hk.2,hk.1.2⟩)),(pb_ b.1),(pb_ a.1),(pb_ l.1),(pb_ c.1),(pb_ ea.1),cb.1,Hb.1,ua.1,la.1,va.1,ma.1,wa.1,na.1,oa.1,xa.1,(hs_ D.1)⟩)
   skip
   refine bs1_ 9 #[.int .i64 0,.slice none 0 0] 80 ?_
   intro sa hg Zf bb hb
   replace r:=se_ r hg hb
   have ea:=M_ (bb)
   have cb:=gq_ hg D
   have Hb:=gq_ hg D
   replace D:=st_ D hb
   have ua:=nk_ b hg
   have la:=Ne_.mk (ng_ b.1 hg)
   replace b:=bk2_ b hb
   have va:=nk_ a hg
   have ma:=Ne_.mk (ng_ a.1 hg)
   replace a:=bk2_ a hb
   have wa:=nk_ l hg
   have na:=Ne_.mk (ng_ l.1 hg)
   replace l:=bk2_ l hb
   have oa:=nk_ c hg
   have xa:=Ne_.mk (ng_ c.1 hg)
   replace c:=bk2_ c hb
   clear hb bb hg
   refine ho_ hK ⟨bx_ b.1 0,bx_ b.1 1,bx_ b.1 2,bx_ a.1 0,bx_ a.1 1,bx_ a.1 2,bx_ a.1 3,((D.1.cell (World.block_lt_of_cell? w _ Y)).trans Y),((D.1.cell (World.block_lt_of_cell? w _ X)).trans X)⟩ (fun A=>?_)
   refine o1_ 6 (m_ 13 1151) ga (fun K hK=>?_)
   refine gs_ Tryz.func57 #[.agg #[.int .i64 ((rd_T80 F E).f0),.slice jb ((rd_T80 F E).f1).length kb],.agg #[.slice ca M.length da,.int .i64 T,.int .i64 U,.string V]] ?_
   with_reducible refine(impl_PutChain.calls k ((rd_T80 F E).f0) _ _ ((rd_T80 F E).f1) _ _ M T U V Ya Za Eb _ ?_ ?_ ?_ ?_ A9.1).mono ?_
   exact cp_ ((Kd.C_below vb.1 D.1))
   exact Pb.1
   exact cp_ ((Kd.C_below pb.1 D.1))
   exact qb.1
   rintro e ag ⟨Qb,rfl,Pa,hb⟩
   refine⟨_,rfl,?_⟩
   obtain⟨Ja,xb⟩:=Kd.S_name Pa
   replace r:=su_ xb (sp_ r.1) hb
   have Aa:=M_ (Kd.S_lower (Kd.S_newB (Kd.S_gez xb Pa) (pb_ a.1)) (below_size (hs_ D.1)))
   obtain⟨b,a,l,c,ea,D⟩:=u6_ hb b a l c ea D
   (try clear hb Pa)
   refine ho_ hK ⟨bx_ b.1 0,bx_ b.1 1,bx_ b.1 2,bx_ a.1 0,bx_ a.1 1,bx_ a.1 2,bx_ a.1 3,((D.1.cell (World.block_lt_of_cell? w _ Y)).trans Y),((D.1.cell (World.block_lt_of_cell? w _ X)).trans X)⟩ (fun A=>?_)
   refine qw_ 7 (m_ 13 1279) ga ?_
   refine qw_ 8 (m_ 13 1535) ga ?_
   refine qw_ 9 (b_ 11 2) ga ?_
   exact norm_ (by simp only[putAll,fr_]) (wb (Qb,Ja,sa) _ ⟨A,(Kd.S_mono (sp_ r.1) (fun _ hk=>⟨hk.1.1.1.2,⟨hk.1.2,⟨hk.1.1.1.1.2,⟨hk.1.1.2,hk.2⟩⟩⟩⟩)),(Kd.S_mono (sp_ Aa.1) (fun _ hk=>⟨hk.2,hk.1.2⟩)),(pb_ b.1),(pb_ a.1),(pb_ l.1),(pb_ c.1),(pb_ ea.1),cb.1,Hb.1,ua.1,la.1,va.1,ma.1,wa.1,na.1,oa.1,xa.1,(hs_ D.1)⟩)
  rintro ⟨Qb,Ja,sa⟩ Ma ⟨Fd,Ec,Fc,Gc,Hc,Ic,Jc,Kc,Lc,Mc,Nc,Rb,Sb,Tb,Ub,Vb,Wb,Xb,Yb⟩
  replace r:Aside0 (Kd.S k80 80 Ma w.heap.size (fun k_=>k_≠m∧k_≠sa∧W≤k_∧k_<y∧k_<Ja) (.slice Mb s.length lb) s):=⟨Ec⟩
  have Aa:Aside0 (Kd.S k29 29 Ma w.heap.size (fun k_=>k_≠m∧Ja≤k_) Qb Za):=⟨Fc⟩
  replace b:Aside0 (Ma.heap[R]?=some (.cells #[.int .i64 ha,.int .i64 ia,.slice (some Da) F.length za] 26 (0,0))):=⟨Gc⟩
  replace a:Aside0 (Ma.heap[m]?=some (.cells #[.slice ca M.length da,.int .i64 T,.int .i64 U,.string V] 29 (0,0))):=⟨Hc⟩
  replace l:Aside0 (Ma.heap[ra]?=some (.cells #[.int .i64 0,.int .i64 0,.slice none 0 0] 26 (0,0))):=⟨Ic⟩
  replace c:Aside0 (Ma.heap[y]?=some (.cells #[.int .i64 aa,.int .i64 (wrap64 (ba+1)),.slice Mb s.length lb] 26 (0,0))):=⟨Jc⟩
  have ea:Aside0 (Ma.heap[sa]?=some (.cells #[.int .i64 0,.slice none 0 0] 80 (0,0))):=⟨Kc⟩
  have cb:=Ge_.mk Lc
  have Hb:=Ge_.mk Mc
  have ua:=Ne_.mk Nc
  have la:=Ne_.mk Rb
  have va:=Ne_.mk Sb
  have ma:=Ne_.mk Tb
  have wa:=Ne_.mk Ub
  have na:=Ne_.mk Vb
  have oa:=Ne_.mk Wb
  have xa:=Ne_.mk Xb
  replace D:Aside0 (Below w.heap.size w Ma):=⟨Yb⟩
  clear Ec Fc Gc Hc Ic Jc Kc Lc Mc Nc Rb Sb Tb Ub Vb Wb Xb Yb
  have A:c_ Ma R 0 (.int .i64 ha)∧c_ Ma R 1 (.int .i64 ia)∧c_ Ma R 2 (.slice (some Da) F.length za)∧c_ Ma m 0 (.slice ca M.length da)∧c_ Ma m 1 (.int .i64 T)∧c_ Ma m 2 (.int .i64 U)∧c_ Ma m 3 (.string V)∧Ma.cell? (Da.add ((E).toNat*2))=some (.int .i64 ((rd_T80 F E).f0))∧d_ Ma (Da.add ((E).toNat*2)) 1 (.slice jb ((rd_T80 F E).f1).length kb):=Fd
  obtain⟨nc,oc,qd⟩:=Kd.S_slice Aa.1
  (first|subst qd|(obtain⟨rfl,rfl⟩:=si_ qd))
  refine nm_ ?_
  refine o1_ 11 (b_ 12 1) ga (fun K hK=>?_)
  have pi:Ma.cell? ⟨sa,0,none⟩=some (.int .i64 0):=bx_ ea.1 0
  have bg:=blk_frozen ea.1 0
  have le:=ua.1
  have me:=va.1
  have ne:=wa.1
  have oe:=oa.1
  have pe:=la.1
  have qe:=ma.1
  have re:=na.1
  have se:=xa.1
  have qi:Ma.cell? ⟨sa,1,none⟩=some (.slice none 0 0):=bx_ ea.1 1
  have cg:=blk_frozen ea.1 1
  have te:=ua.1
  have ue:=va.1
  have ve:=wa.1
  have we:=oa.1
  have xe:=la.1
  have ye:=ma.1
  have ze:=na.1
  have Ae:=xa.1
  refine skip_ (w1:=?_) (by rfl) rfl ?_ ?_
  rotate_left
  ·
   go_simp
   rfl
  refine hK.out _ _ ⟨(cg_ (A.1)),(cg_ (A.2.1)),(cg_ (A.2.2.1)),(cg_ (A.2.2.2.1)),(cg_ (A.2.2.2.2.1)),(cg_ (A.2.2.2.2.2.1)),(cg_ (A.2.2.2.2.2.2.1)),(ce_ Y cb.1 ((ce_ Y cb.1 (A.2.2.2.2.2.2.2.1)))),(ce_ X cb.1 ((ce_ X cb.1 (A.2.2.2.2.2.2.2.2))))⟩ (fun A=>?_)
  clear hK K
  refine p_ ga ?_
  refine done_ (done_of ga.1 (by kernel_rfl)) ?_
  generalize hw_:((Ma.setCell ⟨sa,0,none⟩ (.int .i64 Ya)).setCell ⟨sa,1,none⟩ (.slice nc Za.length oc))=gc
  have Oc:=ws_ hw_ (Kd.S_mono (ok':=(fun k_=>k_≠m∧k_≠sa∧W≤k_∧k_<y∧k_<Ja)) (sf_ sa r.1 (fun _ hk=>hk.2.1)) (fun _ hk=>⟨hk.1,⟨hk.2.1,⟨hk.2.2.1,⟨hk.2.2.2.1,hk.2.2.2.2⟩⟩⟩⟩))
  have Pc:=ws_ hw_ (Kd.S_mono (ok':=(fun k_=>k_≠m∧Ja≤k_)) (sy_ Aa.1 ea.1) (fun _ hk=>⟨hk.1,hk.2⟩))
  replace b:=wq_ hw_ b
  replace a:=wq_ hw_ a
  replace l:=wq_ hw_ l
  replace c:=wq_ hw_ c
  replace ea:=wp_ hw_ #[.int .i64 Ya,.slice nc Za.length oc] ea
  replace D:=wb_ hw_ D
  clear hw_
  (try clear r Aa)
  have r:=Oc
  have Aa:=Pc
  clear Oc Pc
  have dg:=n2_ oa
  obtain⟨eg,fg,gg,ig,jg,kg⟩:=bc3_ c.1
  have lg:=n2_ la
  have mg:=n2_ ma
  have ng:=n2_ na
  obtain⟨og,pg,qg,rg⟩:=bc2_ ea.1
  obtain⟨Gd,Hd⟩:0≤(E:Int)∧(E:Int)<((s.length:Int):Int):=pq_
  obtain⟨go11,ri,rd,sd,gl11,cl11,HG11⟩:=Kd.S_form r.1 (by omega)
  (first|cases rd|(injection rd with ea_ en_ ec_;(first|subst ea_|(injection ea_ with ea_;subst ea_));subst ec_;clear en_))
  have GB11:=M_ sd
  have GG11:=M_ HG11
  clear sd gl11 HG11
  obtain⟨_,si,hcl11,hM11,hc,hfr11,_,_⟩:=Kd.S_elem r.1 z80 (E:Int) Gd Hd
  obtain⟨ed,rfl,Pe⟩:=k80_openM hM11
  have Qe:gc.cell? ⟨go11,(E:Int).toNat*2,none⟩=some (.int .i64 ((rd_T80 s E).f0)):=hc 0 _ rfl
  have Re:gc.cell? ⟨go11,(E:Int).toNat*2+1,none⟩=some (ed):=hc 1 _ rfl
  have hf11_0:gc.frozen? ⟨go11,(E:Int).toNat*2,none⟩=false:=hfr11 0
  have hf11_1:gc.frozen? ⟨go11,(E:Int).toNat*2+1,none⟩=false:=hfr11 1
  clear hcl11 hc hfr11 hM11
  replace Gd:=eq_true Gd;replace Hd:=eq_true Hd
  obtain⟨Id,fd,nb⟩:=Kd.S_fp (Kd.S_types (Kd.S_apart' (Aa.1) (Kd.S_typed r.1) (by decide)) ea.1 (by decide))
  have HX44:=M_ (show Kd.S k80 80 gc w.heap.size (fun k_=>((fun k_=>k_≠m∧k_≠sa)) k_∧¬((fun k_=>Id k_)) k_) (.slice (some ⟨go11,0,none⟩) s.length lb) s from (Kd.S_mono (sp_ r.1) (fun k_ hk=>⟨⟨hk.1,hk.2.1⟩,fun e_=>(fun ez_=>Nat.lt_irrefl _ (Nat.lt_of_lt_of_le hk.2.2.2.2 (nb _ ez_).1.1.1.2)) e_⟩)))
  obtain⟨oki44,ti,hcl44,hM44,ic,hfr44,hoki44,hH44⟩:=Kd.S_elem HX44.out z80 (E:Int) (of_decide_eq_true (by with_reducible assumption)) (by have h_:(E:Int)<((s.length:Int):Int):=of_decide_eq_true (by with_reducible assumption);first|exact h_|(have e_:=(Kd.S_reads' r.1).1;omega)|simpa using h_)
  obtain⟨Se,rfl,Te⟩:=k80_openM hM44
  have HP44:=Kd.S_seg hH44 (of_decide_eq_true (by with_reducible assumption)) (by have h_:(E:Int)<((s.length:Int):Int):=of_decide_eq_true (by with_reducible assumption);first|exact h_|(have e_:=(Kd.S_reads' r.1).1;omega)|simpa using h_) (seg:=[.int .i64 Ya,.slice nc Za.length oc]) (j:=0) (show 2≤2 from by decide) (x':=(⟨Ya,Za⟩:S80)) (k80_mkM _ _ _ (⟨Ya,Za⟩:S80) (Kd.S_mono fd (fun _ h_=>Or.inr (h_)))) (fun _ hk=>hk) (fun k_ hk_=>⟨⟨(nb k_ hk_).1.1.1.1,(nb k_ hk_).1.2⟩,fun e_=>((nb k_ hk_).1.1.2) (by rw[e_];rfl)⟩)
  have gd:=ic 0 _ rfl
  (try simp only[show (k80).sz=2 from rfl,Nat.mul_one,Nat.add_zero] at gd)
  have hf44_0:=hfr44 0
  (try simp only[show (k80).sz=2 from rfl,Nat.mul_one,Nat.add_zero] at hf44_0)
  have jd:=ic 1 _ rfl
  (try simp only[show (k80).sz=2 from rfl,Nat.mul_one,Nat.add_zero] at jd)
  have hf44_1:=hfr44 1
  (try simp only[show (k80).sz=2 from rfl,Nat.mul_one,Nat.add_zero] at hf44_1)
  clear hcl44 ic hfr44 hM44 hoki44 hH44
  try go_wp2_with (first|((with_reducible refine gate_store (t:=80) (p:=41) rfl ?_);refine store_event (t:=80) (p:=41) (v:=?vo_w45) (w1:=((gc.setCell ⟨go11,(E:Int).toNat*2,none⟩ (.int .i64 Ya)).setCell ⟨go11,(E:Int).toNat*2+1,none⟩ (.slice nc Za.length oc))) ?hg ?ho ?hn ?hr ?_;(case ho=>rfl);(case hg=>rfl);(case hn=>rfl);(case hr=>first|(go_simp;done)|(go_simp;rfl));intro Jd hw;have hg:gc.grownBy Jd (some go11):=(by rw[hw];exact HP44.2);have hp_:Kd.S k80 80 Jd w.heap.size (fun k_=>k_≠m∧k_≠sa) (.slice (some ⟨go11,0,none⟩) s.length lb) pd:=(by rw[hw,Ad.1];exact HP44.1);clear HP44;replace b:=bg_ b hg r;replace a:=bg_ a hg r;replace l:=bg_ l hg r;replace c:=bg_ c hg r;replace ea:=M_ (blk_grown (bq_ ea.1) hg (Kd.S_away r.1 (fun _ hk=>hk.2.1)));replace r:=M_ (hp_);replace D:=M_ ((by rw[hw];exact below_set (below_set (D.1) GB11.out) GB11.out:Below w.heap.size w Jd));clear Aa;clear hg hw hp_;obtain⟨sg,tg,ug,vg,wg,xg⟩:=bc3_ c.1;obtain⟨yg,zg,Ag,Bg,Cg,Dg⟩:=bc3_ l.1))
  refine bodyPost_ret (results_ct rfl _ _ ra 26 #[.int .i64 aa,.int .i64 (wrap64 (ba+1)),.slice (some ⟨go11,0,none⟩) s.length lb] (0,0) _ rfl (bp_ l.1) Tryz.underlying26 rfl (by kernel_rfl)) rfl ?_
  exact⟨_,rr_,Kd.S_mono (sy_ r.1 l.1) (fun _ hk=>trivial),hs_ D.1⟩
 have he:decide (0≤E)=false:=decide_eq_false c6
 clear c6
 have H':=M_ H
 clear H
 go_enter Tryz.func8,Tryz.ntmps8
 go_wp2_with (first|((with_reducible refine gd_ 2 rfl ?_);refine bV_ 2 #[.int .i64 ha,.int .i64 ia,.slice Xa F.length za] 26 ?_;intro R hg Gi b hb;have Bd:=gq_ hg D;replace D:=st_ D hb;clear hb hg)|((with_reducible refine gd_ 3 rfl ?_);refine bV_ 3 #[.slice ca M.length da,.int .i64 T,.int .i64 U,.string V] 29 ?_;intro m hg Hi a hb;have Cd:=gq_ hg D;replace D:=st_ D hb;obtain⟨fb,rb,b⟩:=nb_ b hg hb;clear hb hg)|((with_reducible refine gd_ 4 rfl ?_);refine bV_ 4 #[.int .i64 0,.int .i64 0,.slice none 0 0] 26 ?_;intro ra hg Ii l hb;have Dd:=gq_ hg D;replace D:=st_ D hb;obtain⟨gb,sb,b⟩:=nb_ b hg hb;obtain⟨Oa,ec,a⟩:=nb_ a hg hb;clear hb hg;have Eg:=n2_ fb;have Fg:=n2_ gb;obtain⟨Gg,Hg,Ig,Jg,Kg,Lg⟩:=bc3_ b.1)|((with_reducible refine gate_callee (f:=54) rfl ?_);refine gl_ (some 14) Tryz.func54 #[.agg #[.int .i64 ha,.int .i64 ia,.slice Xa F.length za]] ?_;(with_reducible refine(impl_copyPart.calls k ha ia _ _ F aa ba s _ ?_ ?_ A3.1).mono ?_);exact cp_ ((Kd.C_below ob.1 D.1));exact Gb.1;rintro e Ji ⟨ie,rfl,Pa,hb⟩;refine⟨_,rfl,?_⟩;obtain⟨W,fc⟩:=Kd.S_name Pa;have r:=M_ (Kd.S_lower (Kd.S_newB (Kd.S_gez fc Pa) (pb_ a.1)) (below_size (hs_ D.1)));obtain⟨b,a,l,D⟩:=u4_ hb b a l D;(try clear hb Pa))|((with_reducible refine gd_ 6 rfl ?_);refine bV_ 6 #[.int .i64 0,.int .i64 0,.slice none 0 0] 26 ?_;intro y hg Ki c hb;replace r:=M_ (Kd.S_below (Kd.S_ltz hg (sp_ r.1)) hb);have Ed:=gq_ hg D;replace D:=st_ D hb;obtain⟨tb,ja,b⟩:=nb_ b hg hb;obtain⟨ib,ta,a⟩:=nb_ a hg hb;obtain⟨ub,ka,l⟩:=nb_ l hg hb;clear hb hg;have Mg:=n2_ ja;have Ng:=n2_ ta;have Og:=n2_ ka;obtain⟨Pg,Qg,Rg,Sg,Tg,Ug⟩:=bc3_ c.1;obtain⟨O,Q,Be⟩:=Kd.S_slice r.1;subst Be;have Vg:=n2_ Oa;obtain⟨Wg,Xg,Yg,Zg,ah,bh,ch,dh⟩:=bc4_ a.1)|((with_reducible refine gate_callee (f:=55) rfl ?_);refine gl_ (some 21) Tryz.func55 #[.slice ca M.length da] ?_;(with_reducible refine(impl_Finger.calls k _ _ M L _ ?_ ?_ A4.1).mono ?_);exact Kd.C_below pb.1 (hs_ D.1);exact qb.1;rintro e Li ⟨rfl,hb⟩;refine⟨_,rfl,?_⟩;replace r:=M_ (Kd.S_below (sy_ r.1 c.1) hb);obtain⟨b,a,l⟩:=u3_ hb b a l;replace c:=by_ c #[.int .i64 aa,.int .i64 (wrap64 (ba+1)),.slice O s.length Q] hb;replace D:=st_ D hb;(try clear hb);obtain⟨eh,fh,gh,hh,ih,jh⟩:=bc3_ b.1)|((with_reducible refine gate_callee (f:=56) rfl ?_);refine gl_ (some 24) Tryz.func56 #[.agg #[.int .i64 ha,.int .i64 ia,.slice Xa F.length za],.int .i64 L] ?_;(with_reducible refine(impl_chainOf.calls k ha ia _ _ F L E _ ?_ ?_ A5.1).mono ?_);exact cp_ ((Kd.C_below ob.1 D.1));exact Gb.1;rintro e Mi ⟨rfl,hb⟩;refine⟨_,rfl,?_⟩;obtain⟨r,b,a,l,c,D⟩:=u6_ hb r b a l c D;(try clear hb)))
 go_loopg [11] k (fun kq kh w'=>∃(z:Int),kh=.int .i64 z∧Aside0 (impl_PutIn.l0 kq L z M T U V aa (wrap64 (ba+1)) s=some (r1,r2,r3,r4))∧Aside0 (kq≤k)∧Aside0 (Kd.S k80 80 w' w.heap.size (fun k_=>k_≠m∧W≤k_∧k_<y) (.slice O s.length Q) s)∧Aside0 (w'.heap[R]?=some (.cells #[.int .i64 ha,.int .i64 ia,(.slice Xa F.length za)] 26 (0,0)))∧Aside0 (w'.heap[m]?=some (.cells #[(.slice ca M.length da),.int .i64 T,.int .i64 U,.string V] 29 (0,0)))∧Aside0 (w'.heap[ra]?=some (.cells #[.int .i64 0,.int .i64 0,(.slice none 0 0)] 26 (0,0)))∧Aside0 (w'.heap[y]?=some (.cells #[.int .i64 aa,.int .i64 (wrap64 (ba+1)),(.slice O s.length Q)] 26 (0,0)))∧Aside0 (Below w.heap.size w w'))
 case atStart=>exact⟨(0),rs_,H',⟨Nat.le_refl _⟩,⟨Kd.S_mono (sp_ r.1) (fun _ hk=>⟨hk.1.2,⟨hk.1.1.2,hk.2⟩⟩)⟩,⟨bq_ b.1⟩,⟨bq_ a.1⟩,⟨bq_ l.1⟩,⟨bq_ c.1⟩,⟨hs_ D.1⟩⟩
 case round=>
  clear H'
  obtain⟨z,rfl,HA,kd,d,b,a,l,c,D⟩:=hrel
  cases gk with
  | zero=>exact absurd HA.1 (by simp[impl_PutIn.l0])
  | succ k1=>
   have H:=HA.1
   clear HA
   simp only[impl_PutIn.l0] at H
   have Qc:=M_ H
   clear H
   go_upto_region 10 with(fail)
   go_cut [58] (fun lh wc=>∃(kq:Nat) (Ib:Bool),lh=.bool Ib∧Aside0 (impl_PutIn.j1 kq L z Ib M T U V aa (wrap64 (ba+1)) s=some (r1,r2,r3,r4))∧Aside0 (kq≤k1)∧Aside0 (Kd.S k80 80 wc w.heap.size (fun k_=>k_≠m∧W≤k_∧k_<y) (.slice O s.length Q) s)∧Aside0 (wc.heap[R]?=some (.cells #[.int .i64 ha,.int .i64 ia,(.slice Xa F.length za)] 26 (0,0)))∧Aside0 (wc.heap[m]?=some (.cells #[(.slice ca M.length da),.int .i64 T,.int .i64 U,.string V] 29 (0,0)))∧Aside0 (wc.heap[ra]?=some (.cells #[.int .i64 0,.int .i64 0,(.slice none 0 0)] 26 (0,0)))∧Aside0 (wc.heap[y]?=some (.cells #[.int .i64 aa,.int .i64 (wrap64 (ba+1)),(.slice O s.length Q)] 26 (0,0)))∧Aside0 (Below w.heap.size w wc))
   case first=>
    have H:=Qc.1
    clear Qc
    replace H:=ie_ H;rcases H with⟨Rc,H⟩|⟨Rc,H⟩
    ·
     have yb:=decide_eq_true Rc
     clear Rc
     (first|rw[yb]|(simp only[i64_w,i32_w];rw[yb])|skip)
     replace H:=id_ H;obtain⟨mh,H⟩:=H
     have H':=M_ H
     clear H
     have nh:=n2_ ja
     have oh:=n2_ ta
     have ph:=n2_ ka
     obtain⟨qh,rh,sh,th,uh,vh⟩:=bc3_ c.1
     obtain⟨pc,qc⟩:0≤(z:Int)∧z<(s.length:Int):=pq_
     obtain⟨wh,Ue,Ve,Ce,De,Sc,Zb,ac⟩:=at_T80 (Kd.S_reads' d.1).2.2 z pc qc
     cases Ce
     obtain⟨xh,ld,md,rc⟩:=Kd.S_get d.1 z80 z pc (by first|exact qc|exact of_decide_eq_true (by with_reducible assumption)|(have e_:=(Kd.S_reads' d.1).1;omega))
     obtain⟨Ee,rfl,zb⟩:=k80_openM md
     have db:=rc 1 _ rfl
     rw[add_field _ _ 1 (by omega)] at db
     replace db:=Option.some.inj (db.symm.trans Sc)
     rw[db] at zb
     have Fe:=M_ (show Kd.S k29 29 _ _ _ _ ((rd_T80 s z).f1) from zb)
     clear db zb rc ld
     have Ge:=M_ ac
     have He:=M_ Zb
     clear ac Zb
     replace pc:=eq_true pc;replace qc:=eq_true qc
     go_wp2
     go_meet
     case rel=>exact⟨_,(decide (((rd_T80 s z).f0)≤L)),rs_,H',⟨by have:=kd.1;first|omega|exact Nat.le_refl _⟩,⟨sp_ d.1⟩,⟨bq_ b.1⟩,⟨bq_ a.1⟩,⟨bq_ l.1⟩,⟨bq_ c.1⟩,⟨hs_ D.1⟩⟩
    have yb:decide (z<(s.length:Int))=false:=decide_eq_false Rc
    clear Rc
    (first|rw[yb]|(simp only[i64_w,i32_w];rw[yb])|skip)
    have H':=M_ H
    clear H
    have yh:=n2_ ja
    have zh:=n2_ ta
    have Ah:=n2_ ka
    obtain⟨Bh,Ch,Dh,Eh,Fh,Gh⟩:=bc3_ c.1
    go_wp2
    go_meet
    case rel=>exact⟨_,(false),rs_,H',⟨by have:=kd.1;first|omega|exact Nat.le_refl _⟩,⟨sp_ d.1⟩,⟨bq_ b.1⟩,⟨bq_ a.1⟩,⟨bq_ l.1⟩,⟨bq_ c.1⟩,⟨hs_ D.1⟩⟩
   case rest=>
    clear Qc
    obtain⟨kq,Ib,rfl,HA,HJ66,d,b,a,l,c,D⟩:=hcut
    cases kq with
    | zero=>exact absurd HA.1 (by simp[impl_PutIn.j1])
    | succ Ie=>
     have H:=HA.1
     clear HA
     simp only[impl_PutIn.j1] at H
     replace H:=ib_ H;rcases H with⟨rfl,H⟩|⟨rfl,H⟩
     ·
      have H':=M_ H
      clear H
      go_wp2
      go_roundg Ie
      case measure=>have:=kd.1;have:=HJ66.1;omega
      case rel=>exact⟨(wrap64 (z+1)),rs_,H',⟨by have:=kd.1;have:=HJ66.1;omega⟩,⟨sp_ d.1⟩,⟨bq_ b.1⟩,⟨bq_ a.1⟩,⟨bq_ l.1⟩,⟨bq_ c.1⟩,⟨hs_ D.1⟩⟩
     replace H:=bi_ H;obtain⟨⟨Fb,bc,cc,dc⟩,Hh,H⟩:=H;(try dsimp only at H)
     obtain⟨B,hy_⟩:∃y_:List S29,y_=(([(⟨Fb,bc,cc,dc⟩:S29)]:List S29)):=⟨_,rfl⟩
     replace H:(if 0≤z then (if z≤(s.length:Int) then ((some (s.drop (z:Int).toNat:List S80)).bind fun Na=>((some (s.take (z:Int).toNat:List S80)).bind fun Ba=>(if ([]:List S80).length+Ba.length<4398046511104 then ((some (([]:List S80)++Ba:List S80)).bind fun Ea=>(if Ea.length<4398046511104 then ((some (Ea++[(⟨L,B⟩:S80)]:List S80)).bind fun Ca=>(if Ca.length+Na.length<4398046511104 then (some (aa,(wrap64 (ba+1)),(Ca++Na),true)) else (none))) else (none))) else (none)))) else (none)) else (none))=some (r1,r2,r3,r4):=hm_
     have Md:=M_ hy_;clear hy_
     replace H:=in_ H;obtain⟨Nd,H⟩:=H
     have Ih:=eq_true Nd
     have Jh:=decide_eq_true Nd
     clear Nd
     replace H:=in_ H;obtain⟨Od,H⟩:=H
     have Kh:=eq_true Od
     have Lh:=decide_eq_true Od
     clear Od
     obtain⟨Na,hy_⟩:∃y_:List S80,y_=(s.drop (z:Int).toNat):=⟨_,rfl⟩
     replace H:((some (s.take (z:Int).toNat:List S80)).bind fun Ba=>(if ([]:List S80).length+Ba.length<4398046511104 then ((some (([]:List S80)++Ba:List S80)).bind fun Ea=>(if Ea.length<4398046511104 then ((some (Ea++[(⟨L,B⟩:S80)]:List S80)).bind fun Ca=>(if Ca.length+Na.length<4398046511104 then (some (aa,(wrap64 (ba+1)),(Ca++Na),true)) else (none))) else (none))) else (none)))=some (r1,r2,r3,r4):=hm_
     have Jb:=M_ hy_;clear hy_
     obtain⟨Ba,hy_⟩:∃y_:List S80,y_=(s.take (z:Int).toNat):=⟨_,rfl⟩
     replace H:(if ([]:List S80).length+Ba.length<4398046511104 then ((some (([]:List S80)++Ba:List S80)).bind fun Ea=>(if Ea.length<4398046511104 then ((some (Ea++[(⟨L,B⟩:S80)]:List S80)).bind fun Ca=>(if Ca.length+Na.length<4398046511104 then (some (aa,(wrap64 (ba+1)),(Ca++Na),true)) else (none))) else (none))) else (none))=some (r1,r2,r3,r4):=hm_
     have Tc:=M_ hy_;clear hy_
     replace H:=im_ H;obtain⟨Uc,H⟩:=H
     obtain⟨Ea,hy_⟩:∃y_:List S80,y_=(([]:List S80)++Ba):=⟨_,rfl⟩
     replace H:(if Ea.length<4398046511104 then ((some (Ea++[(⟨L,B⟩:S80)]:List S80)).bind fun Ca=>(if Ca.length+Na.length<4398046511104 then (some (aa,(wrap64 (ba+1)),(Ca++Na),true)) else (none))) else (none))=some (r1,r2,r3,r4):=hm_
     have Vc:=M_ hy_;clear hy_
     replace H:=im_ H;obtain⟨Pd,H⟩:=H
     obtain⟨Ca,hy_⟩:∃y_:List S80,y_=(Ea++[(⟨L,B⟩:S80)]):=⟨_,rfl⟩
     replace H:(if Ca.length+Na.length<4398046511104 then (some (aa,(wrap64 (ba+1)),(Ca++Na),true)) else (none))=some (r1,r2,r3,r4):=hm_
     have Qd:=M_ hy_;clear hy_
     replace H:=im_ H;obtain⟨Rd,H⟩:=H
     obtain⟨Wc,hy_⟩:∃y_:List S80,y_=(Ca++Na):=⟨_,rfl⟩
     replace H:(some (aa,(wrap64 (ba+1)),Wc,true))=some (r1,r2,r3,r4):=hm_
     have Sd:=M_ hy_;clear hy_
     simp only[Option.some.injEq,Prod.mk.injEq] at H
     obtain⟨rfl,rfl,rfl,rfl⟩:=H
     have Mh:=n2_ rb
     have Nh:=n2_ Oa
     have Oh:=n2_ ib
     obtain⟨Ph,Qh,Rh,Sh,Th,Uh,Vh,Wh⟩:=bc4_ a.1
     try go_wp2_with (first|((with_reducible refine gate_callee (f:=58) rfl ?_);refine gl_ (some 63) Tryz.func58 #[.agg #[.slice ca M.length da,.int .i64 T,.int .i64 U,.string V]] ?_;(with_reducible refine(impl_copyAlarm.calls _ _ M T U V Fb bc cc dc _ ?_ ?_ Hh.1).mono ?_);exact cp_ ((Kd.C_below pb.1 D.1));exact qb.1;rintro e Xh ⟨ui,rfl,Pa,hb⟩;refine⟨_,rfl,?_⟩;obtain⟨fa,Xc⟩:=Kd.R_name Pa;replace d:=su_ Xc (sp_ d.1) hb;have Ab:=rg_ Xc Pa D;obtain⟨b,a,l,c,D⟩:=u5_ hb b a l c D;(try clear hb Pa);obtain⟨td,ud,Je⟩:=Kd.R_slice Ab.1;subst Je)|((with_reducible refine gd_ 64 rfl ?_);refine Kd.S_lit2 k29 w.heap.size 29 ?hg (N:=64) ?hd (x:=(⟨Fb,bc,cc,dc⟩:S29)) (cs:=[.slice td Fb.length ud,.int .i64 bc,.int .i64 cc,.string dc]) (ok:=(fun k_=>k_≠m)) (okp:=(fun k_=>some k_=(.slice td Fb.length ud:Value).ownBlock)) (fun k_=>fa≤k_) ?hr ?hp (fun k_ hk_=>(fun e_=>e_.1.2) ((Kd.R_types (Ab.1) a.1 (by decide)).1 k_ hk_.symm)) (fun k_ hk_=>((Kd.R_mono (ok':=(fun k_=>k_≠m)) (Kd.R_types (Ab.1) a.1 (by decide)) (fun k_ hk=>hk.2))).1 k_ hk_.symm) ?hf ?aS ?_;(case hd=>rfl);(case hg=>rfl);(case hr=>first|(go_simp;done)|(go_simp;rfl));(case hp=>exact(k29_mkM _ _ _ (⟨Fb,bc,cc,dc⟩:S29) (Kd.R_mono (Kd.R_tight rfl (Kd.R_mono (ok':=(fun k_=>k_≠m)) (Kd.R_types (Ab.1) a.1 (by decide)) (fun k_ hk=>hk.2))) (fun _ h_=>h_))));(case hf=>exact(show ∀k_,Xh.heap.size≤k_→((fun k_=>k_≠m)) k_ from fun k_ hk=>Kd.freshB (g:=m) (o:=.cells #[.slice ca M.length da,.int .i64 T,.int .i64 U,.string V] 29 (0,0)) (pb_ a.1) k_ hk) _ (Nat.le_refl _));(case aS=>exact(below_size (hs_ D.1)));intro vi Pi Yc hb hnew_;rw[←Md.1] at Yc;replace d:=M_ (Kd.S_elder' (sp_ d.1) hnew_ hb);have G:=M_ (Yc);obtain⟨b,a,l,c,D⟩:=u5_ hb b a l c D;clear Ab;clear hb hnew_ Yc;obtain⟨I,J,Ke⟩:=Kd.S_slice G.1;subst Ke)|((with_reducible refine gd_ 12 rfl ?_);refine bV_ 12 #[.int .i64 0,.slice none 0 0] 80 ?_;intro q hg Yh u hb;replace d:=M_ (Kd.S_below (Kd.S_ltz hg (Kd.S_elderB (sp_ d.1) q (Nat.le_of_eq hg.symm))) hb);replace G:=M_ (Kd.S_below (Kd.S_ltz hg (sp_ G.1)) hb);have Zh:=gq_ hg D;replace D:=st_ D hb;obtain⟨Td,jc,b⟩:=nb_ b hg hb;obtain⟨Ud,kc,a⟩:=nb_ a hg hb;obtain⟨Vd,lc,l⟩:=nb_ l hg hb;obtain⟨mc,Bb,c⟩:=nb_ c hg hb;clear hb hg;have ai:=n2_ jc;have bi:=n2_ kc;have ci:=n2_ lc;have di:=n2_ Bb;obtain⟨ei,fi,gi,hi⟩:=bc2_ u.1))
     generalize hw_:((Yh.setCell ⟨q,0,none⟩ (.int .i64 L)).setCell ⟨q,1,none⟩ (.slice I B.length J))=Le
     have Oc:=ws_ hw_ (Kd.S_mono (ok':=(fun k_=>some k_≠(.slice I B.length J:Value).ownBlock∧k_≠m∧W≤k_∧k_<y∧k_<fa∧k_≠q∧k_<q)) (sf_ q d.1 (fun _ hk=>hk.1.2)) (fun _ hk=>⟨hk.1.1.2,⟨hk.1.1.1.1.1,⟨hk.1.1.1.1.2.1,⟨hk.1.1.1.1.2.2,⟨hk.1.1.1.2,⟨hk.1.2,hk.2⟩⟩⟩⟩⟩⟩))
     have Pc:=ws_ hw_ (Kd.S_mono (ok':=(fun k_=>k_≠m∧(some k_=(.slice I B.length J:Value).ownBlock∨fa≤k_)∧k_<q)) (sy_ G.1 u.1) (fun _ hk=>⟨hk.1.1,⟨hk.1.2,hk.2⟩⟩))
     replace b:=wq_ hw_ b
     replace a:=wq_ hw_ a
     replace l:=wq_ hw_ l
     replace c:=wq_ hw_ c
     replace u:=wp_ hw_ #[.int .i64 L,.slice I B.length J] u
     replace D:=wb_ hw_ D
     clear hw_
     (try clear d G)
     have d:=Oc
     have G:=Pc
     clear Oc Pc
     have qp101:(z:Int)≤((s.length:Int):Int):=of_decide_eq_true (by with_reducible assumption)
     have nd:(0:Int)≤(z:Int):=of_decide_eq_true (by with_reducible assumption)
     have hlxp101:=(Kd.S_reads' d.1).1
     obtain⟨i0p101,Cb,_,hszp101,_⟩:=info_parts info80
     have hcutp101:=cut_to (P:=Tryz.prog) 24 80 .i64 Tryz.underlying24 Cb O s.length Q z (of_decide_eq_true (by with_reducible assumption)) qp101 (Kd.S_reads' d.1).2.1
     have hcutbp101:=cut_from (P:=Tryz.prog) 24 80 .i64 Tryz.underlying24 Cb 2 hszp101 O s.length Q z nd qp101
     have KLp101:=M_ (show (z:Int).toNat≤s.length from by omega)
     obtain⟨GXp101,hsrp101,hspp101,hglp101⟩:=Kd.S_split d.1 ((z:Int).toNat) KLp101.out
     have HGp101:=M_ (show ∀k_,GXp101 k_→k_<q from fun k_ hk=>(hglp101 k_ hk).2.2.2.2.2.2)
     have hyp101:Ba.length=(z:Int).toNat:=(by rw[Tc.1,List.length_take];omega)
     rw[←Tc.1] at hspp101
     rw[←hyp101] at hspp101 hcutp101
     obtain⟨Ap101b,hAbp101⟩:∃A1,A1=(if Q=(z:Int).toNat then O else (O:Option Addr).map (·.add ((z:Int).toNat*2))):=⟨_,rfl⟩
     obtain⟨cp101b,hcbp101⟩:∃c1,c1=Q-(z:Int).toNat:=⟨_,rfl⟩
     have hybp101:Na.length=s.length-(z:Int).toNat:=(by rw[Jb.1,List.length_drop])
     rw[←hybp101,←hAbp101,←hcbp101] at hcutbp101
     have KAp101:=M_ hAbp101
     clear hcbp101 hAbp101 hybp101 hlxp101
     obtain⟨GXp101P,hPPp101,hlPp101⟩:=Kd.S_fp hspp101
     have HGp101P:=M_ (show ∀k_,GXp101P k_→k_<q from fun k_ hk=>(hlPp101 k_ hk).1.1.2.2.2.2.2.2)
     obtain⟨GXp101u0,hPXp101u0,hPlp101u0⟩:=Kd.S_fp (G.1)
     have HGp101u0:=M_ (show ∀k_,GXp101u0 k_→k_<q from fun k_ hk_=>(hPlp101u0 k_ hk_).1.2.2)
     have nup101u0:=M_ (Kd.S_mono hPXp101u0 (fun k_ hk_=>(⟨⟨(hPlp101u0 k_ hk_).1,hk_⟩,fun g_=>Or.elim (hPlp101u0 k_ hk_).1.2.1 (fun e3_=>(hglp101 k_ g_).1 e3_) (fun e3_=>Nat.lt_irrefl _ (Nat.lt_of_lt_of_le (hglp101 k_ g_).2.2.2.2.1 e3_))⟩:(_∧GXp101u0 k_)∧¬GXp101 k_)))
     have Ka:=M_ (Kd.S_mono (Kd.S_mono hPPp101 (fun k_ hk_=>(⟨(hlPp101 k_ hk_).1,hk_⟩:_∧GXp101P k_))) (fun k_ hk=>(⟨hk,fun g_=>Or.elim (hPlp101u0 k_ g_).1.2.1 (fun e3_=>hk.1.1.1 e3_) (fun e3_=>Nat.lt_irrefl _ (Nat.lt_of_lt_of_le hk.1.1.2.2.2.2.1 e3_))⟩:_∧¬GXp101u0 k_)))
     clear d
     have d:=M_ hsrp101
     clear G
     have G:=nup101u0
     clear nup101u0 hPXp101u0 hPlp101u0 hsrp101 hspp101 hglp101 hPPp101 hlPp101 hyp101 Cb hszp101
     replace qp101:=eq_true qp101
     obtain⟨d,G,Ka,b,a,l,c,u,D⟩:=y9_ d G Ka b a l c u D
     refine start_ (n:=15) (S:=fun w'=>c_ w' y 0 (.int .i64 aa)∧c_ w' y 1 (.int .i64 (wrap64 (ba+1)))∧c_ w' y 2 (.slice O s.length Q)∧c_ w' q 0 (.int .i64 L)∧c_ w' q 1 (.slice I B.length J)) (ds:=[14]) (b_ 0 15) (by kernel_rfl) rfl rfl (f3_ c.1 (e2_ u.1)) (fun A=>?_);refine with_tabW impl_PutIn.tab13 impl_PutIn.bits13 (fun ga sc=>?_)
     generalize Le.drew=wi at d G Ka b a l c u D A ⊢
     refine p_ ga ?_
     refine qw_ 2 (m_ 15 5) ga ?_
     refine qw_ 8 (m_ 15 261) ga ?_
     refine qw_ 10 (m_ 15 1285) ga ?_
     refine qt_ 1 (m_ 15 1287) ga sc A ?_
     refine qw_ 3 (m_ 15 1295) ga ?_
     refine qt_ 5 (m_ 15 1327) ga sc A ?_
     refine qt_ 9 (m_ 15 1839) ga sc A ?_
     refine qw_ 11 (m_ 15 3887) ga ?_
     refine join_ (σ:=Value×Nat) 4 (m_ 15 3967) (fun s_=>[(70,s_.1),(72,.slice (some ⟨s_.2,0,none⟩) 1 1)]) (fun s_ w'=>(c_ w' y 0 (.int .i64 aa)∧c_ w' y 1 (.int .i64 (wrap64 (ba+1)))∧c_ w' y 2 (.slice O s.length Q)∧c_ w' q 0 (.int .i64 L)∧c_ w' q 1 (.slice I B.length J))∧(Kd.S k29 29 w' w.heap.size (fun k_=>k_≠m∧GXp101u0 k_∧k_<q∧¬GXp101 k_∧(some k_=(.slice I B.length J:Value).ownBlock∨fa≤k_)) (.slice I B.length J) B)∧(Kd.S k80 80 w' w.heap.size (fun k_=>some k_≠(.slice I B.length J:Value).ownBlock∧some k_≠(.slice O s.length Q:Value).ownBlock∧k_≠m∧k_≠q∧k_≠s_.2∧¬GXp101 k_∧¬GXp101u0 k_) s_.1 Ea)∧(Kd.S (Kd.opt k80) 80 w' w.heap.size (fun k_=>some k_≠(.slice I B.length J:Value).ownBlock∧some k_≠(s_.1:Value).ownBlock∧k_≠m∧k_≠q∧k_≠s_.2∧W≤k_∧GXp101 k_∧k_<y∧k_<q∧k_<fa) (.slice O s.length Q) (Kd.gap ((z:Int).toNat) s))∧(w'.heap[R]?=some (.cells #[.int .i64 ha,.int .i64 ia,.slice Xa F.length za] 26 (0,0)))∧(w'.heap[m]?=some (.cells #[.slice ca M.length da,.int .i64 T,.int .i64 U,.string V] 29 (0,0)))∧(w'.heap[ra]?=some (.cells #[.int .i64 0,.int .i64 0,.slice none 0 0] 26 (0,0)))∧(w'.heap[y]?=some (.cells #[.int .i64 aa,.int .i64 (wrap64 (ba+1)),.slice O s.length Q] 26 (0,0)))∧(w'.heap[q]?=some (.cells #[.int .i64 L,.slice I B.length J] 80 (0,0)))∧(w'.heap[s_.2]?=some (.cells #[.int .i64 L,.slice I B.length J] 80 (0,0)))∧(w.heap.size≤s_.2)∧(w.heap.size≤s_.2)∧(R≠s_.2)∧(s_.2≠R)∧(m≠s_.2)∧(s_.2≠m)∧(ra≠s_.2)∧(s_.2≠ra)∧(y≠s_.2)∧(s_.2≠y)∧(q≠s_.2)∧(s_.2≠q)∧(Below w.heap.size w w')) ?_ ?_
     rotate_left
     ·
      intro wb
      refine two_ (i:=4) (j:=6) (Ni:=some 70) (Nj:=some 72) (m_ 15 3903) (m_ 15 3951) rfl rfl rfl rfl (two_of ga.1 (by kernel_rfl)) (by decide) (by decide) (fun K hK=>?_) (fun K hK=>?_)
      ·
       skip
       refine Kd.S_append_part_step k80 (w0:=w) w.heap.size (by rfl) (.const (.slice none 0 0)) (.tmp 69) 24 80 (.agg #[(.int .i64 0),(.slice none 0 0)]) 32 rfl Tryz.underlying24 info80 rfl (by decide) (by omega) (.slice none 0 0) ([]:List S80) Ba _ _ _ (fun k_=>some k_≠(.slice O s.length Q:Value).ownBlock∧some k_≠(.slice I B.length J:Value).ownBlock∧k_≠m∧k_≠q∧¬GXp101 k_∧¬GXp101u0 k_) (fun k_=>some k_≠(.slice I B.length J:Value).ownBlock∧k_≠m∧W≤k_∧k_<y∧k_<fa∧k_≠q∧k_<q∧(¬GXp101 k_∨some k_=(.slice O Ba.length Q:Value).ownBlock)∧GXp101P k_∧¬GXp101u0 k_) rfl rfl ?aR (fun k_ hx_ ho_=>by have hz_:((((fun k_=>some k_≠(.slice I B.length J:Value).ownBlock∧k_≠m∧W≤k_∧k_<y∧k_<fa∧k_≠q∧k_<q∧(¬GXp101 k_∨some k_=(.slice O Ba.length Q:Value).ownBlock)∧GXp101P k_∧¬GXp101u0 k_)) k_∧¬GXp101 k_)∧some k_≠(.slice O s.length Q:Value).ownBlock):=⟨⟨hx_,fun g_=>(hx_.2.2.2.2.2.2.2.1).elim (fun h_=>h_ g_) (fun h_=>ho_ h_)⟩,fun e_=>ho_ (e_.trans Kd.own_len)⟩;exact⟨⟨hz_.2,⟨hz_.1.1.1,⟨hz_.1.1.2.1,⟨hz_.1.1.2.2.2.2.2.1,⟨hz_.1.2,hz_.1.1.2.2.2.2.2.2.2.2.2⟩⟩⟩⟩⟩,(by simp[Value.ownBlock])⟩) ?aF ?aO ?aB ?aS ?aL ?_
       (case aR=>exact(Kd.S_mono (Ka.1) (fun k_ hk=>⟨hk.1.1.1.1,⟨hk.1.1.1.2.1,⟨hk.1.1.1.2.2.1,⟨hk.1.1.1.2.2.2.1,⟨hk.1.1.1.2.2.2.2.1,⟨hk.1.1.1.2.2.2.2.2.1,⟨hk.1.1.1.2.2.2.2.2.2,⟨hk.1.1.2,⟨hk.1.2,hk.2⟩⟩⟩⟩⟩⟩⟩⟩⟩)))
       (case aB=>exact(hs_ D.1))
       (case aF=>exact(fun k_ hk=>⟨Kd.fresh' (Kd.S_lt (sp_ d.1)) k_ hk,Kd.fresh' (Kd.S_lt (sp_ G.1)) k_ hk,Kd.freshB (g:=m) (o:=.cells #[.slice ca M.length da,.int .i64 T,.int .i64 U,.string V] 29 (0,0)) (pb_ a.1) k_ hk,Kd.freshB (g:=q) (o:=.cells #[.int .i64 L,.slice I B.length J] 80 (0,0)) (pb_ u.1) k_ hk,(fun g_=>Nat.lt_irrefl _ (Nat.lt_of_lt_of_le (Nat.lt_trans (HGp101.out k_ g_) (blk_lt (pb_ u.1))) hk)),(fun g_=>Nat.lt_irrefl _ (Nat.lt_of_lt_of_le (Nat.lt_trans (HGp101u0.out k_ g_) (blk_lt (pb_ u.1))) hk))⟩))
       (case aO=>exact((Kd.S_nil _ _ _ _ _)))
       (case aS=>exact(below_size (hs_ D.1)))
       (case aL=>have:=Uc.1;omega)
       intro Db Me ho hb hg hat
       rw[←Vc.1] at ho
       replace d:=M_ (Kd.S_after (Kd.S_apart_nil (sp_ d.1)) hg hat)
       replace b:=M_ (blk_grown (bq_ b.1) hg (by simp[Value.ownBlock]))
       replace a:=M_ (blk_grown (bq_ a.1) hg (by simp[Value.ownBlock]))
       replace l:=M_ (blk_grown (bq_ l.1) hg (by simp[Value.ownBlock]))
       replace c:=M_ (blk_grown (bq_ c.1) hg (by simp[Value.ownBlock]))
       replace G:=M_ (Kd.S_grown (sp_ G.1) hg (fun _ _=>by simp[Value.ownBlock]))
       replace u:=M_ (blk_grown (bq_ u.1) hg (by simp[Value.ownBlock]))
       replace D:=M_ (hb)
       have pa:=M_ (ho)
       clear Ka
       clear ho hb hg hat
       refine ho_ hK (f3_ c.1 (e2_ u.1)) (fun A=>?_)
       refine o1_ 6 (m_ 15 3967) ga (fun K hK=>?_)
       refine box_stepL ?hg (N:=72) ?hd (cs:=#[.int .i64 L,.slice I B.length J]) (t:=80) ?hr ?_;(case hd=>rfl);(case hg=>rfl);(case hr=>first|(go_simp;done)|(go_simp;rfl))
       intro Z hg Ne bb hb
       replace d:=se_ d hg hb
       replace G:=sb_ G hb
       replace pa:=se_ pa hg hb
       have qa:=M_ (bb)
       have Kb:=gq_ hg D
       have Lb:=gq_ hg D
       replace D:=st_ D hb
       have Qa:=nk_ b hg
       have Ra:=Ne_.mk (ng_ b.1 hg)
       replace b:=bk2_ b hb
       have Sa:=nk_ a hg
       have Ta:=Ne_.mk (ng_ a.1 hg)
       replace a:=bk2_ a hb
       have Fa:=nk_ l hg
       have Ua:=Ne_.mk (ng_ l.1 hg)
       replace l:=bk2_ l hb
       have ya:=nk_ c hg
       have Ga:=Ne_.mk (ng_ c.1 hg)
       replace c:=bk2_ c hb
       have Va:=nk_ u hg
       have Wa:=Ne_.mk (ng_ u.1 hg)
       replace u:=bk2_ u hb
       clear hb bb hg
       refine ho_ hK (f3_ c.1 (e2_ u.1)) (fun A=>?_)
       exact norm_ (by simp only[putAll,fr_]) (wb (Db,Z) _ ⟨A,(Kd.S_mono (sp_ G.1) (fun _ hk=>⟨hk.1.1.1,⟨hk.1.2,⟨hk.1.1.2.2,⟨hk.2,hk.1.1.2.1⟩⟩⟩⟩)),(Kd.S_mono (sp_ pa.1) (fun _ hk=>⟨hk.1.2.1,⟨hk.1.1,⟨hk.1.2.2.1,⟨hk.1.2.2.2.1,⟨hk.2,⟨hk.1.2.2.2.2.1,hk.1.2.2.2.2.2⟩⟩⟩⟩⟩⟩)),(Kd.S_mono (sp_ d.1) (fun _ hk=>⟨hk.1.1.1.1,⟨hk.1.2,⟨hk.1.1.1.2.1,⟨hk.1.1.1.2.2.2.2.2.1,⟨hk.2,⟨hk.1.1.1.2.2.1,⟨hk.1.1.2,⟨hk.1.1.1.2.2.2.1,⟨hk.1.1.1.2.2.2.2.2.2,hk.1.1.1.2.2.2.2.1⟩⟩⟩⟩⟩⟩⟩⟩⟩)),(pb_ b.1),(pb_ a.1),(pb_ l.1),(pb_ c.1),(pb_ u.1),(pb_ qa.1),Kb.1,Lb.1,Qa.1,Ra.1,Sa.1,Ta.1,Fa.1,Ua.1,ya.1,Ga.1,Va.1,Wa.1,(hs_ D.1)⟩)
      skip
      refine box_stepL ?hg (N:=72) ?hd (cs:=#[.int .i64 L,.slice I B.length J]) (t:=80) ?hr ?_;(case hd=>rfl);(case hg=>rfl);(case hr=>first|(go_simp;done)|(go_simp;rfl))
      intro Z hg Me bb hb
      replace d:=se_ d hg hb
      replace G:=sb_ G hb
      replace Ka:=se_ Ka hg hb
      have qa:=M_ (bb)
      have Kb:=gq_ hg D
      have Lb:=gq_ hg D
      replace D:=st_ D hb
      have Qa:=nk_ b hg
      have Ra:=Ne_.mk (ng_ b.1 hg)
      replace b:=bk2_ b hb
      have Sa:=nk_ a hg
      have Ta:=Ne_.mk (ng_ a.1 hg)
      replace a:=bk2_ a hb
      have Fa:=nk_ l hg
      have Ua:=Ne_.mk (ng_ l.1 hg)
      replace l:=bk2_ l hb
      have ya:=nk_ c hg
      have Ga:=Ne_.mk (ng_ c.1 hg)
      replace c:=bk2_ c hb
      have Va:=nk_ u hg
      have Wa:=Ne_.mk (ng_ u.1 hg)
      replace u:=bk2_ u hb
      clear hb bb hg
      refine ho_ hK (f3_ c.1 (e2_ u.1)) (fun A=>?_)
      refine o1_ 4 (m_ 15 3967) ga (fun K hK=>?_)
      refine Kd.S_append_part_step k80 (w0:=w) w.heap.size (by rfl) (.const (.slice none 0 0)) (.tmp 69) 24 80 (.agg #[(.int .i64 0),(.slice none 0 0)]) 32 rfl Tryz.underlying24 info80 rfl (by decide) (by omega) (.slice none 0 0) ([]:List S80) Ba _ _ _ (fun k_=>some k_≠(.slice O s.length Q:Value).ownBlock∧some k_≠(.slice I B.length J:Value).ownBlock∧k_≠m∧k_≠q∧k_≠Z∧¬GXp101 k_∧¬GXp101u0 k_) (fun k_=>some k_≠(.slice I B.length J:Value).ownBlock∧k_≠m∧W≤k_∧k_<y∧k_<fa∧k_≠q∧k_<q∧(¬GXp101 k_∨some k_=(.slice O Ba.length Q:Value).ownBlock)∧GXp101P k_∧¬GXp101u0 k_∧k_≠Z) rfl rfl ?aR (fun k_ hx_ ho_=>by have hz_:((((fun k_=>some k_≠(.slice I B.length J:Value).ownBlock∧k_≠m∧W≤k_∧k_<y∧k_<fa∧k_≠q∧k_<q∧(¬GXp101 k_∨some k_=(.slice O Ba.length Q:Value).ownBlock)∧GXp101P k_∧¬GXp101u0 k_∧k_≠Z)) k_∧¬GXp101 k_)∧some k_≠(.slice O s.length Q:Value).ownBlock):=⟨⟨hx_,fun g_=>(hx_.2.2.2.2.2.2.2.1).elim (fun h_=>h_ g_) (fun h_=>ho_ h_)⟩,fun e_=>ho_ (e_.trans Kd.own_len)⟩;exact⟨⟨hz_.2,⟨hz_.1.1.1,⟨hz_.1.1.2.1,⟨hz_.1.1.2.2.2.2.2.1,⟨hz_.1.1.2.2.2.2.2.2.2.2.2.2,⟨hz_.1.2,hz_.1.1.2.2.2.2.2.2.2.2.2.1⟩⟩⟩⟩⟩⟩,(by simp[Value.ownBlock])⟩) ?aF ?aO ?aB ?aS ?aL ?_
      (case aR=>exact(Kd.S_mono (Ka.1) (fun k_ hk=>⟨hk.1.1.1.1.1,⟨hk.1.1.1.1.2.1,⟨hk.1.1.1.1.2.2.1,⟨hk.1.1.1.1.2.2.2.1,⟨hk.1.1.1.1.2.2.2.2.1,⟨hk.1.1.1.1.2.2.2.2.2.1,⟨hk.1.1.1.1.2.2.2.2.2.2,⟨hk.1.1.1.2,⟨hk.1.1.2,⟨hk.1.2,hk.2⟩⟩⟩⟩⟩⟩⟩⟩⟩⟩)))
      (case aB=>exact(hs_ D.1))
      (case aF=>exact(fun k_ hk=>⟨Kd.fresh' (Kd.S_lt (sp_ d.1)) k_ hk,Kd.fresh' (Kd.S_lt (sp_ G.1)) k_ hk,Kd.freshB (g:=m) (o:=.cells #[.slice ca M.length da,.int .i64 T,.int .i64 U,.string V] 29 (0,0)) (pb_ a.1) k_ hk,Kd.freshB (g:=q) (o:=.cells #[.int .i64 L,.slice I B.length J] 80 (0,0)) (pb_ u.1) k_ hk,Kd.freshB (g:=Z) (o:=.cells #[.int .i64 L,.slice I B.length J] 80 (0,0)) (pb_ qa.1) k_ hk,(fun g_=>Nat.lt_irrefl _ (Nat.lt_of_lt_of_le (Nat.lt_trans (HGp101.out k_ g_) (blk_lt (pb_ u.1))) hk)),(fun g_=>Nat.lt_irrefl _ (Nat.lt_of_lt_of_le (Nat.lt_trans (HGp101u0.out k_ g_) (blk_lt (pb_ u.1))) hk))⟩))
      (case aO=>exact((Kd.S_nil _ _ _ _ _)))
      (case aS=>exact(below_size (hs_ D.1)))
      (case aL=>have:=Uc.1;omega)
      intro Db Ne ho hb hg hat
      rw[←Vc.1] at ho
      replace d:=M_ (Kd.S_after (Kd.S_apart_nil (sp_ d.1)) hg hat)
      replace b:=M_ (blk_grown (bq_ b.1) hg (by simp[Value.ownBlock]))
      replace a:=M_ (blk_grown (bq_ a.1) hg (by simp[Value.ownBlock]))
      replace l:=M_ (blk_grown (bq_ l.1) hg (by simp[Value.ownBlock]))
      replace c:=M_ (blk_grown (bq_ c.1) hg (by simp[Value.ownBlock]))
      replace G:=M_ (Kd.S_grown (sp_ G.1) hg (fun _ _=>by simp[Value.ownBlock]))
      replace u:=M_ (blk_grown (bq_ u.1) hg (by simp[Value.ownBlock]))
      replace qa:=M_ (blk_grown (bq_ qa.1) hg (by simp[Value.ownBlock]))
      replace D:=M_ (hb)
      have pa:=M_ (ho)
      clear Ka
      clear ho hb hg hat
      refine ho_ hK (f3_ c.1 (e2_ u.1)) (fun A=>?_)
      exact norm_ (by simp only[putAll,fr_]) (wb (Db,Z) _ ⟨A,(Kd.S_mono (sp_ G.1) (fun _ hk=>⟨hk.1.1.1,⟨hk.1.2,⟨hk.1.1.2.2,⟨hk.2,hk.1.1.2.1⟩⟩⟩⟩)),(Kd.S_mono (sp_ pa.1) (fun _ hk=>⟨hk.2.1,⟨hk.1,⟨hk.2.2.1,⟨hk.2.2.2.1,⟨hk.2.2.2.2.1,⟨hk.2.2.2.2.2.1,hk.2.2.2.2.2.2⟩⟩⟩⟩⟩⟩)),(Kd.S_mono (sp_ d.1) (fun _ hk=>⟨hk.1.1.1.1,⟨hk.2,⟨hk.1.1.1.2.1,⟨hk.1.1.1.2.2.2.2.2.1,⟨hk.1.2,⟨hk.1.1.1.2.2.1,⟨hk.1.1.2,⟨hk.1.1.1.2.2.2.1,⟨hk.1.1.1.2.2.2.2.2.2,hk.1.1.1.2.2.2.2.1⟩⟩⟩⟩⟩⟩⟩⟩⟩)),(pb_ b.1),(pb_ a.1),(pb_ l.1),(pb_ c.1),(pb_ u.1),(pb_ qa.1),Kb.1,Lb.1,Qa.1,Ra.1,Sa.1,Ta.1,Fa.1,Ua.1,ya.1,Ga.1,Va.1,Wa.1,(hs_ D.1)⟩)
     rintro ⟨Db,Z⟩ Ha ⟨Fd,Ec,Fc,Gc,Hc,Ic,Jc,Kc,Lc,Mc,Nc,Rb,Sb,Tb,Ub,Vb,Wb,Xb,Yb,vd,wd,xd,yd⟩
     replace G:Aside0 (Kd.S k29 29 Ha w.heap.size (fun k_=>k_≠m∧GXp101u0 k_∧k_<q∧¬GXp101 k_∧(some k_=(.slice I B.length J:Value).ownBlock∨fa≤k_)) (.slice I B.length J) B):=⟨Ec⟩
     have pa:Aside0 (Kd.S k80 80 Ha w.heap.size (fun k_=>some k_≠(.slice I B.length J:Value).ownBlock∧some k_≠(.slice O s.length Q:Value).ownBlock∧k_≠m∧k_≠q∧k_≠Z∧¬GXp101 k_∧¬GXp101u0 k_) Db Ea):=⟨Fc⟩
     replace d:Aside0 (Kd.S (Kd.opt k80) 80 Ha w.heap.size (fun k_=>some k_≠(.slice I B.length J:Value).ownBlock∧some k_≠(Db:Value).ownBlock∧k_≠m∧k_≠q∧k_≠Z∧W≤k_∧GXp101 k_∧k_<y∧k_<q∧k_<fa) (.slice O s.length Q) (Kd.gap ((z:Int).toNat) s)):=⟨Gc⟩
     replace b:Aside0 (Ha.heap[R]?=some (.cells #[.int .i64 ha,.int .i64 ia,.slice Xa F.length za] 26 (0,0))):=⟨Hc⟩
     replace a:Aside0 (Ha.heap[m]?=some (.cells #[.slice ca M.length da,.int .i64 T,.int .i64 U,.string V] 29 (0,0))):=⟨Ic⟩
     replace l:Aside0 (Ha.heap[ra]?=some (.cells #[.int .i64 0,.int .i64 0,.slice none 0 0] 26 (0,0))):=⟨Jc⟩
     replace c:Aside0 (Ha.heap[y]?=some (.cells #[.int .i64 aa,.int .i64 (wrap64 (ba+1)),.slice O s.length Q] 26 (0,0))):=⟨Kc⟩
     replace u:Aside0 (Ha.heap[q]?=some (.cells #[.int .i64 L,.slice I B.length J] 80 (0,0))):=⟨Lc⟩
     have qa:Aside0 (Ha.heap[Z]?=some (.cells #[.int .i64 L,.slice I B.length J] 80 (0,0))):=⟨Mc⟩
     have Kb:=Ge_.mk Nc
     have Lb:=Ge_.mk Rb
     have Qa:=Ne_.mk Sb
     have Ra:=Ne_.mk Tb
     have Sa:=Ne_.mk Ub
     have Ta:=Ne_.mk Vb
     have Fa:=Ne_.mk Wb
     have Ua:=Ne_.mk Xb
     have ya:=Ne_.mk Yb
     have Ga:=Ne_.mk vd
     have Va:=Ne_.mk wd
     have Wa:=Ne_.mk xd
     replace D:Aside0 (Below w.heap.size w Ha):=⟨yd⟩
     clear Ka Ec Fc Gc Hc Ic Jc Kc Lc Mc Nc Rb Sb Tb Ub Vb Wb Xb Yb vd wd xd yd
     have A:c_ Ha y 0 (.int .i64 aa)∧c_ Ha y 1 (.int .i64 (wrap64 (ba+1)))∧c_ Ha y 2 (.slice O s.length Q)∧c_ Ha q 0 (.int .i64 L)∧c_ Ha q 1 (.slice I B.length J):=Fd
     obtain⟨od,Zc,Ia⟩:=Kd.S_fp (Kd.S_types (Kd.S_types (Kd.S_apart' (Kd.S_apart' (G.1) (Kd.S_typed d.1) (by decide)) (Kd.S_typed pa.1) (by decide)) u.1 (by decide)) qa.1 (by decide))
     refine nm_ ?_
     refine o1_ 7 (b_ 12 3) ga (fun K hK=>?_)
     refine Kd.S_append_box_step k80 (w0:=w) w.heap.size (by rfl) (.tmp 70) (.tmp 72) 24 80 (.agg #[(.int .i64 0),(.slice none 0 0)]) 32 rfl Tryz.underlying24 info80 rfl (by decide) (by omega) Db Ea (⟨L,B⟩:S80) [.int .i64 L,.slice I B.length J] (fun k_=>some k_≠(.slice O s.length Q:Value).ownBlock∧k_≠m∧k_≠q∧k_≠Z∧¬GXp101 k_) (fun k_=>od k_) Z (pb_ qa.1) rfl rfl ?aP (fun k_ hk_=>⟨⟨(Ia k_ hk_).1.1.1.1.2,⟨(Ia k_ hk_).1.1.1.1.1.1,⟨(Ia k_ hk_).1.1.2,⟨(Ia k_ hk_).1.2,(Ia k_ hk_).1.1.1.1.1.2.2.2.1⟩⟩⟩⟩,(Ia k_ hk_).1.1.1.2⟩) ?aF ?aO ?aB ?aS ?aL ?_
     (case aP=>exact k80_mkM _ _ _ (⟨L,B⟩:S80) (Kd.S_mono Zc (fun _ h_=>h_)))
     (case aB=>exact(hs_ D.1))
     (case aF=>exact(fun k_ hk=>⟨Kd.fresh' (Kd.S_lt (sp_ d.1)) k_ hk,Kd.freshB (g:=m) (o:=.cells #[.slice ca M.length da,.int .i64 T,.int .i64 U,.string V] 29 (0,0)) (pb_ a.1) k_ hk,Kd.freshB (g:=q) (o:=.cells #[.int .i64 L,.slice I B.length J] 80 (0,0)) (pb_ u.1) k_ hk,Kd.freshB (g:=Z) (o:=.cells #[.int .i64 L,.slice I B.length J] 80 (0,0)) (pb_ qa.1) k_ hk,(fun g_=>Nat.lt_irrefl _ (Nat.lt_of_lt_of_le (Nat.lt_trans (HGp101.out k_ g_) (blk_lt (pb_ u.1))) hk))⟩))
     (case aO=>exact(Kd.S_mono (sp_ pa.1) (fun k_ hk=>⟨⟨hk.2.1,⟨hk.2.2.1,⟨hk.2.2.2.1,⟨hk.2.2.2.2.1,hk.2.2.2.2.2.1⟩⟩⟩⟩,fun e_=>(fun ez_=>hk.2.2.2.2.2.2 (Ia _ ez_).1.1.1.1.1.2.1) e_⟩)))
     (case aS=>exact(below_size (hs_ D.1)))
     (case aL=>have:=Pd.1;omega)
     intro zd xi ho hb hg hat
     rw[←Qd.1] at ho
     replace d:=M_ (Kd.S_after (ok:=(fun k_=>some k_≠(.slice I B.length J:Value).ownBlock∧k_≠m∧k_≠q∧k_≠Z∧W≤k_∧GXp101 k_∧k_<y∧k_<q∧k_<fa)) (Kd.S_mono (sp_ d.1) (fun _ hk=>⟨⟨hk.1,⟨hk.2.2.1,⟨hk.2.2.2.1,⟨hk.2.2.2.2.1,⟨hk.2.2.2.2.2.1,⟨hk.2.2.2.2.2.2.1,⟨hk.2.2.2.2.2.2.2.1,⟨hk.2.2.2.2.2.2.2.2.1,hk.2.2.2.2.2.2.2.2.2⟩⟩⟩⟩⟩⟩⟩⟩,hk.2.1⟩)) hg hat)
     replace b:=bg_ b hg pa
     replace a:=bg_ a hg pa
     replace l:=bg_ l hg pa
     replace c:=bg_ c hg pa
     replace u:=M_ (blk_grown (bq_ u.1) hg (Kd.S_away pa.1 (fun _ hk=>hk.2.2.2.1)))
     replace qa:=M_ (blk_grown (bq_ qa.1) hg (Kd.S_away pa.1 (fun _ hk=>hk.2.2.2.2.1)))
     replace D:=M_ (hb)
     have eb:=M_ (ho)
     clear pa G
     clear ho hb hg hat
     refine ho_ hK (f3_ c.1 (e2_ u.1)) (fun A=>?_)
     refine o1_ 12 (b_ 13 2) ga (fun K hK=>?_)
     refine Kd.S_append_rest_step k80 (w0:=w) w.heap.size (by rfl) (.tmp 73) (.tmp 77) 24 80 (.agg #[(.int .i64 0),(.slice none 0 0)]) 32 rfl Tryz.underlying24 info80 rfl (by decide) (by omega) zd Ca s O s.length Q ((z:Int).toNat) cp101b (fun k_=>k_≠m∧k_≠q∧k_≠Z) (fun k_=>some k_≠(zd:Value).ownBlock∧k_≠m∧k_≠q∧k_≠Z∧W≤k_∧GXp101 k_∧k_<y∧k_<q∧k_<fa) rfl KLp101.out (by rw[show (if Q=(z:Int).toNat then O else (O:Option Addr).map (·.add ((z:Int).toNat*(k80).sz)))=Ap101b from KAp101.out.symm,←Jb.1];rfl) ?aR (fun k_ hk ho_=>⟨⟨hk.2.1,⟨hk.2.2.1,hk.2.2.2.1⟩⟩,hk.1⟩) ?aF ?aO ?aB ?aS ?aL ?_
     (case aR=>exact(Kd.S_mono (d.1) (fun k_ hk=>⟨hk.2,⟨hk.1.2.1,⟨hk.1.2.2.1,⟨hk.1.2.2.2.1,⟨hk.1.2.2.2.2.1,⟨hk.1.2.2.2.2.2.1,⟨hk.1.2.2.2.2.2.2.1,⟨hk.1.2.2.2.2.2.2.2.1,hk.1.2.2.2.2.2.2.2.2⟩⟩⟩⟩⟩⟩⟩⟩)))
     (case aB=>exact(hs_ D.1))
     (case aF=>exact(fun k_ hk=>⟨Kd.freshB (g:=m) (o:=.cells #[.slice ca M.length da,.int .i64 T,.int .i64 U,.string V] 29 (0,0)) (pb_ a.1) k_ hk,Kd.freshB (g:=q) (o:=.cells #[.int .i64 L,.slice I B.length J] 80 (0,0)) (pb_ u.1) k_ hk,Kd.freshB (g:=Z) (o:=.cells #[.int .i64 L,.slice I B.length J] 80 (0,0)) (pb_ qa.1) k_ hk⟩))
     (case aO=>exact(Kd.S_mono (sp_ eb.1) (fun k_ hk=>⟨⟨hk.2.1,⟨hk.2.2.1,hk.2.2.2.1⟩⟩,fun e_=>hk.2.2.2.2 e_.1.2.2.2.2.2.1⟩)))
     (case aS=>exact(below_size (hs_ D.1)))
     (case aL=>have:=Rd.1;rw[Jb.1] at this;omega)
     intro yi Oe ho hb hg hat
     rw[←Jb.1] at ho
     rw[←Sd.1] at ho
     replace b:=bg_ b hg eb
     replace a:=bg_ a hg eb
     replace l:=bg_ l hg eb
     replace c:=bg_ c hg eb
     replace u:=M_ (blk_grown (bq_ u.1) hg (Kd.S_away eb.1 (fun _ hk=>hk.2.2.1)))
     replace qa:=M_ (blk_grown (bq_ qa.1) hg (Kd.S_away eb.1 (fun _ hk=>hk.2.2.2.1)))
     replace D:=M_ (hb)
     have ad:=M_ (ho)
     clear eb d
     clear ho hb hg hat
     obtain⟨bd,cd,dd⟩:=Kd.S_slice ad.1
     (first|subst dd|(obtain⟨rfl,rfl⟩:=si_ dd))
     refine ho_ hK (f3_ c.1 (e2_ u.1)) (fun A=>?_)
     refine p_ ga ?_
     refine l1_ 14 (b_ 15 0) ga (fun K hK=>?_)
     have ii:Oe.cell? ⟨y,2,none⟩=some (.slice O s.length Q):=bx_ c.1 2
     have We:=blk_frozen c.1 2
     have Wd:=tb.1
     have Xd:=ib.1
     have Yd:=ub.1
     have Zd:=Bb.1
     have ae:=Ga.1
     have be:=ja.1
     have ce:=ta.1
     have de:=ka.1
     have ee:=mc.1
     have fe:=ya.1
     refine skip_ (w1:=?_) (by rfl) rfl ?_ ?_
     rotate_left
     ·
      go_simp
      rfl
     refine hK.out _ _ ?_
     clear hK K
     refine done_ (done_of ga.1 (by kernel_rfl)) ?_
     have Xe:=n2_ ja
     have Ye:=n2_ ka
     have Ze:=n2_ ya
     obtain⟨af,bf,cf,df,ef,ff⟩:=bc3_ c.1
     have gf:=n2_ sb
     have jf:=n2_ Fa
     obtain⟨kf,lf,mf,nf,pf,qf⟩:=bc3_ l.1
     try go_wp2
     refine bodyPost_ret (results_ct rfl _ _ ra 26 #[.int .i64 aa,.int .i64 (wrap64 (ba+1)),.slice bd Wc.length cd] (0,0) _ rfl (bp_ l.1) Tryz.underlying26 rfl (by kernel_rfl)) rfl ?_
     exact⟨_,rr_,Kd.S_mono (sf_ ra (Kd.S_far (p:=⟨y,2,none⟩) (Kd.S_types (Kd.S_types ad.1 c.1 (by decide)) l.1 (by decide)) (fun _ hk=>hk.1.2) (.slice bd Wc.length cd)) (fun _ hk=>hk.2)) (fun _ hk=>trivial),hs_ D.1⟩
def impl_copyStore.l0:Nat→List S26→List S26→Int→Int→Option ((List S26))
 | 0,_,_,_,_=>none
 | k+1,d,c,e,b=>if b<e then (if 0≤b then (if b<(c.length:Int) then ((impl_copyPart.f k ((rd_T26 c b).f0) ((rd_T26 c b).f1) ((rd_T26 c b).f2)).bind fun a=>(if d.length<3518437208883 then (impl_copyStore.l0 k (d++[(⟨a.1,a.2.1,a.2.2⟩:S26)]) c e (wrap64 (b+1))) else (none))) else (none)) else (none)) else (some d)
def impl_copyStore.f (k:Nat) (l0:List S26):Option ((List S26)):=impl_copyStore.l0 k ([]:List S26) l0 (l0.length:Int) 0
theorem impl_copyStore.calls (k:Nat) (A0:Option Addr) (c0:Nat) (l0:List S26) (r:List S26) (w:World) (L:Kd.C k26 w A0 l0.length l0) (M:l0.length≤c0) (h:impl_copyStore.f k l0=some r) :
  Calls Tryz.prog 84 #[.slice A0 l0.length c0] w fun e w'=>∃v0_:Value,e=.returned (v0_)∧Kd.R k26 26 w' w.heap.size (fun _=>True) v0_ r∧Below w.heap.size w w':=by
 have hu26:=Tryz.underlying26
 have X:=M_ L
 have oa:=M_ M
 clear L M
 have y:=M_ (Below.refl w.heap.size w)
 unfold impl_copyStore.f at h
 have H:=h;clear h
 have H':=M_ H
 clear H
 go_enter Tryz.func84,Tryz.ntmps84
 go_wp2
 go_loopg [3,8] k (fun kq v3 v8 w'=>∃(p:List S26) (a:Int),v8=.int .i64 a∧Aside0 (impl_copyStore.l0 kq p l0 (l0.length:Int) a=some r)∧Aside0 (kq≤k)∧Aside0 (Kd.R k26 26 w' w.heap.size (fun _=>True) v3 p)∧Aside0 (Below w.heap.size w w'))
 case atStart=>exact⟨(([]:List S26)),(0),rs_,H',⟨Nat.le_refl _⟩,⟨by first|exact Kd.R_nil _ _ _ _ _|exact Kd.N_nil _ _ _ _ _|exact Kd.V_nil _ _ _ _ _|exact Kd.Q_nil _ _ _ _ _|exact Kd.S_nil _ _ _ _ _⟩,⟨hs_ y.1⟩⟩
 case round=>
  clear H'
  obtain⟨p,a,rfl,Y,N,d,y⟩:=hrel
  cases gk with
  | zero=>exact absurd Y.1 (by simp[impl_copyStore.l0])
  | succ Z=>
   have H:=Y.1
   clear Y
   simp only[impl_copyStore.l0] at H
   replace H:=ie_ H;rcases H with⟨O,H⟩|⟨O,H⟩
   ·
    have P:=decide_eq_true O
    clear O
    replace H:=i2_ H;obtain⟨ea,fa,H⟩:=H
    replace H:=bi_ H;obtain⟨⟨q,s,t⟩,A5,H⟩:=H;(try dsimp only at H)
    replace H:=im_ H;obtain⟨Q,H⟩:=H
    obtain⟨G,hy_⟩:∃y_:List S26,y_=(p++[(⟨q,s,t⟩:S26)]):=⟨_,rfl⟩
    replace H:(impl_copyStore.l0 Z G l0 (l0.length:Int) (wrap64 (a+1)))=some r:=hm_
    have I:=M_ hy_;clear hy_
    have H':=M_ H
    clear H
    obtain⟨A,B⟩:0≤(a:Int)∧a<(l0.length:Int):=pq_
    obtain⟨aa,m,n,S,i,j,u,v,x⟩:=at_T26 X.1 a A B
    cases S
    replace i:=c2_ y i j;clear j;obtain⟨i,j⟩:=i
    replace u:=cl_ y.1 u
    have D:=M_ x
    have E:=M_ v
    clear x v
    replace A:=eq_true A;replace B:=eq_true B
    go_wp2_with (first|((with_reducible refine gd_ 5 rfl ?_);refine bV_ 5 #[.int .i64 0,.int .i64 0,.slice none 0 0] 26 ?_;intro l hg w7 c hb;replace d:=M_ (Kd.R_below (Kd.R_elderB (rp_ d.1) l (Nat.le_of_eq hg.symm)) hb);have ba:=gq_ hg y;replace y:=st_ y hb;clear hb hg;obtain⟨ga,ha,ia,ja,ka,la⟩:=bc3_ c.1)|((with_reducible refine gate_callee (f:=54) rfl ?_);refine gl_ (some 14) Tryz.func54 #[.agg #[.int .i64 ((rd_T26 l0 a).f0),.int .i64 ((rd_T26 l0 a).f1),.slice m ((rd_T26 l0 a).f2).length n]] ?_;(with_reducible refine(impl_copyPart.calls Z ((rd_T26 l0 a).f0) ((rd_T26 l0 a).f1) _ _ ((rd_T26 l0 a).f2) q s t _ ?_ ?_ A5.1).mono ?_);exact Kd.C_below D.1 (hs_ y.1);exact E.1;rintro e w9 ⟨ma,rfl,J,hb⟩;refine⟨_,rfl,?_⟩;obtain⟨W,F⟩:=Kd.S_name J;replace d:=ru_ F (rf_ l d.1 (fun _ hk=>hk.2)) hb;have z:=sg_ F J y;replace c:=by_ c #[.int .i64 ((rd_T26 l0 a).f0),.int .i64 ((rd_T26 l0 a).f1),.slice m ((rd_T26 l0 a).f2).length n] hb;replace y:=st_ y hb;(try clear hb J);obtain⟨T,U,V⟩:=Kd.S_slice z.1;subst V)|((with_reducible refine gate_builtin (b:=.append) (xs:=#[.tmp 12,.tmp 15]) rfl ?_);at_builtin;refine Kd.R_append k26 (w0:=w) w.heap.size rfl (.tmp 12) (.tmp 15) 54 26 (.agg #[(.int .i64 0),(.int .i64 0),(.slice none 0 0)]) 40 rfl Tryz.underlying54 info26 rfl (by decide) (by omega) u3 p (⟨q,s,t⟩:S26) [.int .i64 q,.int .i64 s,.slice T t.length U] (fun k_=>k_≠l) (fun k_=>((fun k_=>k_≠l)) k_∧some k_≠(u3:Value).ownBlock) rfl rfl ?aP (fun _ hk=>hk) ?aF ?aO ?aB ?aS ?aL ?_;(case aP=>exact k26_mkM _ _ _ (⟨q,s,t⟩:S26) (Kd.S_mono (Kd.S_types (Kd.S_apart' (z.1) (Kd.R_typed d.1) (by decide)) c.1 (by decide)) (fun k_ hk=>⟨hk.2,hk.1.2⟩)));(case aB=>exact(hs_ y.1));(case aF=>exact(fun k_ hk=>Kd.freshB (g:=l) (o:=.cells #[.int .i64 ((rd_T26 l0 a).f0),.int .i64 ((rd_T26 l0 a).f1),.slice m ((rd_T26 l0 a).f2).length n] 26 (0,0)) (pb_ c.1) k_ hk));(case aO=>exact(Kd.R_mono (rp_ d.1) (fun _ hk=>hk.1.2)));(case aS=>exact(below_size (hs_ y.1)));(case aL=>have:=Q.1;omega);intro na sa ho hb hg hat;rw[←I.1] at ho;replace c:=M_ (blk_grown (bq_ c.1) hg (Kd.R_away d.1 (fun _ hk=>hk.1.2)));replace y:=M_ (hb);have K:=M_ (ho);clear d z;clear ho hb hg hat))
    go_roundg Z
    case measure=>have:=N.1;omega
    case rel=>exact⟨(G),(wrap64 (a+1)),rs_,H',⟨by have:=N.1;omega⟩,⟨Kd.R_mono (rp_ K.1) (fun _ hk=>trivial)⟩,⟨hs_ y.1⟩⟩
   have P:decide (a<(l0.length:Int))=false:=decide_eq_false O
   clear O
   obtain rfl:=Option.some.inj H
   go_wp2
   go_ret
   exact⟨_,rr_,rp_ d.1,hs_ y.1⟩
end Go.Proofs.YtanfohlpkppeiaaGreat.Print
end
