import Derived.Test.YtanfohlpkppeiaaGreatMFnStoresBentV1
import Derived.RowKit
namespace Go.Proofs.YtanfohlpkppeiaaGreat.Print
open Go.RowKit Go.Proofs.YtanfohlpkppeiaaGreatV.PrintWords Go.Proofs.YtanfohlpkppeiaaGreatV.PrintLast Go.Proofs.YtanfohlpkppeiaaGreatV.PrintMore
class Pk_ (W w:World):Prop where
  sz:w.heap.size≤W.heap.size
  at_:∀k,k<w.heap.size→W.heap[k]?=w.heap[k]?
  bl:∀w0:World,Below w0.heap.size w0 w→Below w0.heap.size w0 W
instance pk0_ (w:World):Pk_ w w:=⟨Nat.le_refl _,fun _ _=>rfl,fun _ h=>h⟩
instance pk1_ (W w:World) [h:Pk_ W w]:Pk_ W.drew w:=⟨h.sz,h.at_,fun w0 hb=>below_drew1 (h.bl w0 hb)⟩
instance pk2_ (W w:World) (n:Nat) [h:Pk_ W w]:Pk_ (W.drewN n) w:=⟨h.sz,h.at_,fun w0 hb=>pw_below_drewN (h.bl w0 hb) n⟩
instance pk3_ (W w:World) (o:Obj) [h:Pk_ W w]:Pk_ (W.alloc o) w:=⟨Nat.le_trans h.sz (Below.size (below_alloc (Below.refl _ W) o)),fun k hk=>(Below.heap_alloc W o k (Nat.lt_of_lt_of_le hk h.sz)).trans (h.at_ k hk),fun w0 hb=>below_alloc (h.bl w0 hb) o⟩
theorem cp_ {α:Type} {d:Kd α} {W w:World} {xs:List α} {A:Option Addr} {n:Nat} [hp:Pk_ W w] (h:d.C w A n xs):d.C W A n xs:=Kd.C_below h (hp.bl w (Below.refl _ w))
theorem bs_ {w W:World} {g j:Nat} {v:Value} (hg:Aside0 (w.heap.size≤g)) (h:Below w.heap.size w W):Below w.heap.size w (W.setCell ⟨g,j,none⟩ v):=below_set h hg.out
theorem pb_ {W w:World} [hp:Pk_ W w] {g:Nat} {o:Obj} (h:w.heap[g]?=some o):W.heap[g]?=some o:=(hp.at_ g (blk_lt h)).trans h
theorem bb_ {W w w1:World} [hp:Pk_ W w] {g:Nat} {o:Obj} (h:w.heap[g]?=some o) (hb:Below W.heap.size W w1):w1.heap[g]?=some o:=blk_below (pb_ h) hb
theorem nl_ {W w:World} [hp:Pk_ W w] {g a:Nat} {o:Obj} (h:w.heap[g]?=some o) (hg:a=W.heap.size):g≠a:=by rw[hg];exact Nat.ne_of_lt (blk_lt (pb_ (W:=W) h))
theorem ng_ {W w:World} [hp:Pk_ W w] {g a:Nat} {o:Obj} (h:w.heap[g]?=some o) (hg:a=W.heap.size):a≠g:=(nl_ h hg).symm
theorem sp_ {α:Type} {d:Kd α} {e base:Nat} {ok:Nat→Prop} {v:Value} {xs:List α} {W w:World} [hp:Pk_ W w] (h:Kd.S d e w base ok v xs):Kd.S d e W base ok v xs:=Kd.S_step h (fun k _ hk=>hp.at_ k hk)
theorem rp_ {α:Type} {d:Kd α} {e base:Nat} {ok:Nat→Prop} {v:Value} {xs:List α} {W w:World} [hp:Pk_ W w] (h:Kd.R d e w base ok v xs):Kd.R d e W base ok v xs:=Kd.R_step h (fun k _ hk=>hp.at_ k hk)
theorem ba_ {w W:World} (h:Below w.heap.size w W) (o:Obj):Below w.heap.size w (W.alloc o):=below_alloc h o
theorem bn_ {B:Nat} {w W:World} (h:Below B w W) (n:Nat):Below B w (W.drewN n):=pw_below_drewN h n
theorem bd_ {base:Nat} {w W:World} (h:Below base w W):Below base w W.drew:=below_drew1 h
theorem ka_ {w:World} {g:Nat} {o:Obj} (h:w.heap[g]?=some o) (o':Obj):(w.alloc o').heap[g]?=some o:=blk_alloc h o'
theorem kd_ {w:World} {g:Nat} {o:Obj} (h:w.heap[g]?=some o):w.drew.heap[g]?=some o:=blk_drew h
theorem kn_ {w:World} {g:Nat} {o:Obj} (h:w.heap[g]?=some o) (n:Nat):(w.drewN n).heap[g]?=some o:=blk_drewN h n
theorem ca_ {α:Type} {d:Kd α} {w:World} {xs:List α} {A:Option Addr} {n:Nat} (h:d.C w A n xs) (o:Obj):d.C (w.alloc o) A n xs:=Kd.C_alloc h o
theorem cd_ {α:Type} {d:Kd α} {w:World} {xs:List α} {A:Option Addr} {n:Nat} (h:d.C w A n xs):d.C w.drew A n xs:=Kd.C_drew h
theorem cn_ {α:Type} {d:Kd α} {w:World} {xs:List α} {A:Option Addr} {n:Nat} (h:d.C w A n xs) (m:Nat):d.C (w.drewN m) A n xs:=Kd.C_drewN h m
theorem cl_ {w w1:World} {a:Addr} {v:Value} (hb:Below w.heap.size w w1) (h:w.cell? a=some v):w1.cell? a=some v:=(hb.cell (World.block_lt_of_cell? w _ h)).trans h
theorem mp_:(∀(f:Operand→Value) (l:List Operand),l.toArray.map f=(l.map f).toArray)∧(∀(f:Operand→Value) (x:Operand) (l:List Operand),(x::l).map f=f x::l.map f)∧(∀f:Operand→Value,([]:List Operand).map f=[]):=⟨fun _ _=>List.map_toArray ..,fun _ _ _=>rfl,fun _=>rfl⟩
abbrev b_ (x y:Nat):Array Bool:=(List.replicate x true++List.replicate y false).toArray
theorem fr_:(∀(a:Act) (d:Tmp) (v:Value),a.put (some d) v={ a with tmps:=a.tmps.setIfInBounds d v })∧(∀(l:List Value) (i:Nat) (x:Value),l.toArray.setIfInBounds i x=(l.set i x).toArray) ∧
    (∀(x y:Value) (l:List Value),(x::l).set 0 y=y::l)∧(∀(x y:Value) (l:List Value) (n:Nat),(x::l).set (n+1) y=x::l.set n y)∧(∀n:Int,IntKind.i64.wrap n=wrap64 n)∧(∀n:Int,IntKind.i32.wrap n=wrap32 n):=
  ⟨fun _ _ _=>rfl,fun _ _ _=>by simp,fun _ _ _=>rfl,fun _ _ _ _=>rfl,i64_w,i32_w⟩
abbrev t_:Bool:=true
abbrev f_:Bool:=false
theorem bc2_ {w:World} {g:Nat} {t:TypeId} {v0 v1:Value} (h:w.heap[g]?=some (.cells #[v0,v1] t (0,0))):w.cell? ⟨g,0,none⟩=some v0∧w.cell? ⟨g,1,none⟩=some v1∧w.frozen? ⟨g,0,none⟩=false∧w.frozen? ⟨g,1,none⟩=false:=⟨(blk_cell h 0).trans rfl,(blk_cell h 1).trans rfl,blk_frozen h 0,blk_frozen h 1⟩
theorem bc3_ {w:World} {g:Nat} {t:TypeId} {v0 v1 v2:Value} (h:w.heap[g]?=some (.cells #[v0,v1,v2] t (0,0))):w.cell? ⟨g,0,none⟩=some v0∧w.cell? ⟨g,1,none⟩=some v1∧w.cell? ⟨g,2,none⟩=some v2∧w.frozen? ⟨g,0,none⟩=false∧w.frozen? ⟨g,1,none⟩=false∧w.frozen? ⟨g,2,none⟩=false:=⟨(blk_cell h 0).trans rfl,(blk_cell h 1).trans rfl,(blk_cell h 2).trans rfl,blk_frozen h 0,blk_frozen h 1,blk_frozen h 2⟩
theorem bc4_ {w:World} {g:Nat} {t:TypeId} {v0 v1 v2 v3:Value} (h:w.heap[g]?=some (.cells #[v0,v1,v2,v3] t (0,0))):w.cell? ⟨g,0,none⟩=some v0∧w.cell? ⟨g,1,none⟩=some v1∧w.cell? ⟨g,2,none⟩=some v2∧w.cell? ⟨g,3,none⟩=some v3∧w.frozen? ⟨g,0,none⟩=false∧w.frozen? ⟨g,1,none⟩=false∧w.frozen? ⟨g,2,none⟩=false∧w.frozen? ⟨g,3,none⟩=false:=⟨(blk_cell h 0).trans rfl,(blk_cell h 1).trans rfl,(blk_cell h 2).trans rfl,(blk_cell h 3).trans rfl,blk_frozen h 0,blk_frozen h 1,blk_frozen h 2,blk_frozen h 3⟩
theorem bx_ {w:World} {g:Nat} {t:TypeId} {cs:Array Value} (h:w.heap[g]?=some (.cells cs t (0,0))) (i:Nat) {v:Value} (e:cs[i]?=some v:=by exact rfl):w.cell? ⟨g,i,none⟩=some v:=(blk_cell h i).trans e
class Ge_ (a b:Nat):Prop where mk::(out:a≤b)
class Ne_ (a b:Nat):Prop where mk::(out:a≠b)
class Bw_ (w0 w W:World):Prop where mk::(go:Below w0.heap.size w0 w→Below w0.heap.size w0 W)
instance bw0_ (w0 w:World):Bw_ w0 w w:=⟨fun h=>h⟩
instance bw1_ (w0 w W:World) [h:Bw_ w0 w W]:Bw_ w0 w W.drew:=⟨fun k=>below_drew1 (h.go k)⟩
instance bw2_ (w0 w W:World) (n:Nat) [h:Bw_ w0 w W]:Bw_ w0 w (W.drewN n):=⟨fun k=>pw_below_drewN (h.go k) n⟩
instance bw3_ (w0 w W:World) (o:Obj) [h:Bw_ w0 w W]:Bw_ w0 w (W.alloc o):=⟨fun k=>below_alloc (h.go k) o⟩
instance bw4_ (w0 w W:World) (g j:Nat) (v:Value) [h:Bw_ w0 w W] [q:Ge_ w0.heap.size g]:Bw_ w0 w (W.setCell ⟨g,j,none⟩ v):=⟨fun k=>below_set (h.go k) q.out⟩
theorem hs_ {w0 w W:World} [hp:Bw_ w0 w W] (h:Below w0.heap.size w0 w):Below w0.heap.size w0 W:=hp.go h
class Sg_ (w W:World) (g:Nat):Prop where mk::(go:w.heap.size≤W.heap.size∧∀k,k≠g→k<w.heap.size→W.heap[k]?=w.heap[k]?)
instance sg0_ (w:World) (g:Nat):Sg_ w w g:=⟨Nat.le_refl _,fun _ _ _=>rfl⟩
instance sg1_ (w W:World) (g:Nat) [h:Sg_ w W g]:Sg_ w W.drew g:=⟨h.go⟩
instance sg2_ (w W:World) (g n:Nat) [h:Sg_ w W g]:Sg_ w (W.drewN n) g:=⟨h.go⟩
instance sg3_ (w W:World) (g:Nat) (o:Obj) [h:Sg_ w W g]:Sg_ w (W.alloc o) g:=⟨Nat.le_trans h.go.1 (Below.size (below_alloc (Below.refl _ W) o)),fun k hk hl=>(Below.heap_alloc W o k (Nat.lt_of_lt_of_le hl h.go.1)).trans (h.go.2 k hk hl)⟩
instance sg4_ (w W:World) (g j:Nat) (v:Value) [h:Sg_ w W g]:Sg_ w (W.setCell ⟨g,j,none⟩ v) g:=⟨by simpa [World.setCell] using h.go.1,fun k hk hl=>(Below.heap_setCell W ⟨g,j,none⟩ v k hk).trans (h.go.2 k hk hl)⟩
theorem sf_ {α:Type} {d:Kd α} {e base:Nat} {ok:Nat→Prop} {v:Value} {xs:List α} {W w:World} (g:Nat) (h:Kd.S d e w base ok v xs) (hk:∀k,ok k→k≠g) [hp:Sg_ w W g]:Kd.S d e W base ok v xs:=Kd.S_step h (fun k ho hl=>hp.go.2 k (hk k ho) hl)
theorem rf_ {α:Type} {d:Kd α} {e base:Nat} {ok:Nat→Prop} {v:Value} {xs:List α} {W w:World} (g:Nat) (h:Kd.R d e w base ok v xs) (hk:∀k,ok k→k≠g) [hp:Sg_ w W g]:Kd.R d e W base ok v xs:=Kd.R_step h (fun k ho hl=>hp.go.2 k (hk k ho) hl)
class Bq_ (w W:World) (g:Nat):Prop where mk::(go:∀o,w.heap[g]?=some o→W.heap[g]?=some o)
instance bq0_ (w:World) (g:Nat):Bq_ w w g:=⟨fun _ h=>h⟩
instance bq1_ (w W:World) (g:Nat) [h:Bq_ w W g]:Bq_ w W.drew g:=⟨fun o k=>blk_drew (h.go o k)⟩
instance bq2_ (w W:World) (g n:Nat) [h:Bq_ w W g]:Bq_ w (W.drewN n) g:=⟨fun o k=>blk_drewN (h.go o k) n⟩
instance bq3_ (w W:World) (g:Nat) (o:Obj) [h:Bq_ w W g]:Bq_ w (W.alloc o) g:=⟨fun o' k=>blk_alloc (h.go o' k) o⟩
instance bq4_ (w W:World) (g g' j:Nat) (v:Value) [h:Bq_ w W g] [q:Ne_ g g']:Bq_ w (W.setCell ⟨g',j,none⟩ v) g:=⟨fun o k=>(Below.heap_setCell W ⟨g',j,none⟩ v g q.out).trans (h.go o k)⟩
theorem bq_ {w W:World} {g:Nat} {o:Obj} [hp:Bq_ w W g] (h:w.heap[g]?=some o):W.heap[g]?=some o:=hp.go o h
class Bk_ (w W:World) (g:Nat):Prop where mk::(go:∀j v,w.cell? ⟨g,j,none⟩=some v→W.cell? ⟨g,j,none⟩=some v)
instance bk0_ (w:World) (g:Nat):Bk_ w w g:=⟨fun _ _ h=>h⟩
instance bk4_ (w W:World) (g g' j:Nat) (v:Value) [h:Bk_ w W g] [q:Ne_ g g']:Bk_ w (W.setCell ⟨g',j,none⟩ v) g:=⟨fun i u k=>(cell_far (p:=⟨g',j,none⟩) q.out v).trans (h.go i u k)⟩
class Bc_ (w W:World) (g:Nat) (cs:Array Value) (cs':outParam (Array Value)):Prop where mk::(go:∀t,w.heap[g]?=some (.cells cs t (0,0))→W.heap[g]?=some (.cells cs' t (0,0)))
instance bc0_ (w:World) (g:Nat) (cs:Array Value):Bc_ w w g cs cs:=⟨fun _ h=>h⟩
instance bd1_ (w W:World) (g:Nat) (cs cs':Array Value) [h:Bc_ w W g cs cs']:Bc_ w W.drew g cs cs':=⟨fun t k=>blk_drew (h.go t k)⟩
instance bd2_ (w W:World) (g n:Nat) (cs cs':Array Value) [h:Bc_ w W g cs cs']:Bc_ w (W.drewN n) g cs cs':=⟨fun t k=>blk_drewN (h.go t k) n⟩
instance bd3_ (w W:World) (g:Nat) (o:Obj) (cs cs':Array Value) [h:Bc_ w W g cs cs']:Bc_ w (W.alloc o) g cs cs':=⟨fun t k=>blk_alloc (h.go t k) o⟩
instance bd4_ (w W:World) (g g' j:Nat) (v:Value) (cs cs':Array Value) [h:Bc_ w W g cs cs'] [q:Ne_ g g']:Bc_ w (W.setCell ⟨g',j,none⟩ v) g cs cs':=⟨fun t k=>(Below.heap_setCell W ⟨g',j,none⟩ v g q.out).trans (h.go t k)⟩
instance bd5_ (w W:World) (g j:Nat) (v:Value) (cs cs':Array Value) [h:Bc_ w W g cs cs']:Bc_ w (W.setCell ⟨g,j,none⟩ v) g cs (cs'.setIfInBounds j v):=⟨fun t k=>blk_put (h.go t k) j v rfl⟩
theorem bp_ {w W:World} {g:Nat} {t:TypeId} {cs cs' cs2:Array Value} [hp:Bc_ w W g cs cs'] (h:w.heap[g]?=some (.cells cs t (0,0))) (e:cs'=cs2:=by rfl):W.heap[g]?=some (.cells cs2 t (0,0)):=e▸hp.go t h
theorem bk2_ {w W w1:World} {g:Nat} {o:Obj} [hp:Bq_ w W g] (h:Aside0 (w.heap[g]?=some o)) (hb:Below W.heap.size W w1):Aside0 (w1.heap[g]?=some o):=⟨blk_below (hp.go o h.out) hb⟩
theorem st_ {w0 W w w1:World} [hp:Bw_ w0 w W] (h:Aside0 (Below w0.heap.size w0 w)) (hb:Below W.heap.size W w1):Aside0 (Below w0.heap.size w0 w1):=⟨below_step (hp.go h.out) hb⟩
theorem cg_ {w W:World} {g j:Nat} {v:Value} [hp:Bk_ w W g] (e:w.cell? ⟨g,j,none⟩=some v):W.cell? ⟨g,j,none⟩=some v:=hp.go j v e
theorem ce_ {w W:World} {a:Addr} {v v' u:Value} {g i:Nat} (h:w.cell? a=some v) (hg:w.heap.size≤g) (e:W.cell? a=some v'):(W.setCell ⟨g,i,none⟩ u).cell? a=some v':=(cell_far (p:=⟨g,i,none⟩) (Nat.ne_of_lt (Nat.lt_of_lt_of_le (World.block_lt_of_cell? w a h) hg)) u).trans e
theorem an_ {A B:Prop} (b:B) (a:A:=by first|rfl|(simp[errW_none,errW_some]<;>rfl)|(simp[*,errW_none,errW_some]<;>rfl)):A∧B:=⟨a,b⟩
theorem gw_ {w W:World} {g:Nat} (hg:g=W.heap.size) (h:Below w.heap.size w W):w.heap.size≤g:=by rw[hg];exact h.size
theorem si_ {A A':Option Addr} {n n' c c':Nat} (h:Value.slice A n c=.slice A' n' c'):A'=A∧c'=c:=by injection h with a _ b;exact⟨a.symm,b.symm⟩
theorem gd_ {P:Program} {ops:Array Oper} {rest:List Oper} {o:Oper} {a:Act} {Q:Exit→Act→World→Prop} {W:World} (N:Tmp) (_hN:o.dst=some N) (h:wpList P ops Q (o::rest) a W):wpList P ops Q (o::rest) a W:=h
theorem bs1_ {P:Program} {ops:Array Oper} {o:Oper} {a:Act} {Q:Exit→Act→World→Prop} {Kc:Act→World→Prop} {W:World} (N:Tmp) (cs:Array Value) (t:TypeId)
    (h:∀g,g=W.heap.size→∀w1,w1.heap[g]?=some (.cells cs t (0,0))→Below W.heap.size W w1→Kc (a.put o.dst (.pointer (some ⟨g,0,none⟩))) w1)
    (hw:Region.wanted o (yielded ops a.tmps)=true:=by rfl) (hd:o.dst=some N:=by rfl) (hrun:(execOp a.eval o).run P W=.ok (.value (.pointer (some ⟨W.heap.size,0,none⟩))) (W.alloc (.cells cs t (0,0))):=by first|(go_simp;done)|(go_simp;rfl)) :
    if Region.wanted o (yielded ops a.tmps)=true then Oper.wp P o a W Kc Q else Kc (a.put o.dst undef) W:=box_step hw hd hrun h
theorem gl_ {P:Program} {ops:Array Oper} {Q:Exit→Act→World→Prop} {rest:List Oper} {oi:Oper} {a:Act} {w:World} (N:Option Tmp) {f:FuncId} {fn:Func} {as:Array Operand} {ts:Array TypeId} (hf:P.funcs[f]?=some fn) (args:Array Value)
    (h:Calls P f args w fun e w'=>∃v,e=.returned v∧wpList P ops Q rest (a.put N v) w')
    (hd:oi.dst=N:=by rfl) (hg:oi.guard=none:=by rfl) (hname:(fn.name == "runtime.NumGoroutine")=false:=by kernel_rfl) (hb:fn.body.isSome=true:=by rfl)
    (hop:oi.op=.call { callee:=.value (.func f),args:=as,argTypes:=ts }:=by rfl) (hargs:as.map a.eval=args:=by (try simp only[mp_]);first|done|rfl|(simp only[List.length_drop,List.length_take];rfl)):wpList P ops Q (oi::rest) a w:=goesL_ N hd hg hf hname hb args hop hargs h
theorem gs_ {P:Program} {ops:Array Oper} {Q:Exit→Act→World→Prop} {oi:Oper} {N:Option Tmp} {a:Act} {w:World} {K:Act→World→Prop} {f:FuncId} {fn:Func} {as:Array Operand} {ts:Array TypeId} (hf:P.funcs[f]?=some fn) (args:Array Value)
    (h:Calls P f args w fun e w'=>∃v,e=.returned v∧K (a.put N v) w')
    (hname:(fn.name == "runtime.NumGoroutine")=false:=by kernel_rfl) (hb:fn.body.isSome=true:=by rfl) (hw:Region.wanted oi (yielded ops a.tmps)=true:=by rfl) (hN:oi.dst=N:=by rfl)
    (hop:oi.op=.call { callee:=.value (.func f),args:=as,argTypes:=ts }:=by rfl) (hargs:as.map a.eval=args:=by (try simp only[mp_]);first|done|rfl|(simp only[List.length_drop,List.length_take];rfl)):if Region.wanted oi (yielded ops a.tmps)=true then Oper.wp P oi a w K Q else K (a.put N undef) w:=goes_ hf hname hb args hw hN hop hargs h
class Kq_ (w0 w W:World) (g:Nat):Prop where mk::(go:KeepBut w0 w g none→KeepBut w0 W g none)
instance kq0_ (w0 w:World) (g:Nat):Kq_ w0 w w g:=⟨fun h=>h⟩
instance kq1_ (w0 w W:World) (g:Nat) [h:Kq_ w0 w W g]:Kq_ w0 w W.drew g:=⟨fun k=>keep_drew (h.go k)⟩
instance kq2_ (w0 w W:World) (g n:Nat) [h:Kq_ w0 w W g]:Kq_ w0 w (W.drewN n) g:=⟨fun k=>keep_drewN (h.go k) n⟩
instance kq3_ (w0 w W:World) (g:Nat) (o:Obj) [h:Kq_ w0 w W g]:Kq_ w0 w (W.alloc o) g:=⟨fun k=>keep_alloc (h.go k) o⟩
instance kq4_ (w0 w W:World) (g g' j:Nat) (v:Value) [h:Kq_ w0 w W g] [q:Ge_ w0.heap.size g']:Kq_ w0 w (W.setCell ⟨g',j,none⟩ v) g:=⟨fun k=>keep_far (p:=⟨g',j,none⟩) (h.go k) q.out v⟩
theorem ku_ {w0 w W:World} {g:Nat} [hp:Kq_ w0 w W g] (h:KeepBut w0 w g none):KeepBut w0 W g none:=hp.go h
theorem kt_ {w0 w W w1:World} {g:Nat} [hp:Kq_ w0 w W g] (h:Aside0 (KeepBut w0 w g none)) (hb:Below W.heap.size W w1):Aside0 (KeepBut w0 w1 g none):=⟨KeepBut.trans (hp.go h.out) (KeepBut.of_below hb g none) (.inl rfl)⟩
theorem kh_ {w0 w W w1:World} {g:Nat} [hp:Kq_ w0 w W g] (h:Aside0 (KeepBut w0 w g none)) (hk:KeepBut W w1 g none):Aside0 (KeepBut w0 w1 g none):=⟨KeepBut.trans (hp.go h.out) hk (.inl rfl)⟩
theorem ks_ {w0 w W:World} {g:Nat} [hp:Kq_ w0 w W g] (h:Aside0 (KeepBut w0 w g none)):w0.heap.size≤W.heap.size:=keep_size (hp.go h.out)
theorem kb_ {w W w1:World} {g g':Nat} {o:Obj} [hp:Pk_ W w] [q:Ne_ g' g] (hk:KeepBut W w1 g none) (h:Aside0 (w.heap[g']?=some o)):Aside0 (w1.heap[g']?=some o):=⟨KeepBut.blk hk (pb_ h.out) q.out (by simp)⟩
theorem kc_ {w W w1:World} {g g':Nat} {t:TypeId} {cs cs':Array Value} [hp:Bc_ w W g' cs cs'] [q:Ne_ g' g] (hk:KeepBut W w1 g none) (h:Aside0 (w.heap[g']?=some (.cells cs t (0,0)))) (cs2:Array Value) (e:cs'=cs2:=by rfl):Aside0 (w1.heap[g']?=some (.cells cs2 t (0,0))):=⟨KeepBut.blk hk (bp_ h.out e) q.out (by simp)⟩
theorem ns_ {a b:Nat} (h:Ne_ a b):Ne_ b a:=⟨h.out.symm⟩
theorem nk_ {W w:World} [hp:Pk_ W w] {g a:Nat} {o:Obj} (h:Aside0 (w.heap[g]?=some o)) (hg:a=W.heap.size):Ne_ g a:=⟨nl_ h.out hg⟩
theorem gt_ {a b c:Nat} (h:Aside0 (a≤b)) (k:Ge_ b c):Ge_ a c:=⟨Nat.le_trans h.out k.out⟩
theorem rb_ {α:Type} {d:Kd α} {e base:Nat} {ok:Nat→Prop} {v:Value} {xs:List α} {W w w1:World} [hp:Pk_ W w] (h:Aside0 (Kd.R d e w base ok v xs)) (hb:Below W.heap.size W w1):Aside0 (Kd.R d e w1 base ok v xs):=⟨Kd.R_below (rp_ h.out) hb⟩
theorem sb_ {α:Type} {d:Kd α} {e base:Nat} {ok:Nat→Prop} {v:Value} {xs:List α} {W w w1:World} [hp:Pk_ W w] (h:Aside0 (Kd.S d e w base ok v xs)) (hb:Below W.heap.size W w1):Aside0 (Kd.S d e w1 base ok v xs):=⟨Kd.S_below (sp_ h.out) hb⟩
theorem rl_ {α:Type} {d:Kd α} {e:Nat} {ok:Nat→Prop} {v:Value} {xs:List α} {w0 w W w1:World} {g:Nat} [hp:Kq_ w0 w W g] (h:Kd.R d e w1 W.heap.size ok v xs) (hk:Aside0 (KeepBut w0 w g none)):Aside0 (Kd.R d e w1 w0.heap.size ok v xs):=⟨Kd.R_lower h (ks_ hk)⟩
theorem sl_ {α:Type} {d:Kd α} {e:Nat} {ok:Nat→Prop} {v:Value} {xs:List α} {w0 w W w1:World} {g:Nat} [hp:Kq_ w0 w W g] (h:Kd.S d e w1 W.heap.size ok v xs) (hk:Aside0 (KeepBut w0 w g none)):Aside0 (Kd.S d e w1 w0.heap.size ok v xs):=⟨Kd.S_lower h (ks_ hk)⟩
theorem f2_ {R:Prop} {W:World} {g:Nat} {t:TypeId} {x0 x1:Value} (h:W.heap[g]?=some (.cells #[x0,x1] t (0,0))) (r:R):W.cell? ⟨g,0,none⟩=some x0∧W.cell? ⟨g,1,none⟩=some x1∧R:=⟨bx_ h 0,bx_ h 1,r⟩
theorem e2_ {W:World} {g:Nat} {t:TypeId} {x0 x1:Value} (h:W.heap[g]?=some (.cells #[x0,x1] t (0,0))):W.cell? ⟨g,0,none⟩=some x0∧W.cell? ⟨g,1,none⟩=some x1:=⟨bx_ h 0,bx_ h 1⟩
theorem f3_ {R:Prop} {W:World} {g:Nat} {t:TypeId} {x0 x1 x2:Value} (h:W.heap[g]?=some (.cells #[x0,x1,x2] t (0,0))) (r:R):W.cell? ⟨g,0,none⟩=some x0∧W.cell? ⟨g,1,none⟩=some x1∧W.cell? ⟨g,2,none⟩=some x2∧R:=⟨bx_ h 0,bx_ h 1,bx_ h 2,r⟩
theorem e3_ {W:World} {g:Nat} {t:TypeId} {x0 x1 x2:Value} (h:W.heap[g]?=some (.cells #[x0,x1,x2] t (0,0))):W.cell? ⟨g,0,none⟩=some x0∧W.cell? ⟨g,1,none⟩=some x1∧W.cell? ⟨g,2,none⟩=some x2:=⟨bx_ h 0,bx_ h 1,bx_ h 2⟩
theorem f4_ {R:Prop} {W:World} {g:Nat} {t:TypeId} {x0 x1 x2 x3:Value} (h:W.heap[g]?=some (.cells #[x0,x1,x2,x3] t (0,0))) (r:R):W.cell? ⟨g,0,none⟩=some x0∧W.cell? ⟨g,1,none⟩=some x1∧W.cell? ⟨g,2,none⟩=some x2∧W.cell? ⟨g,3,none⟩=some x3∧R:=⟨bx_ h 0,bx_ h 1,bx_ h 2,bx_ h 3,r⟩
theorem e4_ {W:World} {g:Nat} {t:TypeId} {x0 x1 x2 x3:Value} (h:W.heap[g]?=some (.cells #[x0,x1,x2,x3] t (0,0))):W.cell? ⟨g,0,none⟩=some x0∧W.cell? ⟨g,1,none⟩=some x1∧W.cell? ⟨g,2,none⟩=some x2∧W.cell? ⟨g,3,none⟩=some x3:=⟨bx_ h 0,bx_ h 1,bx_ h 2,bx_ h 3⟩
theorem bi_ {α β:Type} {o:Option α} {f:α→Option β} {r:β} (h:o.bind f=some r):∃a,Aside0 (o=some a)∧f a=some r:=by
  obtain⟨a,x,y⟩:=Option.bind_eq_some_iff.mp h
  exact⟨a,⟨x⟩,y⟩
theorem in_ {α:Type} {c:Prop} [Decidable c] {x:Option α} {r:α} (h:(if c then x else none)=some r):c∧x=some r:=by
  by_cases k:c
  · exact⟨k,by rwa [if_pos k] at h⟩
  · rw[if_neg k] at h;cases h
theorem id_ {α:Type} {c:Prop} [Decidable c] {x:Option α} {r:α} (h:(if c then x else none)=some r):decide c=true∧x=some r:=⟨decide_eq_true (in_ h).1,(in_ h).2⟩
theorem im_ {α:Type} {c:Prop} [Decidable c] {x:Option α} {r:α} (h:(if c then x else none)=some r):Aside0 c∧x=some r:=⟨⟨(in_ h).1⟩,(in_ h).2⟩
theorem io_ {α:Type} {c:Prop} [Decidable c] {x:Option α} {r:α} (h:(if c then none else x)=some r):¬c∧x=some r:=by
  by_cases k:c
  · rw[if_pos k] at h;cases h
  · exact⟨k,by rwa [if_neg k] at h⟩
theorem ie_ {α:Type} {c:Prop} [Decidable c] {x y:Option α} {r:α} (h:(if c then x else y)=some r):(c∧x=some r)∨(¬c∧y=some r):=by
  by_cases k:c
  · exact .inl ⟨k,by rwa [if_pos k] at h⟩
  · exact .inr ⟨k,by rwa [if_neg k] at h⟩
theorem ib_ {α:Type} {c:Bool} {x y:Option α} {r:α} (h:(if c=true then x else y)=some r):(c=true∧x=some r)∨(c=false∧y=some r):=by
  cases c
  · exact .inr ⟨rfl,h⟩
  · exact .inl ⟨rfl,h⟩
abbrev c_ (w:World) (g i:Nat) (v:Value):Prop:=w.cell? ⟨g,i,none⟩=some v
abbrev d_ (w:World) (a:Addr) (i:Nat) (v:Value):Prop:=w.cell? ⟨a.block,a.off+i,none⟩=some v
abbrev ms_:Nat→Nat→List Bool
  | 0,_=>[]
  | n+1,k=>(k%2==1)::ms_ n (k / 2)
abbrev m_ (n k:Nat):Array Bool:=(ms_ n k).toArray
theorem i2_ {α:Type} {c c':Prop} [Decidable c] [Decidable c'] {x:Option α} {r:α} (h:(if c then (if c' then x else none) else none)=some r):decide c=true∧decide c'=true∧x=some r:=⟨(id_ h).1,id_ (id_ h).2⟩
theorem bV_ {P:Program} {ops:Array Oper} {rest:List Oper} {o:Oper} {a:Act} {Q:Exit→Act→World→Prop} {W:World} (N:Tmp) (cs:Array Value) (t:TypeId)
    (h:∀g,g=W.heap.size→∀w1,Aside0 (w1.heap[g]?=some (.cells cs t (0,0)))→Below W.heap.size W w1→wpList P ops Q rest (a.put o.dst (.pointer (some ⟨g,0,none⟩))) w1)
    (hgd:o.guard=none:=by rfl) (hd:o.dst=some N:=by rfl) (hrun:(execOp a.eval o).run P W=.ok (.value (.pointer (some ⟨W.heap.size,0,none⟩))) (W.alloc (.cells cs t (0,0))):=by first|(go_simp;done)|(go_simp;rfl)) :
    wpList P ops Q (o::rest) a W:=box_event hgd hd hrun (fun g hg w1 hb=>h g hg w1 ⟨hb⟩)
section
variable {P:Program} {md:Region.Mode} {ops:Array Oper} {Q:Exit→Act→World→Prop} {S:World→Prop} {ds:List Nat}
theorem nm_ {fuel:Nat} {l:Array Bool} {a a':Act} {w:World} (h:wpAnyLast P md ops Q S ds fuel l a' w) (ha:a=a':=by first|(show Act.put _ (some _) _=_;simp only[fr_];rfl)|(simp only[putAll,fr_];rfl)):wpAnyLast P md ops Q S ds fuel l a w:=norm_ ha h
theorem ho_ {fuel:Nat} {l:Array Bool} {a a':Act} {w:World} {K:Act→World→Prop} (hK:Shut (∀a' w',S w'→(S w'→wpAnyLast P md ops Q S ds fuel l a' w')→K a' w')) (hS:S w) (h:S w→wpAnyLast P md ops Q S ds fuel l a' w)
    (ha:a=a':=by show Act.put _ (some _) _=_;simp only[fr_];rfl):K a w:=hK a w hS (fun s=>norm_ ha (h s))
theorem o1_ {N:Option Tmp} {oi:Oper} {fuel:Nat} {l:Array Bool} {a:Act} {w:World} (i:Nat) (l':Array Bool) {T:_} (hT:Aside0 (rtab md ops=T))
    (h:∀K:Act→World→Prop,Shut (∀a' w',S w'→(S w'→wpAnyLast P md ops Q S ds fuel l' a' w')→K a' w')→if Region.wanted oi (yielded ops a.tmps)=true then Oper.wp P oi a w K Q else K (a.put N undef) w)
    (hi:ops[i]?=some oi:=by rfl) (hN:oi.dst=N:=by rfl) (hc:(readyT T.2 l.toList==[i]&&l.toList.set i true==l'.toList)=true:=by kernel_rfl) (hd:i ∉ ds:=by decide) :
    wpAnyLast P md ops Q S ds (fuel+1) l a w:=one_ l' hi hN (one_of hT.out hc) hd h
theorem l1_ {N:Option Tmp} {oi:Oper} {fuel:Nat} {l:Array Bool} {a:Act} {w:World} (i:Nat) (l':Array Bool) {T:_} (hT:Aside0 (rtab md ops=T))
    (h:∀K:Act→World→Prop,Shut (∀a' w',wpAnyLast P md ops Q S ds fuel l' a' w'→K a' w')→if Region.wanted oi (yielded ops a.tmps)=true then Oper.wp P oi a w K Q else K (a.put N undef) w)
    (hi:ops[i]?=some oi:=by rfl) (hN:oi.dst=N:=by rfl) (hc:(readyT T.2 l.toList==[i]&&l.toList.set i true==l'.toList)=true:=by kernel_rfl) (hd:i∈ds:=by decide) :
    wpAnyLast P md ops Q S ds (fuel+1) l a w:=last_ l' hi hN (one_of hT.out hc) hd h
theorem qw_ {fuel:Nat} {a a':Act} {w:World} {oi:Oper} {n:Nat} {v:Value} (i:Nat) {l:Array Bool} (l':Array Bool) {T:_} (hT:Aside0 (rtab md ops=T)) (h:wpAnyLast P md ops Q S ds fuel l' a' w)
    (hi:ops[i]?=some oi:=by rfl) (hN:oi.dst=some n:=by rfl) (h1:Region.wanted oi (yielded ops a.tmps)=true:=by rfl)
    (h2:∀w,(execOp a.eval oi).run P w=.ok (.value v) w:=by intro w';go_simp;with_reducible rfl) (ha:a.put (some n) v=a':=by simp only[fr_];rfl)
    (hc:anyT T l.toList l'.toList i=true:=by kernel_rfl) (hQ:∀c a w,Q (.panic c) (a.put oi.dst v) w→Q (.panic c) a w:=by exact fun _ _ _ h=>h) :
    wpAnyLast P md ops Q S ds (fuel+1) l a w:=pure_ l' hi hN (any_of hT.out hc) hQ (Or.inl ⟨h1,h2⟩) ha h
theorem qv_ {fuel:Nat} {a a':Act} {w:World} {oi:Oper} {n:Nat} (i:Nat) {l:Array Bool} (l':Array Bool) {T:_} (hT:Aside0 (rtab md ops=T)) (h:wpAnyLast P md ops Q S ds fuel l' a' w)
    (hi:ops[i]?=some oi:=by rfl) (hN:oi.dst=some n:=by rfl) (h1:Region.wanted oi (yielded ops a.tmps)=false:=by rfl) (ha:a.put (some n) undef=a':=by simp only[fr_];rfl)
    (hc:anyT T l.toList l'.toList i=true:=by kernel_rfl) (hQ:∀c a w,Q (.panic c) (a.put oi.dst undef) w→Q (.panic c) a w:=by exact fun _ _ _ h=>h) :
    wpAnyLast P md ops Q S ds (fuel+1) l a w:=pure_ l' hi hN (any_of hT.out hc) hQ (Or.inr ⟨h1,rfl⟩) ha h
theorem qt_ {fuel:Nat} {a a':Act} {w:World} {oi:Oper} {n:Nat} {v:Value} {B:List Nat} (i:Nat) {l:Array Bool} (l':Array Bool) {T:_} (hT:Aside0 (rtab md ops=T)) (hW:Aside0 (waitsOk T.2 B=true)) (hS:S w) (h:wpAnyLast P md ops Q S ds fuel l' a' w)
    (hi:ops[i]?=some oi:=by rfl) (hN:oi.dst=some n:=by rfl) (h1:Region.wanted oi (yielded ops a.tmps)=true:=by rfl)
    (h2:∀w,S w→(execOp a.eval oi).run P w=.ok (.value v) w:=by intro w' hs_;(try simp only[c_,d_] at hs_);go_simp;with_reducible rfl) (ha:a.put (some n) v=a':=by simp only[fr_];rfl)
    (hc:takeW T B ds l.toList l'.toList i=true:=by kernel_rfl) (hQ:∀c a w,Q (.panic c) (a.put oi.dst v) w→Q (.panic c) a w:=by exact fun _ _ _ h=>h) :
    wpAnyLast P md ops Q S ds (fuel+1) l a w:=take_ l' hi hN (take_ofW hT.out hW.out hc) hQ (Or.inl ⟨h1,h2⟩) hS ha h
theorem p_ {fuel:Nat} {a a':Act} {w:World} {oi:Oper} {n i m:Nat} {v:Value} {T:_} (hT:Aside0 (rtab md ops=T)) (h:wpAnyLast P md ops Q S ds fuel (b_ (i+1) m) a' w)
    (hi:ops[i]?=some oi:=by rfl) (hN:oi.dst=some n:=by rfl) (h1:Region.wanted oi (yielded ops a.tmps)=true:=by rfl)
    (h2:∀w,(execOp a.eval oi).run P w=.ok (.value v) w:=by intro w';go_simp;with_reducible rfl) (ha:a.put (some n) v=a':=by simp only[fr_];rfl)
    (hc:anyT T (b_ i (m+1)).toList (b_ (i+1) m).toList i=true:=by kernel_rfl) (hQ:∀c a w,Q (.panic c) (a.put oi.dst v) w→Q (.panic c) a w:=by exact fun _ _ _ h=>h) :
    wpAnyLast P md ops Q S ds (fuel+1) (b_ i (m+1)) a w:=qw_ i _ hT h hi hN h1 h2 ha hc hQ
theorem v_ {fuel:Nat} {a a':Act} {w:World} {oi:Oper} {n i m:Nat} {T:_} (hT:Aside0 (rtab md ops=T)) (h:wpAnyLast P md ops Q S ds fuel (b_ (i+1) m) a' w)
    (hi:ops[i]?=some oi:=by rfl) (hN:oi.dst=some n:=by rfl) (h1:Region.wanted oi (yielded ops a.tmps)=false:=by rfl) (ha:a.put (some n) undef=a':=by simp only[fr_];rfl)
    (hc:anyT T (b_ i (m+1)).toList (b_ (i+1) m).toList i=true:=by kernel_rfl) (hQ:∀c a w,Q (.panic c) (a.put oi.dst undef) w→Q (.panic c) a w:=by exact fun _ _ _ h=>h) :
    wpAnyLast P md ops Q S ds (fuel+1) (b_ i (m+1)) a w:=qv_ i _ hT h hi hN h1 ha hc hQ
theorem t0_ {fuel:Nat} {a a':Act} {w:World} {oi:Oper} {n i m:Nat} {v:Value} {B:List Nat} {T:_} (hT:Aside0 (rtab md ops=T)) (hW:Aside0 (waitsOk T.2 B=true)) (hS:S w) (h:wpAnyLast P md ops Q S ds fuel (b_ (i+1) m) a' w)
    (hi:ops[i]?=some oi:=by rfl) (hN:oi.dst=some n:=by rfl) (h1:Region.wanted oi (yielded ops a.tmps)=true:=by rfl)
    (h2:∀w,S w→(execOp a.eval oi).run P w=.ok (.value v) w:=by intro w' hs_;(try simp only[c_,d_] at hs_);go_simp;with_reducible rfl) (ha:a.put (some n) v=a':=by simp only[fr_];rfl)
    (hc:takeW T B ds (b_ i (m+1)).toList (b_ (i+1) m).toList i=true:=by kernel_rfl) (hQ:∀c a w,Q (.panic c) (a.put oi.dst v) w→Q (.panic c) a w:=by exact fun _ _ _ h=>h) :
    wpAnyLast P md ops Q S ds (fuel+1) (b_ i (m+1)) a w:=qt_ i _ hT hW hS h hi hN h1 h2 ha hc hQ
end
theorem M_ {p:Prop} (h:p):Aside0 p:=⟨h⟩
theorem rs_ {p:Prop} (h:p:=by first|rfl|(simp;done)|(simp[*];done)):p:=h
theorem rr_ {p:Prop} (h:p:=by first|rfl|(simp[errW_none,errW_some]<;>rfl)|(simp[*,errW_none,errW_some]<;>rfl)):p:=h
theorem ni_ {p:Prop} (h:p:=by first|exact Kd.S_nil _ _ _ _ _|exact Kd.R_nil _ _ _ _ _):p:=h
theorem hm_ {p:Prop} (h:p:=by first|(rw[hy_];with_reducible exact H)|(have H2_:=(Option.bind_some _ _).symm.trans H;rw[hy_];with_reducible exact H2_)|(have H2_:=(Option.bind_some _ _).symm.trans H;with_reducible exact H2_)|with_reducible exact H|(rw[hy_];exact H)|exact H):p:=h
theorem pq_ {i n:Int} (h:decide (0≤i)=true:=by with_reducible assumption) (k:decide (i<n)=true:=by with_reducible assumption):0≤i∧i<n:=⟨of_decide_eq_true h,of_decide_eq_true k⟩
theorem sy_ {α:Type} {d:Kd α} {e base:Nat} {ok:Nat→Prop} {v:Value} {xs:List α} {W w:World} {g:Nat} {cs:Array Value} {t:TypeId} (h:Kd.S d e w base ok v xs) (b:w.heap[g]?=some (.cells cs t (0,0))) [hp:Sg_ w W g] (ht:∀q,q∈e::d.E→q≠t:=by decide):Kd.S d e W base ok v xs:=Kd.S_mono (sf_ g (Kd.S_types h b ht) (fun _ hk=>hk.2)) (fun _ hk=>hk.1)
theorem ry_ {α:Type} {d:Kd α} {e base:Nat} {ok:Nat→Prop} {v:Value} {xs:List α} {W w:World} {g:Nat} {cs:Array Value} {t:TypeId} (h:Kd.R d e w base ok v xs) (b:w.heap[g]?=some (.cells cs t (0,0))) [hp:Sg_ w W g] (ht:∀q,q∈e::d.E→q≠t:=by decide):Kd.R d e W base ok v xs:=Kd.R_mono (rf_ g (Kd.R_types h b ht) (fun _ hk=>hk.2)) (fun _ hk=>hk.1)
section
variable {α:Type} {d:Kd α} {e base n g:Nat} {ok:Nat→Prop} {v:Value} {xs:List α} {w0 w W w1:World}
theorem se_ [hp:Pk_ W w] (h:Aside0 (Kd.S d e w base ok v xs)) (hg:g=W.heap.size) (hb:Below W.heap.size W w1):Aside0 (Kd.S d e w1 base (fun k=>ok k∧k≠g) v xs):=⟨Kd.S_below (Kd.S_elderB (sp_ h.out) g (Nat.le_of_eq hg.symm)) hb⟩
theorem su_ (hz:n=W.heap.size) (h:Kd.S d e W base ok v xs) (hb:Below W.heap.size W w1):Aside0 (Kd.S d e w1 base (fun k=>ok k∧k<n) v xs):=⟨Kd.S_below (Kd.S_mono (Kd.S_bound h) (fun k hk=>⟨hk.1,by have:=hk.2.2.1;omega⟩)) hb⟩
theorem ru_ (hz:n=W.heap.size) (h:Kd.R d e W base ok v xs) (hb:Below W.heap.size W w1):Aside0 (Kd.R d e w1 base (fun k=>ok k∧k<n) v xs):=⟨Kd.R_below (Kd.R_mono (Kd.R_bound h) (fun k hk=>⟨hk.1,by have:=hk.2.2.1;omega⟩)) hb⟩
theorem sg_ [hp:Bw_ w0 w W] (hz:n=W.heap.size) (h:Kd.S d e w1 W.heap.size ok v xs) (hb:Aside0 (Below w0.heap.size w0 w)):Aside0 (Kd.S d e w1 w0.heap.size (fun k=>ok k∧n≤k) v xs):=⟨Kd.S_lower (Kd.S_mono (Kd.S_bound h) (fun k hk=>⟨hk.1,by have:=hk.2.1;omega⟩)) (below_size (hs_ hb.out))⟩
theorem rg_ [hp:Bw_ w0 w W] (hz:n=W.heap.size) (h:Kd.R d e w1 W.heap.size ok v xs) (hb:Aside0 (Below w0.heap.size w0 w)):Aside0 (Kd.R d e w1 w0.heap.size (fun k=>ok k∧n≤k) v xs):=⟨Kd.R_lower (Kd.R_mono (Kd.R_bound h) (fun k hk=>⟨hk.1,by have:=hk.2.1;omega⟩)) (below_size (hs_ hb.out))⟩
theorem sw_ [hp:Bw_ w0 w W] (h:Kd.S d e w1 W.heap.size ok v xs) (hb:Aside0 (Below w0.heap.size w0 w)):Aside0 (Kd.S d e w1 w0.heap.size ok v xs):=⟨Kd.S_lower h (below_size (hs_ hb.out))⟩
theorem rw_ [hp:Bw_ w0 w W] (h:Kd.R d e w1 W.heap.size ok v xs) (hb:Aside0 (Below w0.heap.size w0 w)):Aside0 (Kd.R d e w1 w0.heap.size ok v xs):=⟨Kd.R_lower h (below_size (hs_ hb.out))⟩
theorem gq_ [hp:Bw_ w0 w W] (hg:g=W.heap.size) (hb:Aside0 (Below w0.heap.size w0 w)):Ge_ w0.heap.size g:=⟨gw_ hg (hs_ hb.out)⟩
theorem nb_ {o:Obj} [hp:Pk_ W w] (h:Aside0 (w.heap[n]?=some o)) (hg:g=W.heap.size) (hb:Below W.heap.size W w1):Ne_ n g∧Ne_ g n∧Aside0 (w1.heap[n]?=some o):=⟨nk_ h hg,ns_ (nk_ h hg),⟨blk_below (pb_ h.out) hb⟩⟩
theorem by_ {t:TypeId} {cs cs':Array Value} [hp:Bc_ w W g cs cs'] (h:Aside0 (w.heap[g]?=some (.cells cs t (0,0)))) (cs2:Array Value) (hb:Below W.heap.size W w1) (e:cs'=cs2:=by rfl):Aside0 (w1.heap[g]?=some (.cells cs2 t (0,0))):=⟨blk_below (bp_ h.out e) hb⟩
theorem wq_ {o:Obj} [hp:Bq_ w W g] (e:W=w1) (h:Aside0 (w.heap[g]?=some o)):Aside0 (w1.heap[g]?=some o):=⟨e▸bq_ h.out⟩
theorem wp_ {t:TypeId} {cs cs':Array Value} [hp:Bc_ w W g cs cs'] (e:W=w1) (cs2:Array Value) (h:Aside0 (w.heap[g]?=some (.cells cs t (0,0)))) (e2:cs'=cs2:=by rfl):Aside0 (w1.heap[g]?=some (.cells cs2 t (0,0))):=⟨e▸bp_ h.out e2⟩
theorem wb_ [hp:Bw_ w0 w W] (e:W=w1) (h:Aside0 (Below w0.heap.size w0 w)):Aside0 (Below w0.heap.size w0 w1):=⟨e▸hs_ h.out⟩
theorem db_ (h:Aside0 (Below base w W)):Aside0 (Below base w W.drew):=⟨bd_ h.out⟩
theorem ws_ (e2:W=w1) (h:Kd.S d e W base ok v xs):Aside0 (Kd.S d e w1 base ok v xs):=⟨e2▸h⟩
theorem wr_ (e2:W=w1) (h:Kd.R d e W base ok v xs):Aside0 (Kd.R d e w1 base ok v xs):=⟨e2▸h⟩
theorem n2_ {a b:Nat} (h:Ne_ a b):a≠b∧b≠a:=⟨h.out,h.out.symm⟩
class Up_ (W w1:World) (p:Prop) (q:outParam Prop):Prop where mk::(go:Below W.heap.size W w1→p→q)
instance up0_ {o:Obj} [hp:Bq_ w W g]:Up_ W w1 (w.heap[g]?=some o) (w1.heap[g]?=some o):=⟨fun hb h=>blk_below (hp.go o h) hb⟩
instance up1_ [hp:Pk_ W w]:Up_ W w1 (Kd.S d e w base ok v xs) (Kd.S d e w1 base ok v xs):=⟨fun hb h=>Kd.S_below (sp_ h) hb⟩
instance up2_ [hp:Pk_ W w]:Up_ W w1 (Kd.R d e w base ok v xs) (Kd.R d e w1 base ok v xs):=⟨fun hb h=>Kd.R_below (rp_ h) hb⟩
instance up3_ [hp:Bw_ w0 w W]:Up_ W w1 (Below w0.heap.size w0 w) (Below w0.heap.size w0 w1):=⟨fun hb h=>below_step (hp.go h) hb⟩
theorem u2_ {p0 q0 p1 q1:Prop} (hb:Below W.heap.size W w1) [u0:Up_ W w1 p0 q0] [u1:Up_ W w1 p1 q1] (h0:Aside0 p0) (h1:Aside0 p1):Aside0 q0∧Aside0 q1:=⟨⟨u0.go hb h0.out⟩,⟨u1.go hb h1.out⟩⟩
theorem u3_ {p0 q0 p1 q1 p2 q2:Prop} (hb:Below W.heap.size W w1) [u0:Up_ W w1 p0 q0] [u1:Up_ W w1 p1 q1] [u2:Up_ W w1 p2 q2] (h0:Aside0 p0) (h1:Aside0 p1) (h2:Aside0 p2):Aside0 q0∧Aside0 q1∧Aside0 q2:=⟨⟨u0.go hb h0.out⟩,⟨u1.go hb h1.out⟩,⟨u2.go hb h2.out⟩⟩
theorem u4_ {p0 q0 p1 q1 p2 q2 p3 q3:Prop} (hb:Below W.heap.size W w1) [u0:Up_ W w1 p0 q0] [u1:Up_ W w1 p1 q1] [u2:Up_ W w1 p2 q2] [u3:Up_ W w1 p3 q3] (h0:Aside0 p0) (h1:Aside0 p1) (h2:Aside0 p2) (h3:Aside0 p3):Aside0 q0∧Aside0 q1∧Aside0 q2∧Aside0 q3:=⟨⟨u0.go hb h0.out⟩,⟨u1.go hb h1.out⟩,⟨u2.go hb h2.out⟩,⟨u3.go hb h3.out⟩⟩
theorem u5_ {p0 q0 p1 q1 p2 q2 p3 q3 p4 q4:Prop} (hb:Below W.heap.size W w1) [u0:Up_ W w1 p0 q0] [u1:Up_ W w1 p1 q1] [u2:Up_ W w1 p2 q2] [u3:Up_ W w1 p3 q3] [u4:Up_ W w1 p4 q4] (h0:Aside0 p0) (h1:Aside0 p1) (h2:Aside0 p2) (h3:Aside0 p3) (h4:Aside0 p4):Aside0 q0∧Aside0 q1∧Aside0 q2∧Aside0 q3∧Aside0 q4:=⟨⟨u0.go hb h0.out⟩,⟨u1.go hb h1.out⟩,⟨u2.go hb h2.out⟩,⟨u3.go hb h3.out⟩,⟨u4.go hb h4.out⟩⟩
theorem u6_ {p0 q0 p1 q1 p2 q2 p3 q3 p4 q4 p5 q5:Prop} (hb:Below W.heap.size W w1) [u0:Up_ W w1 p0 q0] [u1:Up_ W w1 p1 q1] [u2:Up_ W w1 p2 q2] [u3:Up_ W w1 p3 q3] [u4:Up_ W w1 p4 q4] [u5:Up_ W w1 p5 q5] (h0:Aside0 p0) (h1:Aside0 p1) (h2:Aside0 p2) (h3:Aside0 p3) (h4:Aside0 p4) (h5:Aside0 p5):Aside0 q0∧Aside0 q1∧Aside0 q2∧Aside0 q3∧Aside0 q4∧Aside0 q5:=⟨⟨u0.go hb h0.out⟩,⟨u1.go hb h1.out⟩,⟨u2.go hb h2.out⟩,⟨u3.go hb h3.out⟩,⟨u4.go hb h4.out⟩,⟨u5.go hb h5.out⟩⟩
theorem u7_ {p0 q0 p1 q1 p2 q2 p3 q3 p4 q4 p5 q5 p6 q6:Prop} (hb:Below W.heap.size W w1) [u0:Up_ W w1 p0 q0] [u1:Up_ W w1 p1 q1] [u2:Up_ W w1 p2 q2] [u3:Up_ W w1 p3 q3] [u4:Up_ W w1 p4 q4] [u5:Up_ W w1 p5 q5] [u6:Up_ W w1 p6 q6] (h0:Aside0 p0) (h1:Aside0 p1) (h2:Aside0 p2) (h3:Aside0 p3) (h4:Aside0 p4) (h5:Aside0 p5) (h6:Aside0 p6):Aside0 q0∧Aside0 q1∧Aside0 q2∧Aside0 q3∧Aside0 q4∧Aside0 q5∧Aside0 q6:=⟨⟨u0.go hb h0.out⟩,⟨u1.go hb h1.out⟩,⟨u2.go hb h2.out⟩,⟨u3.go hb h3.out⟩,⟨u4.go hb h4.out⟩,⟨u5.go hb h5.out⟩,⟨u6.go hb h6.out⟩⟩
theorem u8_ {p0 q0 p1 q1 p2 q2 p3 q3 p4 q4 p5 q5 p6 q6 p7 q7:Prop} (hb:Below W.heap.size W w1) [u0:Up_ W w1 p0 q0] [u1:Up_ W w1 p1 q1] [u2:Up_ W w1 p2 q2] [u3:Up_ W w1 p3 q3] [u4:Up_ W w1 p4 q4] [u5:Up_ W w1 p5 q5] [u6:Up_ W w1 p6 q6] [u7:Up_ W w1 p7 q7] (h0:Aside0 p0) (h1:Aside0 p1) (h2:Aside0 p2) (h3:Aside0 p3) (h4:Aside0 p4) (h5:Aside0 p5) (h6:Aside0 p6) (h7:Aside0 p7):Aside0 q0∧Aside0 q1∧Aside0 q2∧Aside0 q3∧Aside0 q4∧Aside0 q5∧Aside0 q6∧Aside0 q7:=⟨⟨u0.go hb h0.out⟩,⟨u1.go hb h1.out⟩,⟨u2.go hb h2.out⟩,⟨u3.go hb h3.out⟩,⟨u4.go hb h4.out⟩,⟨u5.go hb h5.out⟩,⟨u6.go hb h6.out⟩,⟨u7.go hb h7.out⟩⟩
theorem u10_ {p0 q0 p1 q1 p2 q2 p3 q3 p4 q4 p5 q5 p6 q6 p7 q7 p8 q8 p9 q9:Prop} (hb:Below W.heap.size W w1) [u0:Up_ W w1 p0 q0] [u1:Up_ W w1 p1 q1] [u2:Up_ W w1 p2 q2] [u3:Up_ W w1 p3 q3] [u4:Up_ W w1 p4 q4] [u5:Up_ W w1 p5 q5] [u6:Up_ W w1 p6 q6] [u7:Up_ W w1 p7 q7] [u8:Up_ W w1 p8 q8] [u9:Up_ W w1 p9 q9] (h0:Aside0 p0) (h1:Aside0 p1) (h2:Aside0 p2) (h3:Aside0 p3) (h4:Aside0 p4) (h5:Aside0 p5) (h6:Aside0 p6) (h7:Aside0 p7) (h8:Aside0 p8) (h9:Aside0 p9):Aside0 q0∧Aside0 q1∧Aside0 q2∧Aside0 q3∧Aside0 q4∧Aside0 q5∧Aside0 q6∧Aside0 q7∧Aside0 q8∧Aside0 q9:=⟨⟨u0.go hb h0.out⟩,⟨u1.go hb h1.out⟩,⟨u2.go hb h2.out⟩,⟨u3.go hb h3.out⟩,⟨u4.go hb h4.out⟩,⟨u5.go hb h5.out⟩,⟨u6.go hb h6.out⟩,⟨u7.go hb h7.out⟩,⟨u8.go hb h8.out⟩,⟨u9.go hb h9.out⟩⟩
class Dw_ (p:Prop) (q:outParam Prop):Prop where mk::(go:p→q)
instance dw0_ {o:Obj}:Dw_ (w.heap[g]?=some o) (w.drew.heap[g]?=some o):=⟨fun h=>blk_drew h⟩
instance dw1_:Dw_ (Kd.S d e w base ok v xs) (Kd.S d e w.drew base ok v xs):=⟨fun h=>Kd.S_drew h⟩
instance dw2_:Dw_ (Kd.R d e w base ok v xs) (Kd.R d e w.drew base ok v xs):=⟨fun h=>Kd.R_drew h⟩
instance dw3_:Dw_ (Below base w W) (Below base w W.drew):=⟨fun h=>bd_ h⟩
theorem y2_ {p0 q0 p1 q1:Prop} [u0:Dw_ p0 q0] [u1:Dw_ p1 q1] (h0:Aside0 p0) (h1:Aside0 p1):Aside0 q0∧Aside0 q1:=⟨⟨u0.go h0.out⟩,⟨u1.go h1.out⟩⟩
theorem y3_ {p0 q0 p1 q1 p2 q2:Prop} [u0:Dw_ p0 q0] [u1:Dw_ p1 q1] [u2:Dw_ p2 q2] (h0:Aside0 p0) (h1:Aside0 p1) (h2:Aside0 p2):Aside0 q0∧Aside0 q1∧Aside0 q2:=⟨⟨u0.go h0.out⟩,⟨u1.go h1.out⟩,⟨u2.go h2.out⟩⟩
theorem y4_ {p0 q0 p1 q1 p2 q2 p3 q3:Prop} [u0:Dw_ p0 q0] [u1:Dw_ p1 q1] [u2:Dw_ p2 q2] [u3:Dw_ p3 q3] (h0:Aside0 p0) (h1:Aside0 p1) (h2:Aside0 p2) (h3:Aside0 p3):Aside0 q0∧Aside0 q1∧Aside0 q2∧Aside0 q3:=⟨⟨u0.go h0.out⟩,⟨u1.go h1.out⟩,⟨u2.go h2.out⟩,⟨u3.go h3.out⟩⟩
theorem y5_ {p0 q0 p1 q1 p2 q2 p3 q3 p4 q4:Prop} [u0:Dw_ p0 q0] [u1:Dw_ p1 q1] [u2:Dw_ p2 q2] [u3:Dw_ p3 q3] [u4:Dw_ p4 q4] (h0:Aside0 p0) (h1:Aside0 p1) (h2:Aside0 p2) (h3:Aside0 p3) (h4:Aside0 p4):Aside0 q0∧Aside0 q1∧Aside0 q2∧Aside0 q3∧Aside0 q4:=⟨⟨u0.go h0.out⟩,⟨u1.go h1.out⟩,⟨u2.go h2.out⟩,⟨u3.go h3.out⟩,⟨u4.go h4.out⟩⟩
theorem y6_ {p0 q0 p1 q1 p2 q2 p3 q3 p4 q4 p5 q5:Prop} [u0:Dw_ p0 q0] [u1:Dw_ p1 q1] [u2:Dw_ p2 q2] [u3:Dw_ p3 q3] [u4:Dw_ p4 q4] [u5:Dw_ p5 q5] (h0:Aside0 p0) (h1:Aside0 p1) (h2:Aside0 p2) (h3:Aside0 p3) (h4:Aside0 p4) (h5:Aside0 p5):Aside0 q0∧Aside0 q1∧Aside0 q2∧Aside0 q3∧Aside0 q4∧Aside0 q5:=⟨⟨u0.go h0.out⟩,⟨u1.go h1.out⟩,⟨u2.go h2.out⟩,⟨u3.go h3.out⟩,⟨u4.go h4.out⟩,⟨u5.go h5.out⟩⟩
theorem y9_ {p0 q0 p1 q1 p2 q2 p3 q3 p4 q4 p5 q5 p6 q6 p7 q7 p8 q8:Prop} [u0:Dw_ p0 q0] [u1:Dw_ p1 q1] [u2:Dw_ p2 q2] [u3:Dw_ p3 q3] [u4:Dw_ p4 q4] [u5:Dw_ p5 q5] [u6:Dw_ p6 q6] [u7:Dw_ p7 q7] [u8:Dw_ p8 q8] (h0:Aside0 p0) (h1:Aside0 p1) (h2:Aside0 p2) (h3:Aside0 p3) (h4:Aside0 p4) (h5:Aside0 p5) (h6:Aside0 p6) (h7:Aside0 p7) (h8:Aside0 p8):Aside0 q0∧Aside0 q1∧Aside0 q2∧Aside0 q3∧Aside0 q4∧Aside0 q5∧Aside0 q6∧Aside0 q7∧Aside0 q8:=⟨⟨u0.go h0.out⟩,⟨u1.go h1.out⟩,⟨u2.go h2.out⟩,⟨u3.go h3.out⟩,⟨u4.go h4.out⟩,⟨u5.go h5.out⟩,⟨u6.go h6.out⟩,⟨u7.go h7.out⟩,⟨u8.go h8.out⟩⟩
theorem c2_ {a b:Addr} {x y:Value} (hb:Aside0 (Below w.heap.size w w1)) (h:w.cell? a=some x) (k:w.cell? b=some y):w1.cell? a=some x∧w1.cell? b=some y:=⟨cl_ hb.out h,cl_ hb.out k⟩
theorem c4_ {a b a' b':Addr} {x y x' y':Value} (hb:Aside0 (Below w.heap.size w w1)) (h:w.cell? a=some x) (k:w.cell? b=some y) (h':w.cell? a'=some x') (k':w.cell? b'=some y'):w1.cell? a=some x∧w1.cell? b=some y∧w1.cell? a'=some x'∧w1.cell? b'=some y':=⟨cl_ hb.out h,cl_ hb.out k,cl_ hb.out h',cl_ hb.out k'⟩
end

theorem bg_ {α:Type} {d:Kd α} {e base g t:Nat} {ok:Nat→Prop} {v:Value} {xs:List α} {w W w1:World} {cs:Array Value} [hp:Bq_ w W g] (a:Aside0 (w.heap[g]?=some (.cells cs t (0,0)))) (hg:W.grownBy w1 v.ownBlock) (l:Aside0 (Kd.S d e w base ok v xs)) (ht:e≠t:=by decide):Aside0 (w1.heap[g]?=some (.cells cs t (0,0))):=⟨blk_grown (bq_ a.1) hg (Kd.S_ne l.1 a.1 ht)⟩

end Go.Proofs.YtanfohlpkppeiaaGreat.Print
