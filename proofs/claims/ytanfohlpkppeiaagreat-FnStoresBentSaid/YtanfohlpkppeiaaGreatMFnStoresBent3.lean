import Derived.Test.YtanfohlpkppeiaaGreatMFnStoresBent1
import Derived.Test.YtanfohlpkppeiaaGreatMFnStoresBent2
section
namespace Go.Proofs.YtanfohlpkppeiaaGreat.Print
open Go.RowKit Go.Proofs.YtanfohlpkppeiaaGreatV.PrintWords Go.Proofs.YtanfohlpkppeiaaGreatV.PrintLast Go.Proofs.YtanfohlpkppeiaaGreatV.PrintMore
attribute [local go_sem] max2_int min2_int max_two min_two max_three min_three max_four min_four
set_option linter.unusedVariables false
set_option linter.unusedSimpArgs false
set_option maxHeartbeats 80000000
set_option maxRecDepth 100000
def spec_Finger.f (k:Nat) (c:List S99):Option (Int):=(spec_SetText.f k c).bind fun b=>((spec_Sum.f k b).bind fun a=>(some (Int.tmod (Go.bits .xor .i64 a (a / 65536)) 32)))
theorem spec_Finger.calls (k:Nat) (i:Option Addr) (j:Nat) (b:List S99) (r:Int) (w:World) (c:Kd.C k99 w i b.length b) (d:b.length≤j) (h:spec_Finger.f k b=some r) :
  Calls Tryz.prog 60 #[.slice i b.length j] w fun e w'=>e=.returned (.int .i64 r)∧Below w.heap.size w w':=by
 have l:=M_ c
 have m:=M_ d
 clear c d
 have n:=M_ (Below.refl w.heap.size w)
 unfold spec_Finger.f at h
 have H:=h;clear h
 replace H:=bi_ H;obtain⟨a,o,H⟩:=H
 replace H:=bi_ H;obtain⟨g,p,H⟩:=H
 obtain rfl:=Option.some.inj H
 go_enter Tryz.func60,Tryz.ntmps60
 go_wp2_with (first|((with_reducible refine gate_callee (f:=99) rfl ?_);refine gl_ (some 5) Tryz.func99 #[.slice i b.length j] ?_;(with_reducible refine(spec_SetText.calls k _ _ b a _ ?_ ?_ o.1).mono ?_);exact cp_ (l.1);exact m.1;rintro e q ⟨rfl,hb⟩;refine⟨_,rfl,?_⟩;replace n:=st_ n hb;(try clear hb))|((with_reducible refine gate_callee (f:=98) rfl ?_);refine gl_ (some 6) Tryz.func98 #[.string a] ?_;(with_reducible refine(spec_Sum.calls k a g _ p.1).mono ?_);rintro e w' ⟨rfl,⟨s,rfl⟩⟩;refine⟨_,rfl,?_⟩))
 go_ret
 exact an_ (hs_ n.1)
def spec_PartOf.f (b:Int) (a:Int):Option (Int):=if a<1 then (some 0) else (if b<0 then (some 0) else (if a=0 then (none) else (some (Int.tmod b a))))
theorem spec_PartOf.calls (i:Int) (a:Int) (r:Int) (w:World) (h:spec_PartOf.f i a=some r) :
  Calls Tryz.prog 77 #[.int .i64 i,.int .i64 a] w fun e w'=>e=.returned (.int .i64 r)∧Drawn0 w w':=by
 unfold spec_PartOf.f at h
 have H:=h;clear h
 replace H:=ie_ H;rcases H with⟨b,H⟩|⟨b,H⟩
 ·
  have c:=decide_eq_true b
  clear b
  obtain rfl:=Option.some.inj H
  go_enter Tryz.func77,Tryz.ntmps77
  go_wp2
  go_ret
  exact⟨by first|rfl|(simp;done)|(simp[*];done),by repeat (first|exact Drawn0.refl _|apply Drawn0.step)⟩
 have c:decide (a<1)=false:=decide_eq_false b
 clear b
 replace H:=ie_ H;rcases H with⟨d,H⟩|⟨d,H⟩
 ·
  have g:=decide_eq_true d
  clear d
  obtain rfl:=Option.some.inj H
  go_enter Tryz.func77,Tryz.ntmps77
  go_wp2
  go_ret
  exact⟨by first|rfl|(simp;done)|(simp[*];done),by repeat (first|exact Drawn0.refl _|apply Drawn0.step)⟩
 have g:decide (i<0)=false:=decide_eq_false d
 clear d
 replace H:=io_ H;obtain⟨j,H⟩:=H
 have k:(a==0)=false:=beq_eq_false_iff_ne.mpr j
 have l:(a !=0)=true:=bne_iff_ne.mpr j
 obtain rfl:=Option.some.inj H
 go_enter Tryz.func77,Tryz.ntmps77
 go_wp2
 go_ret
 exact⟨by first|rfl|(simp;done)|(simp[*];done),by repeat (first|exact Drawn0.refl _|apply Drawn0.step)⟩
def spec_HomeOf.f (k:Nat) (c:List S26) (d:List S99):Option (Int):=(spec_Finger.f k d).bind fun a=>((spec_PartOf.f a (c.length:Int)).bind fun b=>(some b))
theorem spec_HomeOf.calls (k:Nat) (s:Option Addr) (t:Nat) (b:List S26) (m:Option Addr) (n:Nat) (c:List S99) (r:Int) (w:World) (d:Kd.C k26 w s b.length b) (g:b.length≤t) (i:Kd.C k99 w m c.length c) (j:c.length≤n) (h:spec_HomeOf.f k b c=some r) :
  Calls Tryz.prog 48 #[.slice s b.length t,.slice m c.length n] w fun e w'=>e=.returned (.int .i64 r)∧Below w.heap.size w w':=by
 have u:=M_ d
 have v:=M_ g
 clear d g
 have o:=M_ i
 have p:=M_ j
 clear i j
 have q:=M_ (Below.refl w.heap.size w)
 unfold spec_HomeOf.f at h
 have H:=h;clear h
 replace H:=bi_ H;obtain⟨a,x,H⟩:=H
 replace H:=bi_ H;obtain⟨l,y,H⟩:=H
 obtain rfl:=Option.some.inj H
 go_enter Tryz.func48,Tryz.ntmps48
 go_wp2_with (first|((with_reducible refine gate_callee (f:=60) rfl ?_);refine gl_ (some 6) Tryz.func60 #[.slice m c.length n] ?_;(with_reducible refine(spec_Finger.calls k _ _ c a _ ?_ ?_ x.1).mono ?_);exact cp_ (o.1);exact p.1;rintro e z ⟨rfl,hb⟩;refine⟨_,rfl,?_⟩;replace q:=st_ q hb;(try clear hb))|((with_reducible refine gate_callee (f:=77) rfl ?_);refine gl_ (some 9) Tryz.func77 #[.int .i64 a,.int .i64 (b.length:Int)] ?_;(with_reducible refine(spec_PartOf.calls a (b.length:Int) l _ y.1).mono ?_);rintro e w' ⟨rfl,⟨A,rfl⟩⟩;refine⟨_,rfl,?_⟩))
 go_ret
 exact an_ (hs_ q.1)
def spec_l4Copy.f (a:List S99) (c:Int) (d:Int) (e:ByteArray):Option ((List S99)×Int×Int×ByteArray):=(some (([]:List S99):List S99)).bind fun b=>(if b.length+a.length<4398046511104 then (some ((b++a),c,d,e)) else (none))
theorem spec_l4Copy.calls (o:Option Addr) (q:Nat) (d:List S99) (g:Int) (i:Int) (j:ByteArray) (K:List S99) (L:Int) (M:Int) (O:ByteArray) (w:World) (r:Kd.C k99 w o d.length d) (s:d.length≤q) (h:spec_l4Copy.f d g i j=some (K,L,M,O)) :
  Calls Tryz.prog 63 #[.agg #[.slice o d.length q,.int .i64 g,.int .i64 i,.string j]] w fun e w'=>∃v0_:Value,e=.returned (.agg #[v0_,.int .i64 L,.int .i64 M,.string O])∧Kd.R k99 99 w' w.heap.size (fun _=>True) v0_ K∧Below w.heap.size w w':=by
 have hu29:=Tryz.underlying29
 have B:=M_ r
 have P:=M_ s
 clear r s
 have m:=M_ (Below.refl w.heap.size w)
 unfold spec_l4Copy.f at h
 have H:=h;clear h
 obtain⟨n,hy_⟩:∃y_:List S99,y_=(([]:List S99)):=⟨_,rfl⟩
 replace H:(if n.length+d.length<4398046511104 then (some ((n++d),g,i,j)) else (none))=some (K,L,M,O):=hm_
 have t:=M_ hy_;clear hy_
 replace H:=im_ H;obtain⟨G,H⟩:=H
 obtain⟨u,hy_⟩:∃y_:List S99,y_=(n++d):=⟨_,rfl⟩
 replace H:(some (u,g,i,j))=some (K,L,M,O):=hm_
 have D:=M_ hy_;clear hy_
 simp only[Option.some.injEq,Prod.mk.injEq] at H
 obtain⟨rfl,rfl,rfl,rfl⟩:=H
 go_enter Tryz.func63,Tryz.ntmps63
 go_wp2_with (first|((with_reducible refine gd_ 1 rfl ?_);refine bV_ 1 #[.slice o d.length q,.int .i64 g,.int .i64 i,.string j] 29 ?_;intro E hg w3 a hb;have Q:=gq_ hg m;replace m:=st_ m hb;clear hb hg)|((with_reducible refine gd_ 2 rfl ?_);refine bV_ 2 #[.slice none 0 0,.int .i64 0,.int .i64 0,.string (⟨#[]⟩:ByteArray)] 29 ?_;intro v hg w4 c hb;have S:=gq_ hg m;replace m:=st_ m hb;obtain⟨l,F,a⟩:=nb_ a hg hb;clear hb hg)|((with_reducible refine gd_ 3 rfl ?_);refine Kd.R_lit k99 _ 99 ?hg (N:=3) ?hd (xs:=([]:List S99)) (inner:=[]) (ok:=fun _=>True) (okp:=fun _=>True) ?hr ?hp (fun _ hk=>hk) trivial (Below.refl _ _) (Nat.le_refl _) (by simp) ?_;(case hd=>rfl);(case hg=>rfl);(case hr=>first|(go_simp;done)|(go_simp;rfl));(case hp=>exact(Reps.none _ _));intro I w5 x hb hg_ hnew_;clear hg_ hnew_;(first|rw[←t.1] at x|(simp only[Int.reduceToNat] at x;rw[←t.1] at x));have k:=rw_ x m;obtain⟨a,c,m⟩:=u3_ hb a c m;clear hb x;have ja:=n2_ l;obtain⟨ka,la,ma,na,oa,pa,qa,ra⟩:=bc4_ a.1)|((with_reducible refine gate_builtin (b:=.append) (xs:=#[.tmp 3,.tmp 5]) rfl ?_);at_builtin;refine Kd.R_append_rows k99 (w0:=w) w.heap.size rfl (.tmp 3) (.tmp 5) 27 99 (.agg #[(.string ⟨#[]⟩),(.string ⟨#[]⟩)]) 32 rfl Tryz.underlying27 info99 rfl (by decide) (by omega) I n d _ _ _ (fun _=>True) (fun _=>False) rfl rfl ?aO ?aR (fun _ _ h=>h) (fun _ h=>h.elim) ?aF ?aB ?aS ?aL ?_;(case aR=>repeat (first|exact(Kd.C_below B.1 m.1)|(with_reducible first|refine ca_ ?_ _|refine cn_ ?_ _|refine cd_ ?_)));(case aB=>exact(hs_ m.1));(case aF=>exact(fun _ _=>trivial));(case aO=>exact(rp_ k.1));(case aS=>exact(below_size (hs_ m.1)));(case aL=>have:=G.1;omega);intro sa w9 ho hb hg hat;rw[←D.1] at ho;replace a:=M_ (blk_grown (bq_ a.1) hg (Kd.R_ne k.1 a.1 (by decide)));replace c:=M_ (blk_grown (bq_ c.1) hg (Kd.R_ne k.1 c.1 (by decide)));replace m:=M_ (hb);have y:=M_ (ho);clear k;clear ho hb hg hat;obtain⟨z,A,J⟩:=Kd.R_slice y.1;subst J;obtain⟨T,U,V,W,X,Y,Z,aa⟩:=bc4_ a.1;obtain⟨ba,ca,da,ea,fa,ga,ha,ia⟩:=bc4_ c.1))
 refine bodyPost_ret (results_cell_row rfl _ _ v 29 #[.slice z u.length A,.int .i64 g,.int .i64 i,.string j] (0,0) _ rfl (bp_ c.1) Tryz.underlying29 rfl (by kernel_rfl)) rfl ?_
 exact⟨_,rr_,Kd.R_mono (rf_ v (Kd.R_far (p:=⟨E,0,none⟩) (Kd.R_types (Kd.R_types y.1 a.1 (by decide)) c.1 (by decide)) (fun _ hk=>hk.1.2) (.slice z u.length A)) (fun _ hk=>hk.2)) (fun _ hk=>trivial),hs_ m.1⟩
def spec_l4All.l0:Nat→List S29→List S29→Int→Option ((List S29))
 | 0,_,_,_=>none
 | k+1,c,d,b=>if b<(c.length:Int) then (if 0≤b then ((spec_l4Copy.f ((rd_T29 c b).f0) ((rd_T29 c b).f1) ((rd_T29 c b).f2) ((rd_T29 c b).f3)).bind fun a=>(if d.length<2513169434916 then (spec_l4All.l0 k c (d++[(⟨a.1,a.2.1,a.2.2.1,a.2.2.2⟩:S29)]) (wrap64 (b+1))) else (none))) else (none)) else (some d)
def spec_l4All.f (k:Nat) (l0:List S29):Option ((List S29)):=spec_l4All.l0 k l0 (([]:List S29)) 0
theorem spec_l4All.calls (k:Nat) (A0:Option Addr) (c0:Nat) (l0:List S29) (r:List S29) (w:World) (P:Kd.C k29 w A0 l0.length l0) (Q:l0.length≤c0) (h:spec_l4All.f k l0=some r) :
  Calls Tryz.prog 82 #[.slice A0 l0.length c0] w fun e w'=>∃v0_:Value,e=.returned (v0_)∧Kd.S k29 29 w' w.heap.size (fun _=>True) v0_ r∧Below w.heap.size w w':=by
 have hu29:=Tryz.underlying29
 have ea:=M_ P
 have Ha:=M_ Q
 clear P Q
 have x:=M_ (Below.refl w.heap.size w)
 unfold spec_l4All.f at h
 have H:=h;clear h
 obtain⟨I,hy_⟩:∃y_:List S29,y_=(([]:List S29)):=⟨_,rfl⟩
 replace H:(spec_l4All.l0 k l0 I 0)=some r:=hm_
 have z:=M_ hy_;clear hy_
 have H':=M_ H
 clear H
 go_enter Tryz.func82,Tryz.ntmps82
 go_wp2_with (first|((with_reducible refine gd_ 6 rfl ?_);refine Kd.S_lit k29 _ 29 ?hg (N:=6) ?hd (xs:=([]:List S29)) (inner:=[]) (ok:=fun _=>True) (okp:=fun _=>True) ?hr ?hp (fun _ hk=>hk) trivial (Below.refl _ _) (Nat.le_refl _) (by simp) ?_;(case hd=>rfl);(case hg=>rfl);(case hr=>first|(go_simp;done)|(go_simp;rfl));(case hp=>exact(Reps.none _ _));intro Aa w2 A hb hg_ hnew_;clear hg_ hnew_;(first|rw[←z.1] at A|(simp only[Int.reduceToNat] at A;rw[←z.1] at A));have K:=sw_ A x;have T:=st_ x hb;clear x;have x:=T;clear T;clear hb A))
 go_loopg [3,4] k (fun kq v3 v4 w'=>∃(y:List S29) (a:Int),v4=.int .i64 a∧Aside0 (spec_l4All.l0 kq l0 y a=some r)∧Aside0 (kq≤k)∧Aside0 (Kd.S k29 29 w' w.heap.size (fun _=>True) v3 y)∧Aside0 (Below w.heap.size w w'))
 case atStart=>exact⟨(I),(0),rs_,H',⟨Nat.le_refl _⟩,⟨sp_ K.1⟩,⟨hs_ x.1⟩⟩
 case round=>
  clear H'
  obtain⟨y,a,rfl,HA,U,i,x⟩:=hrel
  cases gk with
  | zero=>exact absurd HA.1 (by simp[spec_l4All.l0])
  | succ k1=>
   have H:=HA.1
   clear HA
   simp only[spec_l4All.l0] at H
   replace H:=ie_ H;rcases H with⟨V,H⟩|⟨V,H⟩
   ·
    have W:=decide_eq_true V
    clear V
    replace H:=id_ H;obtain⟨Ca,H⟩:=H
    replace H:=bi_ H;obtain⟨⟨j,m,n,q⟩,A6,H⟩:=H;(try dsimp only at H)
    replace H:=im_ H;obtain⟨X,H⟩:=H
    obtain⟨J,hy_⟩:∃y_:List S29,y_=(y++[(⟨j,m,n,q⟩:S29)]):=⟨_,rfl⟩
    replace H:(spec_l4All.l0 k1 l0 J (wrap64 (a+1)))=some r:=hm_
    have L:=M_ hy_;clear hy_
    have H':=M_ H
    clear H
    obtain⟨ga,E,F,Y,Z,aa,ba,ca,B,D,Da,Ea⟩:=au_T29 ea.1 x a
    cases Y
    go_wp2_with (first|((with_reducible refine gate_callee (f:=63) rfl ?_);refine gl_ (some 17) Tryz.func63 #[.agg #[.slice E ((rd_T29 l0 a).f0).length F,.int .i64 ((rd_T29 l0 a).f1),.int .i64 ((rd_T29 l0 a).f2),.string ((rd_T29 l0 a).f3)]] ?_;(with_reducible refine(spec_l4Copy.calls _ _ ((rd_T29 l0 a).f0) ((rd_T29 l0 a).f1) ((rd_T29 l0 a).f2) ((rd_T29 l0 a).f3) j m n q _ ?_ ?_ A6.1).mono ?_);exact cp_ ((Kd.C_below D.1 x.1));exact B.1;rintro e w8 ⟨Fa,rfl,M,hb⟩;refine⟨_,rfl,?_⟩;replace i:=M_ (Kd.S_elder' (sp_ i.1) (Kd.R_base M) hb);have l:=rw_ M x;replace x:=st_ x hb;(try clear hb M))|((with_reducible refine gd_ 5 rfl ?_);refine bV_ 5 #[.slice none 0 0,.int .i64 0,.int .i64 0,.string (⟨#[]⟩:ByteArray)] 29 ?_;intro c hg w9 d hb;replace i:=se_ i hg hb;replace l:=rb_ l hb;have ha:=gq_ hg x;replace x:=st_ x hb;clear hb hg;obtain⟨s,u,da⟩:=Kd.R_slice l.1;subst da;obtain⟨ia,ja,ka,la,ma,na,oa,pa⟩:=bc4_ d.1)|((with_reducible refine gate_store (t:=29) (p:=5) rfl ?_);refine store_event (t:=29) (p:=5) (v:=?vo_w12) (w1:=((((w9.setCell ⟨c,0,none⟩ (.slice s j.length u)).setCell ⟨c,1,none⟩ (.int .i64 m)).setCell ⟨c,2,none⟩ (.int .i64 n)).setCell ⟨c,3,none⟩ (.string q))) ?hg ?ho ?hn ?hr ?_;(case ho=>rfl);(case hg=>rfl);(case hn=>rfl);(case hr=>first|(go_simp;done)|(go_simp;rfl));intro G hw;replace i:Aside0 (Kd.S k29 29 G w.heap.size (fun k_=>some k_≠(.slice s j.length u:Value).ownBlock∧k_≠c) u3 y):=⟨(by rw[hw];exact(Kd.S_mono (sf_ c i.1 (fun _ hk=>hk.2)) (fun _ hk=>⟨hk.1.2,hk.2⟩)))⟩;replace l:Aside0 (Kd.R k99 99 G w.heap.size (fun _=>True) (.slice s j.length u) j):=⟨(by rw[hw];exact(Kd.R_mono (ry_ l.1 d.1) (fun _ hk=>trivial)))⟩;replace d:Aside0 (G.heap[c]?=some (.cells #[.slice s j.length u,.int .i64 m,.int .i64 n,.string q] 29 (0,0))):=⟨(by rw[hw];exact(bp_ d.1))⟩;replace x:Aside0 (Below w.heap.size w G):=⟨(by rw[hw];exact(hs_ x.1))⟩;clear hw;obtain⟨qa,ra,sa,ta,ua,va,wa,xa⟩:=bc4_ d.1)|((with_reducible refine gate_builtin (b:=.append) (xs:=#[.tmp 18,.tmp 20]) rfl ?_);at_builtin;refine Kd.S_append k29 (w0:=w) w.heap.size rfl (.tmp 18) (.tmp 20) 40 29 (.agg #[(.slice none 0 0),(.int .i64 0),(.int .i64 0),(.string ⟨#[]⟩)]) 56 rfl Tryz.underlying40 info29 rfl (by decide) (by omega) u3 y (⟨j,m,n,q⟩:S29) [.slice s j.length u,.int .i64 m,.int .i64 n,.string q] (fun k_=>k_≠c) (fun k_=>some k_=(.slice s j.length u:Value).ownBlock) rfl rfl ?aP (fun k_ hk_=>((Kd.R_mono (ok':=fun k_=>((fun k_=>k_≠c)) k_∧some k_≠(u3:Value).ownBlock) (Kd.R_types (Kd.R_apart' (l.1) (Kd.S_typed i.1) (by decide)) d.1 (by decide)) (fun k_ hk=>⟨hk.2,hk.1.2⟩))).1 k_ hk_.symm) ?aF ?aO ?aB ?aS ?aL ?_;(case aP=>exact k29_mkM _ _ _ (⟨j,m,n,q⟩:S29) (Kd.R_mono (Kd.R_tight rfl (Kd.R_mono (ok':=fun k_=>((fun k_=>k_≠c)) k_∧some k_≠(u3:Value).ownBlock) (Kd.R_types (Kd.R_apart' (l.1) (Kd.S_typed i.1) (by decide)) d.1 (by decide)) (fun k_ hk=>⟨hk.2,hk.1.2⟩))) (fun _ h_=>h_)));(case aB=>exact(hs_ x.1));(case aF=>exact(fun k_ hk=>Kd.freshB (g:=c) (o:=.cells #[.slice s j.length u,.int .i64 m,.int .i64 n,.string q] 29 (0,0)) (pb_ d.1) k_ hk));(case aO=>exact(Kd.S_mono (sp_ i.1) (fun k_ hk=>⟨hk.2,fun e_=>hk.1 e_⟩)));(case aS=>exact(below_size (hs_ x.1)));(case aL=>have:=X.1;omega);intro Ga Ma ho hb hg hat;rw[←L.1] at ho;replace d:=M_ (blk_grown (bq_ d.1) hg (Kd.S_away i.1 (fun _ hk=>hk.2)));replace x:=M_ (hb);have O:=M_ (ho);clear i l;clear ho hb hg hat))
    go_roundg k1
    case measure=>have:=U.1;omega
    case rel=>exact⟨(J),(wrap64 (a+1)),rs_,H',⟨by have:=U.1;omega⟩,⟨Kd.S_mono (sp_ O.1) (fun _ hk=>trivial)⟩,⟨hs_ x.1⟩⟩
   have W:decide (a<(l0.length:Int))=false:=decide_eq_false V
   clear V
   obtain rfl:=Option.some.inj H
   go_wp2
   go_ret
   exact⟨_,rr_,sp_ i.1,hs_ x.1⟩
def spec_l6Copy.f (k:Nat) (a:Int) (b:List S29):Option (Int×(List S29)):=(spec_l4All.f k b).bind fun c=>(some (a,c))
theorem spec_l6Copy.calls (k:Nat) (l:Int) (m:Option Addr) (o:Nat) (d:List S29) (P:Int) (Q:List S29) (w:World) (r:Kd.C k29 w m d.length d) (s:d.length≤o) (h:spec_l6Copy.f k l d=some (P,Q)) :
  Calls Tryz.prog 92 #[.agg #[.int .i64 l,.slice m d.length o]] w fun e w'=>∃v1_:Value,e=.returned (.agg #[.int .i64 P,v1_])∧Kd.S k29 29 w' w.heap.size (fun _=>True) v1_ Q∧Below w.heap.size w w':=by
 have hu80:=Tryz.underlying80
 have y:=M_ r
 have z:=M_ s
 clear r s
 have q:=M_ (Below.refl w.heap.size w)
 unfold spec_l6Copy.f at h
 have H:=h;clear h
 replace H:=bi_ H;obtain⟨x,W,H⟩:=H
 simp only[Option.some.injEq,Prod.mk.injEq] at H
 obtain⟨rfl,rfl⟩:=H
 go_enter Tryz.func92,Tryz.ntmps92
 try go_wp2_with (first|((with_reducible refine gd_ 1 rfl ?_);refine bV_ 1 #[.int .i64 l,.slice m d.length o] 80 ?_;intro t hg w3 b hb;have J:=gq_ hg q;replace q:=st_ q hb;clear hb hg)|((with_reducible refine gd_ 2 rfl ?_);refine bV_ 2 #[.int .i64 0,.slice none 0 0] 80 ?_;intro p hg X a hb;have L:=gq_ hg q;replace q:=st_ q hb;obtain⟨g,j,b⟩:=nb_ b hg hb;clear hb hg))
 obtain⟨b,a,q⟩:=y3_ b a q
 refine start_ (n:=7) (S:=fun w'=>c_ w' t 0 (.int .i64 l)∧c_ w' t 1 (.slice m d.length o)) (ds:=[]) (b_ 0 7) (by kernel_rfl) rfl rfl (e2_ b.1) (fun c=>?_)
 generalize X.drew=w5 at b a q c ⊢
 refine pure_ (i:=0) (N:=some 3) (v:=?_) (a':=?_) (b_ 1 6) rfl rfl (by kernel_rfl) (fun _ _ _ h=>h) (Or.inl ⟨by rfl,?_⟩) ?_ ?_
 rotate_left
 ·
  intro w'
  go_simp
  with_reducible rfl
 rotate_left
 ·
  simp only[fr_]
  rfl
 refine pure_ (i:=2) (N:=some 5) (v:=?_) (a':=?_) #[t_,f_,t_,f_,f_,f_,f_] rfl rfl (by kernel_rfl) (fun _ _ _ h=>h) (Or.inl ⟨by rfl,?_⟩) ?_ ?_
 rotate_left
 ·
  intro w'
  go_simp
  with_reducible rfl
 rotate_left
 ·
  simp only[fr_]
  rfl
 refine take_ (i:=1) (N:=some 4) (v:=?_) (a':=?_) (b_ 3 4) rfl rfl (by kernel_rfl) (fun _ _ _ h=>h) (Or.inl ⟨by rfl,?_⟩) c ?_ ?_
 rotate_left
 ·
  rintro w' ⟨s0,s1⟩
  go_simp
  with_reducible rfl
 rotate_left
 ·
  simp only[fr_]
  rfl
 refine take_ (i:=3) (N:=some 6) (v:=?_) (a':=?_) (b_ 4 3) rfl rfl (by kernel_rfl) (fun _ _ _ h=>h) (Or.inl ⟨by rfl,?_⟩) c ?_ ?_
 rotate_left
 ·
  rintro w' ⟨s0,s1⟩
  go_simp
  with_reducible rfl
 rotate_left
 ·
  simp only[fr_]
  rfl
 refine one_ (i:=4) (N:=some 7) (b_ 5 2) rfl rfl (by kernel_rfl) (by decide) (fun K D=>?_)
 refine gs_ Tryz.func82 #[.slice m d.length o] ?_
 with_reducible refine(spec_l4All.calls k _ _ d x _ ?_ ?_ W.1).mono ?_
 exact cp_ ((Kd.C_below y.1 q.1))
 exact z.1
 rintro e R ⟨T,rfl,A,hb⟩
 refine⟨_,rfl,?_⟩
 have u:=sw_ A q
 obtain⟨b,a,q⟩:=u3_ hb b a q
 (try clear hb A)
 obtain⟨M,O,B⟩:=Kd.S_slice u.1
 (first|subst B|(obtain⟨rfl,rfl⟩:=si_ B))
 refine ho_ D (e2_ b.1) (fun c=>?_)
 refine pure_ (i:=5) (N:=some 8) (v:=?_) (a':=?_) (b_ 6 1) rfl rfl (by kernel_rfl) (fun _ _ _ h=>h) (Or.inl ⟨by rfl,?_⟩) ?_ ?_
 rotate_left
 ·
  intro w'
  go_simp
  with_reducible rfl
 rotate_left
 ·
  simp only[fr_]
  rfl
 refine one_ (i:=6) (N:=none) (b_ 7 0) rfl rfl (by kernel_rfl) (by decide) (fun K D=>?_)
 have Y:R.cell? ⟨p,0,none⟩=some (.int .i64 0):=bx_ a.1 0
 have U:=blk_frozen a.1 0
 have E:=g.1
 have F:=j.1
 have Z:R.cell? ⟨p,1,none⟩=some (.slice none 0 0):=bx_ a.1 1
 have V:=blk_frozen a.1 1
 have G:=g.1
 have I:=j.1
 refine skip_ (w1:=?_) (by rfl) rfl ?_ ?_
 rotate_left
 ·
  go_simp
  rfl
 refine D.out _ _ ⟨(cg_ (c.1)),(cg_ (c.2))⟩ (fun c=>?_)
 clear D K
 refine done_ (by kernel_rfl) ?_
 try go_wp2
 refine bodyPost_ret (results_cell_row rfl _ _ p 80 #[.int .i64 l,.slice M x.length O] (0,0) _ rfl (bp_ a.1) Tryz.underlying80 rfl (by kernel_rfl)) rfl ?_
 exact⟨_,rr_,Kd.S_mono (sy_ u.1 a.1) (fun _ hk=>trivial),hs_ q.1⟩
def spec_l7Copy.l0:Nat→Int→Int→Int→List S80→Int→Int→List S80→Option (Int×Int×(List S80))
 | 0,_,_,_,_,_,_,_=>none
 | k+1,i,e,g,a,c,d,b=>if i<(a.length:Int) then (if 0≤i then ((spec_l6Copy.f k ((rd_T80 a i).f0) ((rd_T80 a i).f1)).bind fun h=>(if b.length<4398046511104 then (spec_l7Copy.l0 k (wrap64 (i+1)) e g a c d (b++[(⟨h.1,h.2⟩:S80)])) else (none))) else (none)) else (some (c,d,b))
def spec_l7Copy.f (k:Nat) (a:Int) (b:Int) (c:List S80):Option (Int×Int×(List S80)):=spec_l7Copy.l0 k 0 a b c a b (([]:List S80))
theorem spec_l7Copy.calls (k:Nat) (m:Int) (n:Int) (T:Option Addr) (I:Nat) (l:List S80) (r1:Int) (r2:Int) (r3:List S80) (w:World) (V:Kd.C k80 w T l.length l) (W:l.length≤I) (h:spec_l7Copy.f k m n l=some (r1,r2,r3)) :
  Calls Tryz.prog 59 #[.agg #[.int .i64 m,.int .i64 n,.slice T l.length I]] w fun e w'=>∃v2_:Value,e=.returned (.agg #[.int .i64 r1,.int .i64 r2,v2_])∧Kd.S k80 80 w' w.heap.size (fun _=>True) v2_ r3∧Below w.heap.size w w':=by
 have hu26:=Tryz.underlying26
 have hu80:=Tryz.underlying80
 have la:=M_ V
 have La:=M_ W
 clear V W
 have B:=M_ (Below.refl w.heap.size w)
 unfold spec_l7Copy.f at h
 have H:=h;clear h
 obtain⟨X,hy_⟩:∃y_:List S80,y_=(([]:List S80)):=⟨_,rfl⟩
 replace H:(spec_l7Copy.l0 k 0 m n l m n X)=some (r1,r2,r3):=hm_
 have Y:=M_ hy_;clear hy_
 have H':=M_ H
 clear H
 go_enter Tryz.func59,Tryz.ntmps59
 go_wp2_with (first|((with_reducible refine gd_ 1 rfl ?_);refine bV_ 1 #[.int .i64 m,.int .i64 n,.slice T l.length I] 26 ?_;intro Z hg w2 c hb;have Ma:=gq_ hg B;replace B:=st_ B hb;clear hb hg)|((with_reducible refine gd_ 2 rfl ?_);refine bV_ 2 #[.int .i64 0,.int .i64 0,.slice none 0 0] 26 ?_;intro L hg w3 d hb;have Na:=gq_ hg B;replace B:=st_ B hb;obtain⟨x,ma,c⟩:=nb_ c hg hb;clear hb hg;have ic:=n2_ x;obtain⟨jc,kc,lc,mc,nc,oc⟩:=bc3_ c.1)|((with_reducible refine gd_ 10 rfl ?_);refine Kd.S_lit k80 _ 80 ?hg (N:=10) ?hd (xs:=([]:List S80)) (inner:=[]) (ok:=fun _=>True) (okp:=fun _=>True) ?hr ?hp (fun _ hk=>hk) trivial (Below.refl _ _) (Nat.le_refl _) (by simp) ?_;(case hd=>rfl);(case hg=>rfl);(case hr=>first|(go_simp;done)|(go_simp;rfl));(case hp=>exact(Reps.none _ _));intro pc w6 aa hb hg_ hnew_;clear hg_ hnew_;(first|rw[←Y.1] at aa|(simp only[Int.reduceToNat] at aa;rw[←Y.1] at aa));have F:=sw_ aa B;obtain⟨c,d,B⟩:=u3_ hb c d B;clear hb aa;obtain⟨Oa,Pa,Qa⟩:=Kd.S_slice F.1;subst Qa)|((with_reducible refine gd_ 3 rfl ?_);refine bV_ 3 #[.int .i64 0,.int .i64 0,.slice none 0 0] 26 ?_;intro ba hg w9 i hb;replace F:=sb_ F hb;have Ra:=gq_ hg B;replace B:=st_ B hb;obtain⟨E,M,c⟩:=nb_ c hg hb;obtain⟨na,y,d⟩:=nb_ d hg hb;clear hb hg;have Sa:=n2_ M;have Ta:=n2_ y;obtain⟨Ua,Va,Wa,Xa,Ya,Za⟩:=bc3_ i.1))
 go_loopg [4] k (fun kq v4 w'=>∃(s:Int) (j:List S80) (q:Value),v4=.int .i64 s∧Aside0 (spec_l7Copy.l0 kq s m n l m n j=some (r1,r2,r3))∧Aside0 (kq≤k)∧Aside0 (Kd.S k80 80 w' w.heap.size (fun _=>True) q j)∧Aside0 (w'.heap[Z]?=some (.cells #[.int .i64 m,.int .i64 n,(.slice T l.length I)] 26 (0,0)))∧Aside0 (w'.heap[L]?=some (.cells #[.int .i64 0,.int .i64 0,(.slice none 0 0)] 26 (0,0)))∧Aside0 (w'.heap[ba]?=some (.cells #[.int .i64 m,.int .i64 n,q] 26 (0,0)))∧Aside0 (Below w.heap.size w w'))
 case atStart=>exact⟨(0),(X),(.slice Oa X.length Pa),rs_,H',⟨Nat.le_refl _⟩,⟨Kd.S_mono (sy_ F.1 i.1) (fun _ hk=>trivial)⟩,⟨bq_ c.1⟩,⟨bq_ d.1⟩,⟨bp_ i.1⟩,⟨hs_ B.1⟩⟩
 case round=>
  clear H'
  obtain⟨s,j,q,rfl,HA,Aa,a,c,d,i,B⟩:=hrel
  cases gk with
  | zero=>exact absurd HA.1 (by simp[spec_l7Copy.l0])
  | succ k1=>
   have H:=HA.1
   clear HA
   simp only[spec_l7Copy.l0] at H
   replace H:=ie_ H;rcases H with⟨ca,H⟩|⟨ca,H⟩
   ·
    have oa:=decide_eq_true ca
    clear ca
    replace H:=id_ H;obtain⟨cb,H⟩:=H
    replace H:=bi_ H;obtain⟨⟨D,u⟩,db,H⟩:=H;(try dsimp only at H)
    replace H:=im_ H;obtain⟨pa,H⟩:=H
    obtain⟨da,hy_⟩:∃y_:List S80,y_=(j++[(⟨D,u⟩:S80)]):=⟨_,rfl⟩
    replace H:(spec_l7Copy.l0 k1 (wrap64 (s+1)) m n l m n da)=some (r1,r2,r3):=hm_
    have qa:=M_ hy_;clear hy_
    have H':=M_ H
    clear H
    have eb:=n2_ x
    have fb:=n2_ E
    obtain⟨gb,ib,jb,kb,lb,mb⟩:=bc3_ c.1
    obtain⟨ra,ia,ja,Ba,Ca,Da,ea,fa,qc,rc⟩:=au_T80 la.1 B s
    cases Ba
    go_wp2_with (first|((with_reducible refine gate_callee (f:=92) rfl ?_);refine gl_ (some 24) Tryz.func92 #[.agg #[.int .i64 ((rd_T80 l s).f0),.slice ia ((rd_T80 l s).f1).length ja]] ?_;(with_reducible refine(spec_l6Copy.calls k1 ((rd_T80 l s).f0) _ _ ((rd_T80 l s).f1) D u _ ?_ ?_ db.1).mono ?_);exact cp_ ((Kd.C_below fa.1 B.1));exact ea.1;rintro e vc ⟨sc,rfl,sa,hb⟩;refine⟨_,rfl,?_⟩;obtain⟨U,ga⟩:=Kd.S_name sa;replace a:=su_ ga (sp_ a.1) hb;have z:=sg_ ga sa B;obtain⟨c,d,i,B⟩:=u4_ hb c d i B;(try clear hb sa))|((with_reducible refine gd_ 5 rfl ?_);refine bV_ 5 #[.int .i64 0,.slice none 0 0] 80 ?_;intro A hg nb r hb;replace a:=se_ a hg hb;replace z:=sb_ z hb;have ob:=gq_ hg B;replace B:=st_ B hb;obtain⟨ta,O,c⟩:=nb_ c hg hb;obtain⟨ua,P,d⟩:=nb_ d hg hb;obtain⟨va,Q,i⟩:=nb_ i hg hb;clear hb hg;have pb:=n2_ O;have qb:=n2_ P;have rb:=n2_ Q;obtain⟨sb,tb,ub,vb⟩:=bc2_ r.1;obtain⟨J,K,Ea⟩:=Kd.S_slice z.1;subst Ea)|((with_reducible refine gate_store (t:=80) (p:=5) rfl ?_);refine store_event (t:=80) (p:=5) (v:=?vo_w27) (w1:=((nb.setCell ⟨A,0,none⟩ (.int .i64 D)).setCell ⟨A,1,none⟩ (.slice J u.length K))) ?hg ?ho ?hn ?hr ?_;(case ho=>rfl);(case hg=>rfl);(case hn=>rfl);(case hr=>first|(go_simp;done)|(go_simp;rfl));intro R hw;replace a:Aside0 (Kd.S k80 80 R w.heap.size (fun k_=>k_<U∧k_≠A) q j):=⟨(by rw[hw];exact(Kd.S_mono (sf_ A a.1 (fun _ hk=>hk.2)) (fun _ hk=>⟨hk.1.2,hk.2⟩)))⟩;replace z:Aside0 (Kd.S k29 29 R w.heap.size (fun k_=>U≤k_) (.slice J u.length K) u):=⟨(by rw[hw];exact(Kd.S_mono (sy_ z.1 r.1) (fun _ hk=>hk.2)))⟩;replace c:Aside0 (R.heap[Z]?=some (.cells #[.int .i64 m,.int .i64 n,.slice (some ra) l.length I] 26 (0,0))):=⟨(by rw[hw];exact(bq_ c.1))⟩;replace d:Aside0 (R.heap[L]?=some (.cells #[.int .i64 0,.int .i64 0,.slice none 0 0] 26 (0,0))):=⟨(by rw[hw];exact(bq_ d.1))⟩;replace i:Aside0 (R.heap[ba]?=some (.cells #[.int .i64 m,.int .i64 n,q] 26 (0,0))):=⟨(by rw[hw];exact(bq_ i.1))⟩;replace r:Aside0 (R.heap[A]?=some (.cells #[.int .i64 D,.slice J u.length K] 80 (0,0))):=⟨(by rw[hw];exact(bp_ r.1))⟩;replace B:Aside0 (Below w.heap.size w R):=⟨(by rw[hw];exact(hs_ B.1))⟩;clear hw;have wb:=n2_ y;obtain⟨xb,yb,zb,Ab,Bb,Cb⟩:=bc3_ i.1;obtain⟨Db,Eb,Fb,Gb⟩:=bc2_ r.1;obtain⟨wa,ka,G⟩:=Kd.S_fp (Kd.S_types (Kd.S_apart' (z.1) (Kd.S_typed a.1) (by decide)) r.1 (by decide)))|((with_reducible refine gate_builtin (b:=.append) (xs:=#[.tmp 26,.tmp 28]) rfl ?_);at_builtin;refine Kd.S_append k80 (w0:=w) w.heap.size rfl (.tmp 26) (.tmp 28) 24 80 (.agg #[(.int .i64 0),(.slice none 0 0)]) 32 rfl Tryz.underlying24 info80 rfl (by decide) (by omega) q j (⟨D,u⟩:S80) [.int .i64 D,.slice J u.length K] (fun k_=>k_≠A) (fun k_=>wa k_) rfl rfl ?aP (fun k_ hk_=>⟨(G k_ hk_).1.2,(G k_ hk_).1.1.2⟩) ?aF ?aO ?aB ?aS ?aL ?_;(case aP=>exact k80_mkM _ _ _ (⟨D,u⟩:S80) (Kd.S_mono ka (fun _ h_=>h_)));(case aB=>exact(hs_ B.1));(case aF=>exact(fun k_ hk=>Kd.freshB (g:=A) (o:=.cells #[.int .i64 D,.slice J u.length K] 80 (0,0)) (pb_ r.1) k_ hk));(case aO=>exact(Kd.S_mono (sp_ a.1) (fun k_ hk=>⟨hk.2,fun e_=>(fun ez_=>Nat.lt_irrefl _ (Nat.lt_of_lt_of_le hk.1 (G _ ez_).1.1.1)) e_⟩)));(case aS=>exact(below_size (hs_ B.1)));(case aL=>have:=pa.1;omega);intro tc wc ho hb hg hat;rw[←qa.1] at ho;replace c:=bg_ c hg a;replace d:=bg_ d hg a;replace i:=bg_ i hg a;replace r:=M_ (blk_grown (bq_ r.1) hg (Kd.S_away a.1 (fun _ hk=>hk.2)));replace B:=M_ (hb);have ha:=M_ (ho);clear a z;clear ho hb hg hat;obtain⟨Fa,Ga,Ha⟩:=Kd.S_slice ha.1;subst Ha;obtain⟨Hb,Ib,Jb,Kb,Lb,Mb⟩:=bc3_ i.1))
    go_roundg k1
    case measure=>have:=Aa.1;omega
    case rel=>exact⟨(wrap64 (s+1)),(da),(.slice Fa da.length Ga),rs_,H',⟨by have:=Aa.1;omega⟩,⟨Kd.S_mono (sy_ ha.1 i.1) (fun _ hk=>trivial)⟩,⟨bq_ c.1⟩,⟨bq_ d.1⟩,⟨bp_ i.1⟩,⟨hs_ B.1⟩⟩
   have oa:decide (s<(l.length:Int))=false:=decide_eq_false ca
   clear ca
   simp only[Option.some.injEq,Prod.mk.injEq] at H
   obtain⟨rfl,rfl,rfl⟩:=H
   have Nb:=n2_ x
   have Ob:=n2_ E
   obtain⟨Pb,Qb,Rb,Sb,Tb,Ub⟩:=bc3_ c.1
   have Vb:=n2_ y
   obtain⟨Wb,Xb,Yb,Zb,ac,bc⟩:=bc3_ i.1
   obtain⟨cc,dc,ec,fc,gc,hc⟩:=bc3_ d.1
   obtain⟨Ia,Ja,Ka⟩:=Kd.S_slice a.1
   subst Ka
   go_wp2
   refine bodyPost_ret (results_cell_row rfl _ _ L 26 #[.int .i64 m,.int .i64 n,.slice Ia j.length Ja] (0,0) _ rfl (bp_ d.1) Tryz.underlying26 rfl (by kernel_rfl)) rfl ?_
   exact⟨_,rr_,Kd.S_mono (sy_ a.1 d.1) (fun _ hk=>trivial),hs_ B.1⟩
def spec_l7At.l0:Nat→Int→Int→Int→Int→List S80→Option (Int)
 | 0,_,_,_,_,_=>none
 | k+1,e,d,b,c,a=>if d<(a.length:Int) then (if 0≤d then (if ((rd_T80 a d).f0)=e then (some d) else (spec_l7At.l0 k e (wrap64 (d+1)) b c a)) else (none)) else (some (-1))
def spec_l7At.f (k:Nat) (a:Int) (b:Int) (c:List S80) (d:Int):Option (Int):=spec_l7At.l0 k d 0 a b c
theorem spec_l7At.calls (k:Nat) (d:Int) (g:Int) (i:Option Addr) (j:Nat) (a:List S80) (o:Int) (r:Int) (w:World) (l:Kd.C k80 w i a.length a) (m:a.length≤j) (h:spec_l7At.f k d g a o=some r) :
  Calls Tryz.prog 61 #[.agg #[.int .i64 d,.int .i64 g,.slice i a.length j],.int .i64 o] w fun e w'=>e=.returned (.int .i64 r)∧Below w.heap.size w w':=by
 have hu26:=Tryz.underlying26
 have p:=M_ l
 have I:=M_ m
 clear l m
 have n:=M_ (Below.refl w.heap.size w)
 unfold spec_l7At.f at h
 have H:=h;clear h
 have H':=M_ H
 clear H
 go_enter Tryz.func61,Tryz.ntmps61
 go_wp2_with (first|((with_reducible refine gd_ 2 rfl ?_);refine bV_ 2 #[.int .i64 d,.int .i64 g,.slice i a.length j] 26 ?_;intro q hg w3 c hb;have J:=gq_ hg n;replace n:=st_ n hb;clear hb hg))
 go_loopg [5] k (fun kq v5 w'=>∃(b:Int),v5=.int .i64 b∧Aside0 (spec_l7At.l0 kq o b d g a=some r)∧Aside0 (kq≤k)∧Aside0 (w'.heap[q]?=some (.cells #[.int .i64 d,.int .i64 g,(.slice i a.length j)] 26 (0,0)))∧Aside0 (Below w.heap.size w w'))
 case atStart=>exact⟨(0),rs_,H',⟨Nat.le_refl _⟩,⟨bq_ c.1⟩,⟨hs_ n.1⟩⟩
 case round=>
  clear H'
  obtain⟨b,rfl,K,t,c,n⟩:=hrel
  cases gk with
  | zero=>exact absurd K.1 (by simp[spec_l7At.l0])
  | succ k1=>
   have H:=K.1
   clear K
   simp only[spec_l7At.l0] at H
   replace H:=ie_ H;rcases H with⟨u,H⟩|⟨u,H⟩
   ·
    have v:=decide_eq_true u
    clear u
    replace H:=id_ H;obtain⟨M,H⟩:=H
    have AHz_:=M_ H
    clear H
    obtain⟨N,O,P,Q,R,S⟩:=bc3_ c.1
    obtain⟨L,F,G,x,y,z,A,B,T,U⟩:=au_T80 p.1 n b
    cases x
    have H:=AHz_.1
    clear AHz_
    replace H:=ie_ H;rcases H with⟨s,H⟩|⟨s,H⟩
    ·
     have D:(((rd_T80 a b).f0)==o)=true:=beq_iff_eq.mpr s
     have E:(((rd_T80 a b).f0) !=o)=false:=bne_eq_false_iff_eq.mpr s
     clear s
     obtain rfl:=Option.some.inj H
     go_wp2
     go_ret
     exact an_ (hs_ n.1)
    have D:(((rd_T80 a b).f0)==o)=false:=beq_eq_false_iff_ne.mpr s
    have E:(((rd_T80 a b).f0) !=o)=true:=bne_iff_ne.mpr s
    have H':=M_ H
    clear H
    go_wp2
    go_roundg k1
    case measure=>have:=t.1;omega
    case rel=>exact⟨(wrap64 (b+1)),rs_,H',⟨by have:=t.1;omega⟩,⟨bq_ c.1⟩,⟨hs_ n.1⟩⟩
   have v:decide (b<(a.length:Int))=false:=decide_eq_false u
   clear u
   obtain rfl:=Option.some.inj H
   obtain⟨V,W,X,Y,Z,aa⟩:=bc3_ c.1
   go_wp2
   go_ret
   exact an_ (hs_ n.1)
end Go.Proofs.YtanfohlpkppeiaaGreat.Print
end
section
namespace Go.Proofs.YtanfohlpkppeiaaGreat.Print
open Go.RowKit Go.Proofs.YtanfohlpkppeiaaGreatV.PrintWords Go.Proofs.YtanfohlpkppeiaaGreatV.PrintLast Go.Proofs.YtanfohlpkppeiaaGreatV.PrintMore
attribute [local go_sem] max2_int min2_int max_two min_two max_three min_three max_four min_four
set_option linter.unusedVariables false
set_option linter.unusedSimpArgs false

attribute [local go_sem high] eqA99
set_option maxHeartbeats 80000000
set_option maxRecDepth 100000
def spec_SameSet.l0:Nat→List S99→List S99→Int→Option (Bool)
 | 0,_,_,_=>none
 | k+1,b,c,a=>if a<(b.length:Int) then (if 0≤a then (if a<(c.length:Int) then (if (!((((rd_T99 b a).f0).toList)==(((rd_T99 c a).f0).toList))||(!((((rd_T99 b a).f1).toList)==(((rd_T99 c a).f1).toList))))=true then (some false) else (spec_SameSet.l0 k b c (wrap64 (a+1)))) else (none)) else (none)) else (some true)
def spec_SameSet.f (k:Nat) (l0:List S99) (a:List S99):Option (Bool):=if (l0.length:Int)=(a.length:Int) then (spec_SameSet.l0 k l0 a 0) else (some false)
theorem spec_SameSet.calls (k:Nat) (M:Option Addr) (N:Nat) (l0:List S99) (O:Option Addr) (P:Nat) (i:List S99) (r:Bool) (w:World) (u:Kd.C k99 w M l0.length l0) (v:l0.length≤N) (x:Kd.C k99 w O i.length i) (y:i.length≤P) (h:spec_SameSet.f k l0 i=some r) :
  Calls Tryz.prog 102 #[.slice M l0.length N,.slice O i.length P] w fun e w'=>e=.returned (.bool r)∧Drawn0 w w':=by
 have hu99:=Tryz.underlying99
 have z:=M_ u
 have S:=M_ v
 clear u v
 have A:=M_ x
 have T:=M_ y
 clear x y
 unfold spec_SameSet.f at h
 have H:=h;clear h
 replace H:=ie_ H;rcases H with⟨q,H⟩|⟨q,H⟩
 ·
  have B:((l0.length:Int)==(i.length:Int))=true:=beq_iff_eq.mpr q
  have D:((l0.length:Int) !=(i.length:Int))=false:=bne_eq_false_iff_eq.mpr q
  have E:(l0.length==i.length)=true:=by first|simpa using q|(simp at q ⊢;omega)
  clear q
  have H':=M_ H
  clear H
  go_enter Tryz.func102,Tryz.ntmps102
  go_wp2
  repeat (go_quiet (fail);try go_wp2)
  go_loopg [5] k (fun kq U w'=>∃(a:Int),U=.int .i64 a∧Aside0 (spec_SameSet.l0 kq l0 i a=some r)∧Aside0 (kq≤k)∧Drawn0 w w')
  case atStart=>exact⟨(0),rs_,H',⟨Nat.le_refl _⟩,by repeat (first|exact Drawn0.refl _|apply Drawn0.step)⟩
  case round=>
   clear H'
   obtain⟨a,rfl,L,F,⟨m1,rfl⟩⟩:=hrel
   cases gk with
   | zero=>exact absurd L.1 (by simp[spec_SameSet.l0])
   | succ V=>
    have H:=L.1
    clear L
    simp only[spec_SameSet.l0] at H
    replace H:=ie_ H;rcases H with⟨G,H⟩|⟨G,H⟩
    ·
     have I:=decide_eq_true G
     clear G
     replace H:=i2_ H;obtain⟨Q,R,H⟩:=H
     replace H:=ie_ H;rcases H with⟨J,H⟩|⟨J,H⟩
     ·
      have K:(!((((rd_T99 l0 a).f0).toList)==(((rd_T99 i a).f0).toList))||(!((((rd_T99 l0 a).f1).toList)==(((rd_T99 i a).f1).toList))))=true:=J
      clear J
      obtain rfl:=Option.some.inj H
      obtain⟨b,c⟩:0≤(a:Int)∧a<(l0.length:Int):=pq_
      obtain⟨s,j,l,m⟩:=at_T99 z.1 a b c
      cases j
      replace b:=eq_true b;replace c:=eq_true c
      obtain⟨d,g⟩:0≤(a:Int)∧a<(i.length:Int):=pq_
      obtain⟨t,n,o,p⟩:=at_T99 A.1 a d g
      cases n
      replace d:=eq_true d;replace g:=eq_true g
      go_wp2
      repeat (go_quiet (fail);try go_wp2)
      go_ret
      exact⟨by first|rfl|(simp;done)|(simp[*];done),by repeat (first|exact Drawn0.refl _|apply Drawn0.step)⟩
     have K:(!((((rd_T99 l0 a).f0).toList)==(((rd_T99 i a).f0).toList))||(!((((rd_T99 l0 a).f1).toList)==(((rd_T99 i a).f1).toList))))=false:=by simpa using J
     clear J
     have H':=M_ H
     clear H
     obtain⟨b,c⟩:0≤(a:Int)∧a<(l0.length:Int):=pq_
     obtain⟨s,j,l,m⟩:=at_T99 z.1 a b c
     cases j
     replace b:=eq_true b;replace c:=eq_true c
     obtain⟨d,g⟩:0≤(a:Int)∧a<(i.length:Int):=pq_
     obtain⟨t,n,o,p⟩:=at_T99 A.1 a d g
     cases n
     replace d:=eq_true d;replace g:=eq_true g
     go_wp2
     repeat (go_quiet (fail);try go_wp2)
     go_roundg V
     case measure=>have:=F.1;omega
     case rel=>exact⟨(wrap64 (a+1)),rs_,H',⟨by have:=F.1;omega⟩,by repeat (first|exact Drawn0.refl _|apply Drawn0.step)⟩
    have I:decide (a<(l0.length:Int))=false:=decide_eq_false G
    clear G
    obtain rfl:=Option.some.inj H
    go_wp2
    repeat (go_quiet (fail);try go_wp2)
    go_ret
    exact⟨by first|rfl|(simp;done)|(simp[*];done),by repeat (first|exact Drawn0.refl _|apply Drawn0.step)⟩
 have B:((l0.length:Int)==(i.length:Int))=false:=beq_eq_false_iff_ne.mpr q
 have D:((l0.length:Int) !=(i.length:Int))=true:=bne_iff_ne.mpr q
 have E:(l0.length==i.length)=false:=by first|simpa using q|(simp at q ⊢;omega)
 obtain rfl:=Option.some.inj H
 go_enter Tryz.func102,Tryz.ntmps102
 go_wp2
 repeat (go_quiet (fail);try go_wp2)
 go_ret
 exact⟨by first|rfl|(simp;done)|(simp[*];done),by repeat (first|exact Drawn0.refl _|apply Drawn0.step)⟩
end Go.Proofs.YtanfohlpkppeiaaGreat.Print
end
section
namespace Go.Proofs.YtanfohlpkppeiaaGreat.Print
open Go.RowKit Go.Proofs.YtanfohlpkppeiaaGreatV.PrintWords Go.Proofs.YtanfohlpkppeiaaGreatV.PrintLast Go.Proofs.YtanfohlpkppeiaaGreatV.PrintMore
attribute [local go_sem] max2_int min2_int max_two min_two max_three min_three max_four min_four
set_option linter.unusedVariables false
set_option linter.unusedSimpArgs false
set_option maxHeartbeats 80000000
set_option maxRecDepth 100000
def spec_InChain.l0:Nat→List S99→Int→Int→List S29→Option (Int)
 | 0,_,_,_,_=>none
 | k+1,e,c,b,a=>if c<(a.length:Int) then (if 0≤c then ((spec_SameSet.f k ((rd_T29 a c).f0) e).bind fun d=>(if d=true then (some c) else (spec_InChain.l0 k e (wrap64 (c+1)) b a))) else (none)) else (some (-1))
def spec_InChain.f (k:Nat) (a:Int) (b:List S29) (c:List S99):Option (Int):=spec_InChain.l0 k c 0 a b
theorem spec_InChain.calls (k:Nat) (d:Int) (g:Option Addr) (i:Nat) (a:List S29) (J:Option Addr) (K:Nat) (s:List S99) (r:Int) (w:World) (j:Kd.C k29 w g a.length a) (l:a.length≤i) (v:Kd.C k99 w J s.length s) (x:s.length≤K) (h:spec_InChain.f k d a s=some r) :
  Calls Tryz.prog 65 #[.agg #[.int .i64 d,.slice g a.length i],.slice J s.length K] w fun e w'=>e=.returned (.int .i64 r)∧Below w.heap.size w w':=by
 have hu80:=Tryz.underlying80
 have t:=M_ j
 have L:=M_ l
 clear j l
 have M:=M_ v
 have N:=M_ x
 clear v x
 have m:=M_ (Below.refl w.heap.size w)
 unfold spec_InChain.f at h
 have H:=h;clear h
 have H':=M_ H
 clear H
 go_enter Tryz.func65,Tryz.ntmps65
 go_wp2_with (first|((with_reducible refine gd_ 2 rfl ?_);refine bV_ 2 #[.int .i64 d,.slice g a.length i] 80 ?_;intro u hg w3 c hb;have O:=gq_ hg m;replace m:=st_ m hb;clear hb hg))
 go_loopg [5] k (fun kq v5 w'=>∃(b:Int),v5=.int .i64 b∧Aside0 (spec_InChain.l0 kq s b d a=some r)∧Aside0 (kq≤k)∧Aside0 (w'.heap[u]?=some (.cells #[.int .i64 d,(.slice g a.length i)] 80 (0,0)))∧Aside0 (Below w.heap.size w w'))
 case atStart=>exact⟨(0),rs_,H',⟨Nat.le_refl _⟩,⟨bq_ c.1⟩,⟨hs_ m.1⟩⟩
 case round=>
  clear H'
  obtain⟨b,rfl,P,y,c,m⟩:=hrel
  cases gk with
  | zero=>exact absurd P.1 (by simp[spec_InChain.l0])
  | succ V=>
   have H:=P.1
   clear P
   simp only[spec_InChain.l0] at H
   replace H:=ie_ H;rcases H with⟨z,H⟩|⟨z,H⟩
   ·
    have A:=decide_eq_true z
    clear z
    replace H:=id_ H;obtain⟨W,H⟩:=H
    replace H:=bi_ H;obtain⟨B,A6,H⟩:=H
    have AHz_:=M_ H
    clear H
    obtain⟨X,Y,Z,aa⟩:=bc2_ c.1
    obtain⟨Q,p,q,D,E,F,G,I,n,o,ba,ca⟩:=au_T29 t.1 m b
    cases D
    go_wp2_with (first|(((with_reducible refine gate_callee (f:=102) rfl ?_);refine gl_ (some 20) Tryz.func102 #[.slice p ((rd_T29 a b).f0).length q,.slice J s.length K] ?_;(with_reducible refine(spec_SameSet.calls V _ _ ((rd_T29 a b).f0) _ _ s B _ ?_ ?_ ?_ ?_ A6.1).mono ?_);exact cp_ ((Kd.C_below o.1 m.1));exact n.1;exact cp_ ((Kd.C_below M.1 m.1));exact N.1;rintro e w' ⟨rfl,⟨nd,rfl⟩⟩;refine⟨_,rfl,?_⟩);refine Aside0.out ?_))
    have H:=AHz_.1
    clear AHz_
    replace H:=ib_ H;rcases H with⟨rfl,H⟩|⟨rfl,H⟩
    ·
     obtain rfl:=Option.some.inj H
     refine⟨?_⟩
     go_wp2
     go_ret
     exact an_ (hs_ m.1)
    have H':=M_ H
    clear H
    refine⟨?_⟩
    go_wp2
    go_roundg V
    case measure=>have:=y.1;omega
    case rel=>exact⟨(wrap64 (b+1)),rs_,H',⟨by have:=y.1;omega⟩,⟨bq_ c.1⟩,⟨hs_ m.1⟩⟩
   have A:decide (b<(a.length:Int))=false:=decide_eq_false z
   clear z
   obtain rfl:=Option.some.inj H
   obtain⟨R,S,T,U⟩:=bc2_ c.1
   go_wp2
   go_ret
   exact an_ (hs_ m.1)
def spec_Touch.f (e:List S99) (a:Int) (b:Int) (f:ByteArray) (g:List S99) (c:Int) (d:Int) (h:ByteArray):Option (Bool):=if a≤d then (some (decide (c≤b))) else (some false)
theorem spec_Touch.calls (j:Option Addr) (k:Nat) (a:List S99) (g:Int) (l:Int) (m:ByteArray) (n:Option Addr) (o:Nat) (b:List S99) (p:Int) (i:Int) (q:ByteArray) (r:Bool) (w:World) (s:Kd.C k99 w j a.length a) (t:a.length≤k) (u:Kd.C k99 w n b.length b) (v:b.length≤o) (h:spec_Touch.f a g l m b p i q=some r) :
  Calls Tryz.prog 119 #[.agg #[.slice j a.length k,.int .i64 g,.int .i64 l,.string m],.agg #[.slice n b.length o,.int .i64 p,.int .i64 i,.string q]] w fun e w'=>e=.returned (.bool r)∧Below w.heap.size w w':=by
 have hu29:=Tryz.underlying29
 have D:=M_ s
 have E:=M_ t
 clear s t
 have F:=M_ u
 have G:=M_ v
 clear u v
 have x:=M_ (Below.refl w.heap.size w)
 unfold spec_Touch.f at h
 have H:=h;clear h
 have AHz_:=M_ H
 clear H
 go_enter Tryz.func119,Tryz.ntmps119
 go_wp2_with (first|((with_reducible refine gd_ 2 rfl ?_);refine bV_ 2 #[.slice j a.length k,.int .i64 g,.int .i64 l,.string m] 29 ?_;intro I hg w4 c hb;have J:=gq_ hg x;replace x:=st_ x hb;clear hb hg)|(((with_reducible refine gd_ 3 rfl ?_);refine bV_ 3 #[.slice n b.length o,.int .i64 p,.int .i64 i,.string q] 29 ?_;intro K hg w5 y hb;have L:=gq_ hg x;replace x:=st_ x hb;obtain⟨d,z,c⟩:=nb_ c hg hb;clear hb hg;have M:=n2_ d;obtain⟨N,O,P,Q,R,S,T,U⟩:=bc4_ c.1;obtain⟨V,W,X,Y,Z,aa,ba,ca⟩:=bc4_ y.1);refine Aside0.out ?_))
 have H:=AHz_.1
 clear AHz_
 replace H:=ie_ H;rcases H with⟨A,H⟩|⟨A,H⟩
 ·
  have B:=decide_eq_true A
  clear A
  obtain rfl:=Option.some.inj H
  refine⟨?_⟩
  go_wp2
  go_ret
  exact an_ (hs_ x.1)
 have B:decide (g≤i)=false:=decide_eq_false A
 clear A
 obtain rfl:=Option.some.inj H
 refine⟨?_⟩
 go_wp2
 go_ret
 exact an_ (hs_ x.1)
def spec_Least.f (a:Int) (b:Int):Option (Int):=if b<a then (some b) else (some a)
theorem spec_Least.calls (c:Int) (d:Int) (r:Int) (w:World) (h:spec_Least.f c d=some r) :
  Calls Tryz.prog 120 #[.int .i64 c,.int .i64 d] w fun e w'=>e=.returned (.int .i64 r)∧Drawn0 w w':=by
 unfold spec_Least.f at h
 have H:=h;clear h
 replace H:=ie_ H;rcases H with⟨a,H⟩|⟨a,H⟩
 ·
  have b:=decide_eq_true a
  clear a
  obtain rfl:=Option.some.inj H
  go_enter Tryz.func120,Tryz.ntmps120
  go_wp2
  go_ret
  exact⟨by first|rfl|(simp;done)|(simp[*];done),by repeat (first|exact Drawn0.refl _|apply Drawn0.step)⟩
 have b:decide (d<c)=false:=decide_eq_false a
 clear a
 obtain rfl:=Option.some.inj H
 go_enter Tryz.func120,Tryz.ntmps120
 go_wp2
 go_ret
 exact⟨by first|rfl|(simp;done)|(simp[*];done),by repeat (first|exact Drawn0.refl _|apply Drawn0.step)⟩
def spec_Merge.f (h:List S99) (c:Int) (i:Int) (j:ByteArray) (d:List S99) (b:Int) (e:Int) (g:ByteArray):Option ((List S99)×Int×Int×ByteArray):=(spec_l4Copy.f d b e g).bind fun a=>((spec_Touch.f h c i j d b e g).bind fun k=>(if k=true then ((spec_Least.f c b).bind fun l=>(some (a.1,l,a.2.2.1,a.2.2.2))) else (some (a.1,a.2.1,a.2.2.1,a.2.2.2))))
theorem spec_Merge.calls (v:Option Addr) (x:Nat) (k:List S99) (l:Int) (q:Int) (r:ByteArray) (t:Option Addr) (u:Nat) (i:List S99) (j:Int) (m:Int) (n:ByteArray) (r1:List S99) (r2:Int) (r3:Int) (r4:ByteArray) (w:World) (P:Kd.C k99 w v k.length k) (Q:k.length≤x) (S:Kd.C k99 w t i.length i) (T:i.length≤u) (h:spec_Merge.f k l q r i j m n=some (r1,r2,r3,r4)) :
  Calls Tryz.prog 100 #[.agg #[.slice v k.length x,.int .i64 l,.int .i64 q,.string r],.agg #[.slice t i.length u,.int .i64 j,.int .i64 m,.string n]] w fun e w'=>∃v0_:Value,e=.returned (.agg #[v0_,.int .i64 r2,.int .i64 r3,.string r4])∧Kd.R k99 99 w' w.heap.size (fun _=>True) v0_ r1∧Below w.heap.size w w':=by
 have hu29:=Tryz.underlying29
 have U:=M_ P
 have V:=M_ Q
 clear P Q
 have G:=M_ S
 have I:=M_ T
 clear S T
 have o:=M_ (Below.refl w.heap.size w)
 unfold spec_Merge.f at h
 have H:=h;clear h
 replace H:=bi_ H;obtain⟨⟨s,F,y,z⟩,A3,H⟩:=H;(try dsimp only at H)
 replace H:=bi_ H;obtain⟨Zb,A4,H⟩:=H
 have AHz_:=M_ H
 clear H
 go_enter Tryz.func100,Tryz.ntmps100
 go_wp2_with (first|((with_reducible refine gd_ 2 rfl ?_);refine bV_ 2 #[.slice v k.length x,.int .i64 l,.int .i64 q,.string r] 29 ?_;intro Y hg w7 a hb;have ia:=gq_ hg o;replace o:=st_ o hb;clear hb hg)|((with_reducible refine gd_ 3 rfl ?_);refine bV_ 3 #[.slice t i.length u,.int .i64 j,.int .i64 m,.string n] 29 ?_;intro Z hg w8 c hb;have ja:=gq_ hg o;replace o:=st_ o hb;obtain⟨aa,J,a⟩:=nb_ a hg hb;clear hb hg)|((with_reducible refine gd_ 4 rfl ?_);refine bV_ 4 #[.slice none 0 0,.int .i64 0,.int .i64 0,.string (⟨#[]⟩:ByteArray)] 29 ?_;intro D hg w9 b hb;have ka:=gq_ hg o;replace o:=st_ o hb;obtain⟨K,ba,a⟩:=nb_ a hg hb;obtain⟨L,ca,c⟩:=nb_ c hg hb;clear hb hg;have la:=n2_ J;have ma:=n2_ L;obtain⟨na,oa,pa,qa,ra,sa,ta,ua⟩:=bc4_ c.1)|((with_reducible refine gate_callee (f:=63) rfl ?_);refine gl_ (some 7) Tryz.func63 #[.agg #[.slice t i.length u,.int .i64 j,.int .i64 m,.string n]] ?_;(with_reducible refine(spec_l4Copy.calls _ _ i j m n s F y z _ ?_ ?_ A3.1).mono ?_);exact cp_ ((Kd.C_below G.1 o.1));exact I.1;rintro e dc ⟨bc,rfl,ga,hb⟩;refine⟨_,rfl,?_⟩;have g:=rw_ ga o;obtain⟨a,c,b,o⟩:=u4_ hb a c b o;(try clear hb ga))|(((with_reducible refine gd_ 5 rfl ?_);refine bV_ 5 #[.slice none 0 0,.int .i64 0,.int .i64 0,.string (⟨#[]⟩:ByteArray)] 29 ?_;intro W hg ec d hb;replace g:=rb_ g hb;have va:=gq_ hg o;replace o:=st_ o hb;obtain⟨da,M,a⟩:=nb_ a hg hb;obtain⟨ea,N,c⟩:=nb_ c hg hb;obtain⟨fa,O,b⟩:=nb_ b hg hb;clear hb hg;obtain⟨A,B,ha⟩:=Kd.R_slice g.1;subst ha;have wa:=n2_ M;have xa:=n2_ N;have ya:=n2_ O;obtain⟨za,Aa,Ba,Ca,Da,Ea,Fa,Ga⟩:=bc4_ d.1;have Ha:=n2_ K;obtain⟨Ia,Ja,Ka,La,Ma,Na,Oa,Pa⟩:=bc4_ a.1;obtain⟨Qa,Ra,Sa,Ta,Ua,Va,Wa,Xa⟩:=bc4_ c.1);refine Aside0.out ?_))
 have H:=AHz_.1
 clear AHz_
 replace H:=ib_ H;rcases H with⟨rfl,H⟩|⟨rfl,H⟩
 ·
  replace H:=bi_ H;obtain⟨X,A6,H⟩:=H
  simp only[Option.some.injEq,Prod.mk.injEq] at H
  obtain⟨rfl,rfl,rfl,rfl⟩:=H
  refine⟨?_⟩
  go_wp2_with (first|((with_reducible refine gate_callee (f:=119) rfl ?_);refine gl_ (some 10) Tryz.func119 #[.agg #[.slice v k.length x,.int .i64 l,.int .i64 q,.string r],.agg #[.slice t i.length u,.int .i64 j,.int .i64 m,.string n]] ?_;(with_reducible refine(spec_Touch.calls _ _ k l q r _ _ i j m n true _ ?_ ?_ ?_ ?_ A4.1).mono ?_);exact Kd.C_below U.1 (hs_ o.1);exact V.1;exact Kd.C_below G.1 (hs_ o.1);exact I.1;rintro e E ⟨rfl,hb⟩;refine⟨_,rfl,?_⟩;replace g:=M_ (Kd.R_below (ry_ g.1 d.1) hb);obtain⟨a,c,b⟩:=u3_ hb a c b;replace d:=by_ d #[.slice A s.length B,.int .i64 F,.int .i64 y,.string z] hb;replace o:=st_ o hb;(try clear hb);obtain⟨Ya,Za,ab,bb,cb,db,eb,fb⟩:=bc4_ a.1;obtain⟨gb,ib,jb,kb,lb,mb,nb,ob⟩:=bc4_ c.1)|((with_reducible refine gate_callee (f:=120) rfl ?_);refine gl_ (some 15) Tryz.func120 #[.int .i64 l,.int .i64 j] ?_;(with_reducible refine(spec_Least.calls l j X _ A6.1).mono ?_);rintro e w' ⟨rfl,⟨nd,rfl⟩⟩;refine⟨_,rfl,?_⟩;(try (rw[drewN_self E];generalize hq_:World.drewN E _=E;replace g:Aside0 (Kd.R k99 99 E w.heap.size (fun _=>True) (.slice A s.length B) s):=⟨by rw[←hq_];exact(rp_ g.1)⟩;replace a:Aside0 (E.heap[Y]?=some (.cells #[.slice v k.length x,.int .i64 l,.int .i64 q,.string r] 29 (0,0))):=⟨by rw[←hq_];exact(pb_ a.1)⟩;replace c:Aside0 (E.heap[Z]?=some (.cells #[.slice t i.length u,.int .i64 j,.int .i64 m,.string n] 29 (0,0))):=⟨by rw[←hq_];exact(pb_ c.1)⟩;replace b:Aside0 (E.heap[D]?=some (.cells #[.slice none 0 0,.int .i64 0,.int .i64 0,.string (⟨#[]⟩:ByteArray)] 29 (0,0))):=⟨by rw[←hq_];exact(pb_ b.1)⟩;replace d:Aside0 (E.heap[W]?=some (.cells #[.slice A s.length B,.int .i64 F,.int .i64 y,.string z] 29 (0,0))):=⟨by rw[←hq_];exact(pb_ d.1)⟩;replace o:Aside0 (Below w.heap.size w E):=⟨by rw[←hq_];exact(hs_ o.1)⟩;clear hq_));obtain⟨pb,qb,rb,sb,tb,ub,vb,wb⟩:=bc4_ d.1;obtain⟨xb,yb,zb,Ab,Bb,Cb,Db,Eb⟩:=bc4_ b.1))
  refine bodyPost_ret (results_cell_row rfl _ _ D 29 #[.slice A s.length B,.int .i64 X,.int .i64 y,.string z] (0,0) _ rfl (bp_ b.1) Tryz.underlying29 rfl (by kernel_rfl)) rfl ?_
  exact⟨_,rr_,Kd.R_mono (rf_ D (Kd.R_far (p:=⟨W,1,none⟩) (Kd.R_types (Kd.R_types g.1 d.1 (by decide)) b.1 (by decide)) (fun _ hk=>hk.1.2) (.int .i64 X)) (fun _ hk=>hk.2)) (fun _ hk=>trivial),hs_ o.1⟩
 simp only[Option.some.injEq,Prod.mk.injEq] at H
 obtain⟨rfl,rfl,rfl,rfl⟩:=H
 refine⟨?_⟩
 go_wp2_with (first|((with_reducible refine gate_callee (f:=119) rfl ?_);refine gl_ (some 10) Tryz.func119 #[.agg #[.slice v k.length x,.int .i64 l,.int .i64 q,.string r],.agg #[.slice t i.length u,.int .i64 j,.int .i64 m,.string n]] ?_;(with_reducible refine(spec_Touch.calls _ _ k l q r _ _ i j m n false _ ?_ ?_ ?_ ?_ A4.1).mono ?_);exact Kd.C_below U.1 (hs_ o.1);exact V.1;exact Kd.C_below G.1 (hs_ o.1);exact I.1;rintro e gc ⟨rfl,hb⟩;refine⟨_,rfl,?_⟩;replace g:=M_ (Kd.R_below (ry_ g.1 d.1) hb);obtain⟨a,c,b⟩:=u3_ hb a c b;replace d:=by_ d #[.slice A s.length B,.int .i64 F,.int .i64 y,.string z] hb;replace o:=st_ o hb;(try clear hb);obtain⟨Fb,Gb,Hb,Ib,Jb,Kb,Lb,Mb⟩:=bc4_ d.1;obtain⟨Nb,Ob,Pb,Qb,Rb,Sb,Tb,Ub⟩:=bc4_ b.1))
 refine bodyPost_ret (results_cell_row rfl _ _ D 29 #[.slice A s.length B,.int .i64 F,.int .i64 y,.string z] (0,0) _ rfl (bp_ b.1) Tryz.underlying29 rfl (by kernel_rfl)) rfl ?_
 exact⟨_,rr_,Kd.R_mono (ry_ g.1 b.1) (fun _ hk=>trivial),hs_ o.1⟩
def spec_PutChain.f (k:Nat) (h:Int) (c:List S29) (g:List S99) (i:Int) (j:Int) (l:ByteArray):Option (Int×(List S29)×Bool):=(spec_l6Copy.f k h c).bind fun b=>((spec_InChain.f k h c g).bind fun a=>(if a<0 then ((spec_l4Copy.f g i j l).bind fun d=>(if b.2.length<2513169434916 then (some (b.1,(b.2++[(⟨d.1,d.2.1,d.2.2.1,d.2.2.2⟩:S29)]),true)) else (none))) else (if 0≤a then (if a<(c.length:Int) then ((spec_Merge.f ((rd_T29 c a).f0) ((rd_T29 c a).f1) ((rd_T29 c a).f2) ((rd_T29 c a).f3) g i j l).bind fun e=>(if a<(b.2.length:Int) then (some (b.1,(b.2.set (a:Int).toNat (⟨e.1,e.2.1,e.2.2.1,e.2.2.2⟩:S29)),false)) else (none))) else (none)) else (none))))
def spec_PutChain.T7:Bool×List (List Nat×List Nat):=(true,[([],[]),([0],[0]),([],[]),([1,2],[1,2]),([3],[3]),([],[]),([4,5],[4,5]),([],[]),([7,6,6,0,1,2,3,4,5,6,7],[6,7])])
def spec_PutChain.B7:List Nat:=[0,1,0,7,15,0,63,0,255]
theorem spec_PutChain.tab7:rtab .any (opsOf Tryz.f62 7)=spec_PutChain.T7:=by kernel_rfl
theorem spec_PutChain.bits7:waitsOk spec_PutChain.T7.2 spec_PutChain.B7=true:=by kernel_rfl
theorem spec_PutChain.calls (k:Nat) (Z:Int) (Ca:Option Addr) (ja:Nat) (r:List S29) (aa:Option Addr) (ba:Nat) (N:List S99) (W:Int) (X:Int) (Y:ByteArray) (r1:Int) (r2:List S29) (r3:Bool) (w:World) (ib:Kd.C k29 w Ca r.length r) (jb:r.length≤ja) (kb:Kd.C k99 w aa N.length N) (lb:N.length≤ba) (h:spec_PutChain.f k Z r N W X Y=some (r1,r2,r3)) :
  Calls Tryz.prog 62 #[.agg #[.int .i64 Z,.slice Ca r.length ja],.agg #[.slice aa N.length ba,.int .i64 W,.int .i64 X,.string Y]] w fun e w'=>∃v1_:Value,e=.returned (.tuple #[.agg #[.int .i64 r1,v1_],.bool r3])∧Kd.S k29 29 w' w.heap.size (fun _=>True) v1_ r2∧Below w.heap.size w w':=by
 have hu80:=Tryz.underlying80
 have hu29:=Tryz.underlying29
 have Pa:=M_ ib
 have Wa:=M_ jb
 clear ib jb
 have Da:=M_ kb
 have Ea:=M_ lb
 clear kb lb
 have B:=M_ (Below.refl w.heap.size w)
 unfold spec_PutChain.f at h
 have H:=h;clear h
 replace H:=bi_ H;obtain⟨⟨ra,E⟩,A3,H⟩:=H;(try dsimp only at H)
 replace H:=bi_ H;obtain⟨l,A4,H⟩:=H
 have AHz_:=M_ H
 clear H
 go_enter Tryz.func62,Tryz.ntmps62
 go_wp2_with (first|((with_reducible refine gd_ 2 rfl ?_);refine bV_ 2 #[.int .i64 Z,.slice Ca r.length ja] 80 ?_;intro ca hg w8 c hb;have md:=gq_ hg B;replace B:=st_ B hb;clear hb hg)|((with_reducible refine gd_ 3 rfl ?_);refine bV_ 3 #[.slice aa N.length ba,.int .i64 W,.int .i64 X,.string Y] 29 ?_;intro s hg w9 a hb;have nd:=gq_ hg B;replace B:=st_ B hb;obtain⟨Xa,Lb,c⟩:=nb_ c hg hb;clear hb hg)|((with_reducible refine gd_ 4 rfl ?_);refine bV_ 4 #[.int .i64 0,.slice none 0 0] 80 ?_;intro la hg Ef m hb;have od:=gq_ hg B;replace B:=st_ B hb;obtain⟨Ya,Mb,c⟩:=nb_ c hg hb;obtain⟨Za,Nb,a⟩:=nb_ a hg hb;clear hb hg;have pd:=n2_ Xa;have qd:=n2_ Ya;obtain⟨rd,sd,td,ud⟩:=bc2_ c.1)|((with_reducible refine gate_callee (f:=92) rfl ?_);refine gl_ (some 11) Tryz.func92 #[.agg #[.int .i64 Z,.slice Ca r.length ja]] ?_;(with_reducible refine(spec_l6Copy.calls k Z _ _ r ra E _ ?_ ?_ A3.1).mono ?_);exact cp_ ((Kd.C_below Pa.1 B.1));exact Wa.1;rintro e Ff ⟨tf,rfl,va,hb⟩;refine⟨_,rfl,?_⟩;have d:=M_ (Kd.S_lower (Kd.S_newB va (pb_ a.1)) (below_size (hs_ B.1)));obtain⟨c,a,m,B⟩:=u4_ hb c a m B;(try clear hb va))|(((with_reducible refine gd_ 6 rfl ?_);refine bV_ 6 #[.int .i64 0,.slice none 0 0] 80 ?_;intro ya hg Gf q hb;replace d:=sb_ d hb;have vd:=gq_ hg B;replace B:=st_ B hb;obtain⟨Ob,ab,c⟩:=nb_ c hg hb;obtain⟨Pb,bb,a⟩:=nb_ a hg hb;obtain⟨Qb,cb,m⟩:=nb_ m hg hb;clear hb hg;have wd:=n2_ ab;have xd:=n2_ bb;have yd:=n2_ cb;obtain⟨zd,Ad,Bd,Cd⟩:=bc2_ q.1;obtain⟨ma,fa,ac⟩:=Kd.S_slice d.1;subst ac;obtain⟨Dd,Ed,Fd,Gd⟩:=bc2_ c.1;have Hd:=n2_ Za;obtain⟨Id,Jd,Ld,Md,Nd,Od,Pd,Qd⟩:=bc4_ a.1);refine Aside0.out ?_))
 have H:=AHz_.1
 clear AHz_
 replace H:=ie_ H;rcases H with⟨c5,H⟩|⟨c5,H⟩
 ·
  have cc:=decide_eq_true c5
  clear c5
  replace H:=bi_ H;obtain⟨⟨ka,za,Aa,Ba⟩,A6,H⟩:=H;(try dsimp only at H)
  replace H:=im_ H;obtain⟨dc,H⟩:=H
  obtain⟨mb,hy_⟩:∃y_:List S29,y_=(E++[(⟨ka,za,Aa,Ba⟩:S29)]):=⟨_,rfl⟩
  replace H:(some (ra,mb,true))=some (r1,r2,r3):=hm_
  have Rb:=M_ hy_;clear hy_
  simp only[Option.some.injEq,Prod.mk.injEq] at H
  obtain⟨rfl,rfl,rfl⟩:=H
  refine⟨?_⟩
  go_wp2_with (first|((with_reducible refine gate_callee (f:=65) rfl ?_);refine gl_ (some 15) Tryz.func65 #[.agg #[.int .i64 Z,.slice Ca r.length ja],.slice aa N.length ba] ?_;(with_reducible refine(spec_InChain.calls k Z _ _ r _ _ N l _ ?_ ?_ ?_ ?_ A4.1).mono ?_);exact Kd.C_below Pa.1 (hs_ B.1);exact Wa.1;exact Kd.C_below Da.1 (hs_ B.1);exact Ea.1;rintro e If ⟨rfl,hb⟩;refine⟨_,rfl,?_⟩;replace d:=M_ (Kd.S_below (sy_ d.1 q.1) hb);obtain⟨c,a,m⟩:=u3_ hb c a m;replace q:=by_ q #[.int .i64 ra,.slice ma E.length fa] hb;replace B:=st_ B hb;(try clear hb);obtain⟨Rd,Sd,Td,Ud,Vd,Wd,Xd,Yd⟩:=bc4_ a.1)|((with_reducible refine gate_callee (f:=63) rfl ?_);refine gl_ (some 19) Tryz.func63 #[.agg #[.slice aa N.length ba,.int .i64 W,.int .i64 X,.string Y]] ?_;(with_reducible refine(spec_l4Copy.calls _ _ N W X Y ka za Aa Ba _ ?_ ?_ A6.1).mono ?_);exact cp_ ((Kd.C_below Da.1 B.1));exact Ea.1;rintro e Jf ⟨uf,rfl,va,hb⟩;refine⟨_,rfl,?_⟩;replace d:=M_ (Kd.S_elder' (sp_ d.1) (Kd.R_base va) hb);have na:=rw_ va B;obtain⟨c,a,m,q,B⟩:=u5_ hb c a m q B;(try clear hb va))|((with_reducible refine gd_ 8 rfl ?_);refine bV_ 8 #[.slice none 0 0,.int .i64 0,.int .i64 0,.string (⟨#[]⟩:ByteArray)] 29 ?_;intro da hg Zd ga hb;replace d:=se_ d hg hb;replace na:=rb_ na hb;have ae:=gq_ hg B;replace B:=st_ B hb;obtain⟨Sb,db,c⟩:=nb_ c hg hb;obtain⟨Tb,eb,a⟩:=nb_ a hg hb;obtain⟨Ub,fb,m⟩:=nb_ m hg hb;obtain⟨Vb,gb,q⟩:=nb_ q hg hb;clear hb hg;obtain⟨Fa,Ga,ec⟩:=Kd.R_slice na.1;subst ec;have be:=n2_ db;have ce:=n2_ eb;have de:=n2_ fb;have ee:=n2_ gb;obtain⟨fe,ge,he,ie,je,ke,le,me⟩:=bc4_ ga.1)|((with_reducible refine gate_store (t:=29) (p:=8) rfl ?_);refine store_event (t:=29) (p:=8) (v:=?vo_w34) (w1:=((((Zd.setCell ⟨da,0,none⟩ (.slice Fa ka.length Ga)).setCell ⟨da,1,none⟩ (.int .i64 za)).setCell ⟨da,2,none⟩ (.int .i64 Aa)).setCell ⟨da,3,none⟩ (.string Ba))) ?hg ?ho ?hn ?hr ?_;(case ho=>rfl);(case hg=>rfl);(case hn=>rfl);(case hr=>first|(go_simp;done)|(go_simp;rfl));intro Ra hw;replace d:Aside0 (Kd.S k29 29 Ra w.heap.size (fun k_=>some k_≠(.slice Fa ka.length Ga:Value).ownBlock∧k_≠s∧k_≠da) (.slice ma E.length fa) E):=⟨(by rw[hw];exact(Kd.S_mono (sf_ da d.1 (fun _ hk=>hk.2)) (fun _ hk=>⟨hk.1.2,⟨hk.1.1.2,hk.2⟩⟩)))⟩;replace na:Aside0 (Kd.R k99 99 Ra w.heap.size (fun _=>True) (.slice Fa ka.length Ga) ka):=⟨(by rw[hw];exact(Kd.R_mono (ry_ na.1 ga.1) (fun _ hk=>trivial)))⟩;replace c:Aside0 (Ra.heap[ca]?=some (.cells #[.int .i64 Z,.slice Ca r.length ja] 80 (0,0))):=⟨(by rw[hw];exact(bq_ c.1))⟩;replace a:Aside0 (Ra.heap[s]?=some (.cells #[.slice aa N.length ba,.int .i64 W,.int .i64 X,.string Y] 29 (0,0))):=⟨(by rw[hw];exact(bq_ a.1))⟩;replace m:Aside0 (Ra.heap[la]?=some (.cells #[.int .i64 0,.slice none 0 0] 80 (0,0))):=⟨(by rw[hw];exact(bq_ m.1))⟩;replace q:Aside0 (Ra.heap[ya]?=some (.cells #[.int .i64 ra,.slice ma E.length fa] 80 (0,0))):=⟨(by rw[hw];exact(bq_ q.1))⟩;replace ga:Aside0 (Ra.heap[da]?=some (.cells #[.slice Fa ka.length Ga,.int .i64 za,.int .i64 Aa,.string Ba] 29 (0,0))):=⟨(by rw[hw];exact(bp_ ga.1))⟩;replace B:Aside0 (Below w.heap.size w Ra):=⟨(by rw[hw];exact(hs_ B.1))⟩;clear hw;obtain⟨ne,oe,pe,qe⟩:=bc2_ q.1;obtain⟨re,se,te,ue,ve,we,xe,ye⟩:=bc4_ ga.1)|((with_reducible refine gate_builtin (b:=.append) (xs:=#[.tmp 21,.tmp 23]) rfl ?_);at_builtin;refine Kd.S_append k29 (w0:=w) w.heap.size rfl (.tmp 21) (.tmp 23) 40 29 (.agg #[(.slice none 0 0),(.int .i64 0),(.int .i64 0),(.string ⟨#[]⟩)]) 56 rfl Tryz.underlying40 info29 rfl (by decide) (by omega) (.slice ma E.length fa) E (⟨ka,za,Aa,Ba⟩:S29) [.slice Fa ka.length Ga,.int .i64 za,.int .i64 Aa,.string Ba] (fun k_=>k_≠s∧k_≠da) (fun k_=>some k_=(.slice Fa ka.length Ga:Value).ownBlock) rfl rfl ?aP (fun k_ hk_=>((Kd.R_mono (ok':=fun k_=>((fun k_=>k_≠s∧k_≠da)) k_∧some k_≠(.slice ma E.length fa:Value).ownBlock) (Kd.R_types (Kd.R_types (Kd.R_apart' (na.1) (Kd.S_typed d.1) (by decide)) a.1 (by decide)) ga.1 (by decide)) (fun k_ hk=>⟨⟨hk.1.2,hk.2⟩,hk.1.1.2⟩))).1 k_ hk_.symm) ?aF ?aO ?aB ?aS ?aL ?_;(case aP=>exact k29_mkM _ _ _ (⟨ka,za,Aa,Ba⟩:S29) (Kd.R_mono (Kd.R_tight rfl (Kd.R_mono (ok':=fun k_=>((fun k_=>k_≠s∧k_≠da)) k_∧some k_≠(.slice ma E.length fa:Value).ownBlock) (Kd.R_types (Kd.R_types (Kd.R_apart' (na.1) (Kd.S_typed d.1) (by decide)) a.1 (by decide)) ga.1 (by decide)) (fun k_ hk=>⟨⟨hk.1.2,hk.2⟩,hk.1.1.2⟩))) (fun _ h_=>h_)));(case aB=>exact(hs_ B.1));(case aF=>exact(fun k_ hk=>⟨Kd.freshB (g:=s) (o:=.cells #[.slice aa N.length ba,.int .i64 W,.int .i64 X,.string Y] 29 (0,0)) (pb_ a.1) k_ hk,Kd.freshB (g:=da) (o:=.cells #[.slice Fa ka.length Ga,.int .i64 za,.int .i64 Aa,.string Ba] 29 (0,0)) (pb_ ga.1) k_ hk⟩));(case aO=>exact(Kd.S_mono (sp_ d.1) (fun k_ hk=>⟨⟨hk.2.1,hk.2.2⟩,fun e_=>hk.1 e_⟩)));(case aS=>exact(below_size (hs_ B.1)));(case aL=>have:=dc.1;omega);intro vf Kf ho hb hg hat;rw[←Rb.1] at ho;replace c:=bg_ c hg d;replace a:=M_ (blk_grown (bq_ a.1) hg (Kd.S_away d.1 (fun _ hk=>hk.2.1)));replace m:=bg_ m hg d;replace q:=bg_ q hg d;replace ga:=M_ (blk_grown (bq_ ga.1) hg (Kd.S_away d.1 (fun _ hk=>hk.2.2)));replace B:=M_ (hb);have nb:=M_ (ho);clear d na;clear ho hb hg hat;obtain⟨xb,yb,fc⟩:=Kd.S_slice nb.1;subst fc;obtain⟨ze,Ae,Be,Ce⟩:=bc2_ q.1;obtain⟨De,Ee,Fe,Ge⟩:=bc2_ m.1))
  refine bodyPost_ret (results_ct rfl _ _ la 80 #[.int .i64 ra,.slice xb mb.length yb] (0,0) _ rfl (bp_ m.1) Tryz.underlying80 rfl (by kernel_rfl)) rfl ?_
  exact⟨_,rr_,Kd.S_mono (sf_ la (Kd.S_far (p:=⟨ya,1,none⟩) (Kd.S_types (Kd.S_types nb.1 q.1 (by decide)) m.1 (by decide)) (fun _ hk=>hk.1.2) (.slice xb mb.length yb)) (fun _ hk=>hk.2)) (fun _ hk=>trivial),hs_ B.1⟩
 have cc:decide (l<0)=false:=decide_eq_false c5
 clear c5
 replace H:=i2_ H;obtain⟨He,Ie,H⟩:=H
 replace H:=bi_ H;obtain⟨⟨ha,sa,ta,ua⟩,gc,H⟩:=H;(try dsimp only at H)
 replace H:=id_ H;obtain⟨Je,H⟩:=H
 obtain⟨zb,hy_⟩:∃y_:List S29,y_=(E.set (l:Int).toNat (⟨ha,sa,ta,ua⟩:S29)):=⟨_,rfl⟩
 replace H:(some (ra,zb,false))=some (r1,r2,r3):=hm_
 have Wb:=M_ hy_;clear hy_
 simp only[Option.some.injEq,Prod.mk.injEq] at H
 obtain⟨rfl,rfl,rfl⟩:=H
 refine⟨?_⟩
 try go_wp2_with (first|((with_reducible refine gate_callee (f:=65) rfl ?_);refine gl_ (some 15) Tryz.func65 #[.agg #[.int .i64 Z,.slice Ca r.length ja],.slice aa N.length ba] ?_;(with_reducible refine(spec_InChain.calls k Z _ _ r _ _ N l _ ?_ ?_ ?_ ?_ A4.1).mono ?_);exact Kd.C_below Pa.1 (hs_ B.1);exact Wa.1;exact Kd.C_below Da.1 (hs_ B.1);exact Ea.1;rintro e Ke ⟨rfl,hb⟩;refine⟨_,rfl,?_⟩;replace d:=M_ (Kd.S_below (sy_ d.1 q.1) hb);obtain⟨c,a,m⟩:=u3_ hb c a m;replace q:=by_ q #[.int .i64 ra,.slice ma E.length fa] hb;replace B:=st_ B hb;(try clear hb)))
 obtain⟨d,c,a,m,q,B⟩:=y6_ d c a m q B
 obtain⟨ob,pb⟩:0≤(l:Int)∧l<(r.length:Int):=pq_
 obtain⟨O,wa,xa,hc,ia,oa,pa,qa,Sa,Ta⟩:=at_T29 Pa.1 l ob pb
 have x:=qa
 have y:=pa
 have z:=oa
 have A:=ia
 cases hc
 replace ia:=c4_ B ia oa pa qa;clear oa pa qa;obtain⟨ia,oa,pa,qa⟩:=ia
 have Ha:=M_ Ta
 have Ua:=M_ Sa
 clear Ta Sa
 replace ob:=eq_true ob;replace pb:=eq_true pb
 refine start_ (n:=9) (S:=fun w'=>c_ w' ca 0 (.int .i64 Z)∧c_ w' ca 1 (.slice (some O) r.length ja)∧c_ w' s 0 (.slice aa N.length ba)∧c_ w' s 1 (.int .i64 W)∧c_ w' s 2 (.int .i64 X)∧c_ w' s 3 (.string Y)∧w'.cell? (O.add ((l).toNat*4))=some (.slice wa ((rd_T29 r l).f0).length xa)∧d_ w' (O.add ((l).toNat*4)) 1 (.int .i64 ((rd_T29 r l).f1))∧d_ w' (O.add ((l).toNat*4)) 2 (.int .i64 ((rd_T29 r l).f2))∧d_ w' (O.add ((l).toNat*4)) 3 (.string ((rd_T29 r l).f3))) (ds:=[]) (b_ 0 9) (by kernel_rfl) rfl rfl ⟨bx_ c.1 0,bx_ c.1 1,bx_ a.1 0,bx_ a.1 1,bx_ a.1 2,bx_ a.1 3,((B.1.cell (World.block_lt_of_cell? w _ A)).trans A),((B.1.cell (World.block_lt_of_cell? w _ z)).trans z),((B.1.cell (World.block_lt_of_cell? w _ y)).trans y),((B.1.cell (World.block_lt_of_cell? w _ x)).trans x)⟩ (fun D=>?_);refine with_tabW spec_PutChain.tab7 spec_PutChain.bits7 (fun La ic=>?_)
 generalize Ke.drew=Lf at d c a m q B Ha ia oa pa qa D ⊢
 refine p_ La ?_
 refine qw_ 2 (m_ 9 5) La ?_
 refine qt_ 1 (b_ 3 6) La ic D ?_
 refine p_ La ?_
 iterate 2 refine t0_ La ic D ?_
 refine join_ (σ:=Value×Nat) 1 (b_ 8 1) (fun s_=>[(33,.agg #[s_.1,.int .i64 sa,.int .i64 ta,.string ua]),(9,.pointer (some ⟨s_.2,0,none⟩))]) (fun s_ w'=>(c_ w' ca 0 (.int .i64 Z)∧c_ w' ca 1 (.slice (some O) r.length ja)∧c_ w' s 0 (.slice aa N.length ba)∧c_ w' s 1 (.int .i64 W)∧c_ w' s 2 (.int .i64 X)∧c_ w' s 3 (.string Y)∧w'.cell? (O.add ((l).toNat*4))=some (.slice wa ((rd_T29 r l).f0).length xa)∧d_ w' (O.add ((l).toNat*4)) 1 (.int .i64 ((rd_T29 r l).f1))∧d_ w' (O.add ((l).toNat*4)) 2 (.int .i64 ((rd_T29 r l).f2))∧d_ w' (O.add ((l).toNat*4)) 3 (.string ((rd_T29 r l).f3)))∧(Kd.S k29 29 w' w.heap.size (fun k_=>some k_≠(s_.1:Value).ownBlock∧k_≠s∧k_≠s_.2) (.slice ma E.length fa) E)∧(Kd.R k99 99 w' w.heap.size (fun _=>True) s_.1 ha)∧(w'.heap[ca]?=some (.cells #[.int .i64 Z,.slice (some O) r.length ja] 80 (0,0)))∧(w'.heap[s]?=some (.cells #[.slice aa N.length ba,.int .i64 W,.int .i64 X,.string Y] 29 (0,0)))∧(w'.heap[la]?=some (.cells #[.int .i64 0,.slice none 0 0] 80 (0,0)))∧(w'.heap[ya]?=some (.cells #[.int .i64 ra,.slice ma E.length fa] 80 (0,0)))∧(w'.heap[s_.2]?=some (.cells #[.slice none 0 0,.int .i64 0,.int .i64 0,.string (⟨#[]⟩:ByteArray)] 29 (0,0)))∧(w.heap.size≤s_.2)∧(w.heap.size≤s_.2)∧(ca≠s_.2)∧(s_.2≠ca)∧(s≠s_.2)∧(s_.2≠s)∧(la≠s_.2)∧(s_.2≠la)∧(ya≠s_.2)∧(s_.2≠ya)∧(Below w.heap.size w w')) ?_ ?_
 rotate_left
 ·
  intro qb
  refine two_ (i:=6) (j:=7) (Ni:=some 33) (Nj:=some 9) (b_ 7 2) (m_ 9 191) rfl rfl rfl rfl (two_of La.1 (by kernel_rfl)) (by decide) (by decide) (fun K hK=>?_) (fun K hK=>?_)
  ·
   skip
   refine gs_ Tryz.func100 #[.agg #[.slice wa ((rd_T29 r l).f0).length xa,.int .i64 ((rd_T29 r l).f1),.int .i64 ((rd_T29 r l).f2),.string ((rd_T29 r l).f3)],.agg #[.slice aa N.length ba,.int .i64 W,.int .i64 X,.string Y]] ?_
   with_reducible refine(spec_Merge.calls _ _ ((rd_T29 r l).f0) ((rd_T29 r l).f1) ((rd_T29 r l).f2) ((rd_T29 r l).f3) _ _ N W X Y ha sa ta ua _ ?_ ?_ ?_ ?_ gc.1).mono ?_
   exact cp_ ((Kd.C_below Ha.1 B.1))
   exact Ua.1
   exact cp_ ((Kd.C_below Da.1 B.1))
   exact Ea.1
   rintro e Le ⟨Ma,rfl,va,hb⟩
   refine⟨_,rfl,?_⟩
   replace d:=M_ (Kd.S_elder' (sp_ d.1) (Kd.R_base va) hb)
   have V:=rw_ va B
   obtain⟨c,a,m,q,B⟩:=u5_ hb c a m q B
   (try clear hb va)
   refine ho_ hK ⟨bx_ c.1 0,bx_ c.1 1,bx_ a.1 0,bx_ a.1 1,bx_ a.1 2,bx_ a.1 3,((B.1.cell (World.block_lt_of_cell? w _ A)).trans A),((B.1.cell (World.block_lt_of_cell? w _ z)).trans z),((B.1.cell (World.block_lt_of_cell? w _ y)).trans y),((B.1.cell (World.block_lt_of_cell? w _ x)).trans x)⟩ (fun D=>?_)
   refine o1_ 7 (b_ 8 1) La (fun K hK=>?_)
   refine bs1_ 9 #[.slice none 0 0,.int .i64 0,.int .i64 0,.string (⟨#[]⟩:ByteArray)] 29 ?_
   intro F hg Me Va hb
   replace d:=se_ d hg hb
   replace V:=rb_ V hb
   have u:=M_ (Va)
   have G:=gq_ hg B
   have Qa:=gq_ hg B
   replace B:=st_ B hb
   have P:=nk_ c hg
   have I:=Ne_.mk (ng_ c.1 hg)
   replace c:=bk2_ c hb
   have Q:=nk_ a hg
   have J:=Ne_.mk (ng_ a.1 hg)
   replace a:=bk2_ a hb
   have T:=nk_ m hg
   have L:=Ne_.mk (ng_ m.1 hg)
   replace m:=bk2_ m hb
   have M:=nk_ q hg
   have U:=Ne_.mk (ng_ q.1 hg)
   replace q:=bk2_ q hb
   clear hb Va hg
   refine ho_ hK ⟨bx_ c.1 0,bx_ c.1 1,bx_ a.1 0,bx_ a.1 1,bx_ a.1 2,bx_ a.1 3,((B.1.cell (World.block_lt_of_cell? w _ A)).trans A),((B.1.cell (World.block_lt_of_cell? w _ z)).trans z),((B.1.cell (World.block_lt_of_cell? w _ y)).trans y),((B.1.cell (World.block_lt_of_cell? w _ x)).trans x)⟩ (fun D=>?_)
   exact norm_ (by simp only[putAll,fr_]) (qb (Ma,F) _ ⟨D,(Kd.S_mono (sp_ d.1) (fun _ hk=>⟨hk.1.2,⟨hk.1.1.2,hk.2⟩⟩)),(rp_ V.1),(pb_ c.1),(pb_ a.1),(pb_ m.1),(pb_ q.1),(pb_ u.1),G.1,Qa.1,P.1,I.1,Q.1,J.1,T.1,L.1,M.1,U.1,(hs_ B.1)⟩)
  skip
  refine bs1_ 9 #[.slice none 0 0,.int .i64 0,.int .i64 0,.string (⟨#[]⟩:ByteArray)] 29 ?_
  intro F hg Le Va hb
  replace d:=se_ d hg hb
  have u:=M_ (Va)
  have G:=gq_ hg B
  have Qa:=gq_ hg B
  replace B:=st_ B hb
  have P:=nk_ c hg
  have I:=Ne_.mk (ng_ c.1 hg)
  replace c:=bk2_ c hb
  have Q:=nk_ a hg
  have J:=Ne_.mk (ng_ a.1 hg)
  replace a:=bk2_ a hb
  have T:=nk_ m hg
  have L:=Ne_.mk (ng_ m.1 hg)
  replace m:=bk2_ m hb
  have M:=nk_ q hg
  have U:=Ne_.mk (ng_ q.1 hg)
  replace q:=bk2_ q hb
  clear hb Va hg
  refine ho_ hK ⟨bx_ c.1 0,bx_ c.1 1,bx_ a.1 0,bx_ a.1 1,bx_ a.1 2,bx_ a.1 3,((B.1.cell (World.block_lt_of_cell? w _ A)).trans A),((B.1.cell (World.block_lt_of_cell? w _ z)).trans z),((B.1.cell (World.block_lt_of_cell? w _ y)).trans y),((B.1.cell (World.block_lt_of_cell? w _ x)).trans x)⟩ (fun D=>?_)
  refine o1_ 6 (b_ 8 1) La (fun K hK=>?_)
  refine gs_ Tryz.func100 #[.agg #[.slice wa ((rd_T29 r l).f0).length xa,.int .i64 ((rd_T29 r l).f1),.int .i64 ((rd_T29 r l).f2),.string ((rd_T29 r l).f3)],.agg #[.slice aa N.length ba,.int .i64 W,.int .i64 X,.string Y]] ?_
  with_reducible refine(spec_Merge.calls _ _ ((rd_T29 r l).f0) ((rd_T29 r l).f1) ((rd_T29 r l).f2) ((rd_T29 r l).f3) _ _ N W X Y ha sa ta ua _ ?_ ?_ ?_ ?_ gc.1).mono ?_
  exact cp_ ((Kd.C_below Ha.1 B.1))
  exact Ua.1
  exact cp_ ((Kd.C_below Da.1 B.1))
  exact Ea.1
  rintro e Me ⟨Ma,rfl,va,hb⟩
  refine⟨_,rfl,?_⟩
  replace d:=M_ (Kd.S_elder' (sp_ d.1) (Kd.R_base va) hb)
  have V:=rw_ va B
  obtain⟨c,a,m,q,u,B⟩:=u6_ hb c a m q u B
  (try clear hb va)
  refine ho_ hK ⟨bx_ c.1 0,bx_ c.1 1,bx_ a.1 0,bx_ a.1 1,bx_ a.1 2,bx_ a.1 3,((B.1.cell (World.block_lt_of_cell? w _ A)).trans A),((B.1.cell (World.block_lt_of_cell? w _ z)).trans z),((B.1.cell (World.block_lt_of_cell? w _ y)).trans y),((B.1.cell (World.block_lt_of_cell? w _ x)).trans x)⟩ (fun D=>?_)
  exact norm_ (by simp only[putAll,fr_]) (qb (Ma,F) _ ⟨D,(Kd.S_mono (sp_ d.1) (fun _ hk=>⟨hk.2,⟨hk.1.1.2,hk.1.2⟩⟩)),(rp_ V.1),(pb_ c.1),(pb_ a.1),(pb_ m.1),(pb_ q.1),(pb_ u.1),G.1,Qa.1,P.1,I.1,Q.1,J.1,T.1,L.1,M.1,U.1,(hs_ B.1)⟩)
 rintro ⟨Ma,F⟩ ea ⟨Ne,jc,kc,lc,mc,nc,oc,pc,qc,rc,sc,Ab,Bb,Cb,Db,Eb,Fb,Gb,Hb⟩
 replace d:Aside0 (Kd.S k29 29 ea w.heap.size (fun k_=>some k_≠(Ma:Value).ownBlock∧k_≠s∧k_≠F) (.slice ma E.length fa) E):=⟨jc⟩
 have V:Aside0 (Kd.R k99 99 ea w.heap.size (fun _=>True) Ma ha):=⟨kc⟩
 replace c:Aside0 (ea.heap[ca]?=some (.cells #[.int .i64 Z,.slice (some O) r.length ja] 80 (0,0))):=⟨lc⟩
 replace a:Aside0 (ea.heap[s]?=some (.cells #[.slice aa N.length ba,.int .i64 W,.int .i64 X,.string Y] 29 (0,0))):=⟨mc⟩
 replace m:Aside0 (ea.heap[la]?=some (.cells #[.int .i64 0,.slice none 0 0] 80 (0,0))):=⟨nc⟩
 replace q:Aside0 (ea.heap[ya]?=some (.cells #[.int .i64 ra,.slice ma E.length fa] 80 (0,0))):=⟨oc⟩
 have u:Aside0 (ea.heap[F]?=some (.cells #[.slice none 0 0,.int .i64 0,.int .i64 0,.string (⟨#[]⟩:ByteArray)] 29 (0,0))):=⟨pc⟩
 have G:=Ge_.mk qc
 have Qa:=Ge_.mk rc
 have P:=Ne_.mk sc
 have I:=Ne_.mk Ab
 have Q:=Ne_.mk Bb
 have J:=Ne_.mk Cb
 have T:=Ne_.mk Db
 have L:=Ne_.mk Eb
 have M:=Ne_.mk Fb
 have U:=Ne_.mk Gb
 replace B:Aside0 (Below w.heap.size w ea):=⟨Hb⟩
 clear jc kc lc mc nc oc pc qc rc sc Ab Bb Cb Db Eb Fb Gb Hb
 have D:c_ ea ca 0 (.int .i64 Z)∧c_ ea ca 1 (.slice (some O) r.length ja)∧c_ ea s 0 (.slice aa N.length ba)∧c_ ea s 1 (.int .i64 W)∧c_ ea s 2 (.int .i64 X)∧c_ ea s 3 (.string Y)∧ea.cell? (O.add ((l).toNat*4))=some (.slice wa ((rd_T29 r l).f0).length xa)∧d_ ea (O.add ((l).toNat*4)) 1 (.int .i64 ((rd_T29 r l).f1))∧d_ ea (O.add ((l).toNat*4)) 2 (.int .i64 ((rd_T29 r l).f2))∧d_ ea (O.add ((l).toNat*4)) 3 (.string ((rd_T29 r l).f3)):=Ne
 obtain⟨Na,Oa,Ib⟩:=Kd.R_slice V.1
 (first|subst Ib|(obtain⟨rfl,rfl⟩:=si_ Ib))
 refine nm_ ?_
 refine o1_ 8 (b_ 9 0) La (fun K hK=>?_)
 have wf:ea.cell? ⟨F,0,none⟩=some (.slice none 0 0):=bx_ u.1 0
 have Oe:=blk_frozen u.1 0
 have tc:=P.1
 have uc:=Q.1
 have vc:=T.1
 have wc:=M.1
 have xc:=I.1
 have yc:=J.1
 have zc:=L.1
 have Ac:=U.1
 have xf:ea.cell? ⟨F,1,none⟩=some (.int .i64 0):=bx_ u.1 1
 have Pe:=blk_frozen u.1 1
 have Bc:=P.1
 have Cc:=Q.1
 have Dc:=T.1
 have Ec:=M.1
 have Fc:=I.1
 have Gc:=J.1
 have Hc:=L.1
 have Ic:=U.1
 have yf:ea.cell? ⟨F,2,none⟩=some (.int .i64 0):=bx_ u.1 2
 have Qe:=blk_frozen u.1 2
 have Jc:=P.1
 have Kc:=Q.1
 have Lc:=T.1
 have Mc:=M.1
 have Nc:=I.1
 have Oc:=J.1
 have Pc:=L.1
 have Qc:=U.1
 have zf:ea.cell? ⟨F,3,none⟩=some (.string (⟨#[]⟩:ByteArray)):=bx_ u.1 3
 have Re:=blk_frozen u.1 3
 have Rc:=P.1
 have Sc:=Q.1
 have Tc:=T.1
 have Uc:=M.1
 have Vc:=I.1
 have Wc:=J.1
 have Xc:=L.1
 have Yc:=U.1
 refine skip_ (w1:=?_) (by rfl) rfl ?_ ?_
 rotate_left
 ·
  go_simp
  rfl
 refine hK.out _ _ ⟨(cg_ (D.1)),(cg_ (D.2.1)),(cg_ (D.2.2.1)),(cg_ (D.2.2.2.1)),(cg_ (D.2.2.2.2.1)),(cg_ (D.2.2.2.2.2.1)),(ce_ A G.1 ((ce_ A G.1 ((ce_ A G.1 ((ce_ A G.1 (D.2.2.2.2.2.2.1)))))))),(ce_ z G.1 ((ce_ z G.1 ((ce_ z G.1 ((ce_ z G.1 (D.2.2.2.2.2.2.2.1)))))))),(ce_ y G.1 ((ce_ y G.1 ((ce_ y G.1 ((ce_ y G.1 (D.2.2.2.2.2.2.2.2.1)))))))),(ce_ x G.1 ((ce_ x G.1 ((ce_ x G.1 ((ce_ x G.1 (D.2.2.2.2.2.2.2.2.2))))))))⟩ (fun D=>?_)
 clear hK K
 refine done_ (done_of La.1 (by kernel_rfl)) ?_
 generalize hw_:((((ea.setCell ⟨F,0,none⟩ (.slice Na ha.length Oa)).setCell ⟨F,1,none⟩ (.int .i64 sa)).setCell ⟨F,2,none⟩ (.int .i64 ta)).setCell ⟨F,3,none⟩ (.string ua))=Ia
 have Zc:=ws_ hw_ (Kd.S_mono (ok':=(fun k_=>some k_≠(.slice Na ha.length Oa:Value).ownBlock∧k_≠s∧k_≠F)) (sf_ F d.1 (fun _ hk=>hk.2.2)) (fun _ hk=>⟨hk.1,⟨hk.2.1,hk.2.2⟩⟩))
 have ad:=wr_ hw_ (Kd.R_mono (ok':=(fun _=>True)) (ry_ V.1 u.1) (fun _ hk=>trivial))
 replace c:=wq_ hw_ c
 replace a:=wq_ hw_ a
 replace m:=wq_ hw_ m
 replace q:=wq_ hw_ q
 replace u:=wp_ hw_ #[.slice Na ha.length Oa,.int .i64 sa,.int .i64 ta,.string ua] u
 replace B:=wb_ hw_ B
 clear hw_
 (try clear d V)
 have d:=Zc
 have V:=ad
 clear Zc ad
 have Se:=n2_ M
 obtain⟨Te,Ue,Ve,We⟩:=bc2_ q.1
 have Xe:=n2_ I
 have Ye:=n2_ J
 have Ze:=n2_ L
 obtain⟨af,bf,cf,df,ef,ff,gf,hf⟩:=bc4_ u.1
 obtain⟨Xb,Yb⟩:0≤(l:Int)∧(l:Int)<((E.length:Int):Int):=pq_
 obtain⟨go45,Af,Jb,Kb,gl45,cl45,HG45⟩:=Kd.S_form d.1 (by omega)
 (first|cases Jb|(injection Jb with ea_ en_ ec_;(first|subst ea_|(injection ea_ with ea_;subst ea_));subst ec_;clear en_))
 have GB45:=M_ Kb
 have GG45:=M_ HG45
 clear Kb gl45 HG45
 obtain⟨_,Bf,hcl45,hM45,Ja,hfr45,_,_⟩:=Kd.S_elem d.1 z29 (l:Int) Xb Yb
 obtain⟨sb,rfl,ed⟩:=k29_openM hM45
 have fd:Ia.cell? ⟨go45,(l:Int).toNat*4,none⟩=some (sb):=Ja 0 _ rfl
 have gd:Ia.cell? ⟨go45,(l:Int).toNat*4+1,none⟩=some (.int .i64 ((rd_T29 E l).f1)):=Ja 1 _ rfl
 have hd:Ia.cell? ⟨go45,(l:Int).toNat*4+2,none⟩=some (.int .i64 ((rd_T29 E l).f2)):=Ja 2 _ rfl
 have jd:Ia.cell? ⟨go45,(l:Int).toNat*4+3,none⟩=some (.string ((rd_T29 E l).f3)):=Ja 3 _ rfl
 have hf45_0:Ia.frozen? ⟨go45,(l:Int).toNat*4,none⟩=false:=hfr45 0
 have hf45_1:Ia.frozen? ⟨go45,(l:Int).toNat*4+1,none⟩=false:=hfr45 1
 have hf45_2:Ia.frozen? ⟨go45,(l:Int).toNat*4+2,none⟩=false:=hfr45 2
 have hf45_3:Ia.frozen? ⟨go45,(l:Int).toNat*4+3,none⟩=false:=hfr45 3
 clear hcl45 Ja hfr45 hM45
 replace Xb:=eq_true Xb;replace Yb:=eq_true Yb
 have HX79:=M_ (show Kd.S k29 29 Ia w.heap.size (fun k_=>((fun k_=>k_≠s∧k_≠F)) k_∧¬((fun k_=>some k_=(.slice Na ha.length Oa:Value).ownBlock)) k_) (.slice (some ⟨go45,0,none⟩) E.length fa) E from (Kd.S_mono (sp_ d.1) (fun k_ hk=>⟨⟨hk.2.1,hk.2.2⟩,fun e_=>hk.1 e_⟩)))
 obtain⟨oki79,Cf,hcl79,hM79,Ka,hfr79,hoki79,hH79⟩:=Kd.S_elem HX79.out z29 (l:Int) (of_decide_eq_true (by with_reducible assumption)) (by have h_:(l:Int)<((E.length:Int):Int):=of_decide_eq_true (by with_reducible assumption);first|exact h_|(have e_:=(Kd.S_reads' d.1).1;omega)|simpa using h_)
 obtain⟨kd,rfl,ld⟩:=k29_openM hM79
 have HP79:=Kd.S_seg hH79 (of_decide_eq_true (by with_reducible assumption)) (by have h_:(l:Int)<((E.length:Int):Int):=of_decide_eq_true (by with_reducible assumption);first|exact h_|(have e_:=(Kd.S_reads' d.1).1;omega)|simpa using h_) (seg:=[.slice Na ha.length Oa,.int .i64 sa,.int .i64 ta,.string ua]) (j:=0) (show 4≤4 from by decide) (x':=(⟨ha,sa,ta,ua⟩:S29)) (k29_mkM _ _ _ (⟨ha,sa,ta,ua⟩:S29) (Kd.R_mono (Kd.R_tight rfl (Kd.R_mono (ok':=fun k_=>((fun k_=>k_≠s∧k_≠F)) k_∧k_≠go45) (Kd.R_types (Kd.R_types (Kd.R_apart' (V.1) (Kd.S_typed d.1) (by decide)) a.1 (by decide)) u.1 (by decide)) (fun k_ hk=>⟨⟨hk.1.2,hk.2⟩,fun e_=>(hk.1.1.2) (by rw[e_];rfl)⟩))) (fun _ h_=>Or.inr (h_)))) (fun _ hk=>hk) (fun k_ hk_=>((Kd.R_mono (ok':=fun k_=>((fun k_=>k_≠s∧k_≠F)) k_∧k_≠go45) (Kd.R_types (Kd.R_types (Kd.R_apart' (V.1) (Kd.S_typed d.1) (by decide)) a.1 (by decide)) u.1 (by decide)) (fun k_ hk=>⟨⟨hk.1.2,hk.2⟩,fun e_=>(hk.1.1.2) (by rw[e_];rfl)⟩))).1 k_ hk_.symm)
 have tb:=Ka 0 _ rfl
 (try simp only[show (k29).sz=4 from rfl,Nat.mul_one,Nat.add_zero] at tb)
 have hf79_0:=hfr79 0
 (try simp only[show (k29).sz=4 from rfl,Nat.mul_one,Nat.add_zero] at hf79_0)
 have ub:=Ka 1 _ rfl
 (try simp only[show (k29).sz=4 from rfl,Nat.mul_one,Nat.add_zero] at ub)
 have hf79_1:=hfr79 1
 (try simp only[show (k29).sz=4 from rfl,Nat.mul_one,Nat.add_zero] at hf79_1)
 have vb:=Ka 2 _ rfl
 (try simp only[show (k29).sz=4 from rfl,Nat.mul_one,Nat.add_zero] at vb)
 have hf79_2:=hfr79 2
 (try simp only[show (k29).sz=4 from rfl,Nat.mul_one,Nat.add_zero] at hf79_2)
 have wb:=Ka 3 _ rfl
 (try simp only[show (k29).sz=4 from rfl,Nat.mul_one,Nat.add_zero] at wb)
 have hf79_3:=hfr79 3
 (try simp only[show (k29).sz=4 from rfl,Nat.mul_one,Nat.add_zero] at hf79_3)
 clear hcl79 Ka hfr79 hM79 hoki79 hH79
 try go_wp2_with (first|((with_reducible refine gate_store (t:=29) (p:=38) rfl ?_);refine store_event (t:=29) (p:=38) (v:=?vo_w80) (w1:=((((Ia.setCell ⟨go45,(l:Int).toNat*4,none⟩ (.slice Na ha.length Oa)).setCell ⟨go45,(l:Int).toNat*4+1,none⟩ (.int .i64 sa)).setCell ⟨go45,(l:Int).toNat*4+2,none⟩ (.int .i64 ta)).setCell ⟨go45,(l:Int).toNat*4+3,none⟩ (.string ua))) ?hg ?ho ?hn ?hr ?_;(case ho=>rfl);(case hg=>rfl);(case hn=>rfl);(case hr=>first|(go_simp;done)|(go_simp;rfl));intro Zb hw;have hg:Ia.grownBy Zb (some go45):=(by rw[hw];exact HP79.2);have hp_:Kd.S k29 29 Zb w.heap.size (fun k_=>k_≠s∧k_≠F) (.slice (some ⟨go45,0,none⟩) E.length fa) zb:=(by rw[hw,Wb.1];exact HP79.1);clear HP79;replace c:=bg_ c hg d;replace a:=M_ (blk_grown (bq_ a.1) hg (Kd.S_away d.1 (fun _ hk=>hk.2.1)));replace m:=bg_ m hg d;replace q:=bg_ q hg d;replace u:=M_ (blk_grown (bq_ u.1) hg (Kd.S_away d.1 (fun _ hk=>hk.2.2)));replace d:=M_ (hp_);replace B:=M_ ((by rw[hw];exact below_set (below_set (below_set (below_set (B.1) GB45.out) GB45.out) GB45.out) GB45.out:Below w.heap.size w Zb));clear V;clear hg hw hp_;obtain⟨jf,kf,lf,mf⟩:=bc2_ q.1;obtain⟨nf,pf,qf,rf⟩:=bc2_ m.1))
 refine bodyPost_ret (results_ct rfl _ _ la 80 #[.int .i64 ra,.slice (some ⟨go45,0,none⟩) E.length fa] (0,0) _ rfl (bp_ m.1) Tryz.underlying80 rfl (by kernel_rfl)) rfl ?_
 exact⟨_,rr_,Kd.S_mono (sy_ d.1 m.1) (fun _ hk=>trivial),hs_ B.1⟩
mutual
def spec_PutIn.l0:Nat→Int→Int→Int→Int→List S80→List S99→Int→Int→ByteArray→Int→Int→List S80→Option (Int×Int×(List S80)×Bool)
 | 0,_,_,_,_,_,_,_,_,_,_,_,_=>none
 | k+1,m,l,b,c,a,d,e,f,g,h,i,j=>if l<(a.length:Int) then (if 0≤l then (spec_PutIn.j1 k m l (decide (((rd_T80 a l).f0)<m)) b c a d e f g h i j) else (none)) else (spec_PutIn.j1 k m l false b c a d e f g h i j)
def spec_PutIn.j1:Nat→Int→Int→Bool→Int→Int→List S80→List S99→Int→Int→ByteArray→Int→Int→List S80→Option (Int×Int×(List S80)×Bool)
 | 0,_,_,_,_,_,_,_,_,_,_,_,_,_=>none
 | k+1,u,s,t,j,l,m,c,d,e,g,h,i,a=>if t=true then (spec_PutIn.l0 k u (wrap64 (s+1)) j l m c d e g h i a) else ((spec_l4Copy.f c d e g).bind fun b=>((some (([]:List S80):List S80)).bind fun n=>(if 0≤s then (if s≤(a.length:Int) then ((some (a.drop (s:Int).toNat:List S80)).bind fun o=>((some (a.take (s:Int).toNat:List S80)).bind fun p=>(if n.length+p.length<4398046511104 then ((some (n++p:List S80)).bind fun q=>(if q.length<4398046511104 then ((some (q++[(⟨u,(([(⟨b.1,b.2.1,b.2.2.1,b.2.2.2⟩:S29)]:List S29))⟩:S80)]:List S80)).bind fun r=>(if r.length+o.length<4398046511104 then (some (h,i,(r++o),true)) else (none))) else (none))) else (none)))) else (none)) else (none))))
end
def spec_PutIn.f (k:Nat) (g:Int) (d:Int) (c:List S80) (h:List S99) (i:Int) (j:Int) (l:ByteArray):Option (Int×Int×(List S80)×Bool):=(spec_l7Copy.f k g d c).bind fun a=>((spec_Finger.f k h).bind fun m=>((spec_l7At.f k g d c m).bind fun b=>(if b≥0 then (if 0≤b then (if b<(c.length:Int) then ((spec_PutChain.f k ((rd_T80 c b).f0) ((rd_T80 c b).f1) h i j l).bind fun e=>(if b<(a.2.2.length:Int) then (some (a.1,wrap64 (d+1),(a.2.2.set (b:Int).toNat (⟨e.1,e.2.1⟩:S80)),e.2.2)) else (none))) else (none)) else (none)) else (spec_PutIn.l0 k m 0 g d c h i j l a.1 (wrap64 (d+1)) a.2.2))))
def spec_PutIn.T6:Bool×List (List Nat×List Nat):=(true,[([],[]),([0],[0]),([],[]),([1,2],[1,2]),([3],[3]),([],[]),([4,5],[4,5]),([6],[6]),([7],[7]),([7],[7]),([],[]),([10,8,6,0,1,2,3,4,5,6,7,8,10],[8,10]),([9,11,0,1,2,3,4,5,6,7,8,9,10,11],[9])])
def spec_PutIn.B6:List Nat:=[0,1,0,7,15,0,63,127,255,255,0,1535,4095]
theorem spec_PutIn.tab6:rtab .any (opsOf Tryz.f9 6)=spec_PutIn.T6:=by kernel_rfl
theorem spec_PutIn.bits6:waitsOk spec_PutIn.T6.2 spec_PutIn.B6=true:=by kernel_rfl
def spec_PutIn.T13:Bool×List (List Nat×List Nat):=(true,[([],[]),([],[]),([1],[1]),([],[]),([2,3],[2,3]),([0,4],[0,4]),([],[]),([6],[6]),([5,7,5],[5,7]),([],[]),([9],[9]),([],[]),([10,11],[10,11]),([8,12,8],[8,12]),([0,1,2,3,4,5,6,7,8,9,10,11,12,13],[]),([14,13,13,0,1,2,3,4,5,6,7,8,9,10,11,12,13],[13,14])])
def spec_PutIn.B13:List Nat:=[0,0,2,0,14,31,0,64,255,0,512,0,3584,8191,16383,32767]
theorem spec_PutIn.tab13:rtab .any (opsOf Tryz.f9 13)=spec_PutIn.T13:=by kernel_rfl
theorem spec_PutIn.bits13:waitsOk spec_PutIn.T13.2 spec_PutIn.B13=true:=by kernel_rfl
theorem spec_PutIn.calls (k:Nat) (ka:Int) (G:Int) (db:Option Addr) (Ja:Nat) (I:List S80) (ha:Option Addr) (ia:Nat) (W:List S99) (Z:Int) (aa:Int) (ba:ByteArray) (r1:Int) (r2:Int) (r3:List S80) (r4:Bool) (w:World) (zc:Kd.C k80 w db I.length I) (Ac:I.length≤Ja) (Bc:Kd.C k99 w ha W.length W) (Cc:W.length≤ia) (h:spec_PutIn.f k ka G I W Z aa ba=some (r1,r2,r3,r4)) :
  Calls Tryz.prog 9 #[.agg #[.int .i64 ka,.int .i64 G,.slice db I.length Ja],.agg #[.slice ha W.length ia,.int .i64 Z,.int .i64 aa,.string ba]] w fun e w'=>∃v2_:Value,e=.returned (.tuple #[.agg #[.int .i64 r1,.int .i64 r2,v2_],.bool r4])∧Kd.S k80 80 w' w.heap.size (fun _=>True) v2_ r3∧Below w.heap.size w w':=by
 have hu26:=Tryz.underlying26
 have hu29:=Tryz.underlying29
 have hu80:=Tryz.underlying80
 have rb:=M_ zc
 have Lb:=M_ Ac
 clear zc Ac
 have xb:=M_ Bc
 have yb:=M_ Cc
 clear Bc Cc
 have F:=M_ (Below.refl w.heap.size w)
 unfold spec_PutIn.f at h
 have H:=h;clear h
 replace H:=bi_ H;obtain⟨⟨ea,kd,s⟩,A3,H⟩:=H;(try dsimp only at H)
 replace H:=bi_ H;obtain⟨O,A4,H⟩:=H
 replace H:=bi_ H;obtain⟨J,A5,H⟩:=H
 replace H:=ie_ H;rcases H with⟨c6,H⟩|⟨c6,H⟩
 ·
  have ee:decide (0≤J)=true:=decide_eq_true c6
  clear c6
  replace H:=i2_ H;obtain⟨si,ti,H⟩:=H
  replace H:=bi_ H;obtain⟨⟨eb,fb,Jb⟩,A9,H⟩:=H;(try dsimp only at H)
  replace H:=id_ H;obtain⟨sf,H⟩:=H
  obtain⟨ld,hy_⟩:∃y_:List S80,y_=(s.set (J:Int).toNat (⟨eb,fb⟩:S80)):=⟨_,rfl⟩
  replace H:(some (ea,wrap64 (G+1),ld,Jb))=some (r1,r2,r3,r4):=hm_
  have xd:=M_ hy_;clear hy_
  simp only[Option.some.injEq,Prod.mk.injEq] at H
  obtain⟨rfl,rfl,rfl,rfl⟩:=H
  go_enter Tryz.func9,Tryz.ntmps9
  try go_wp2_with (first|((with_reducible refine gd_ 2 rfl ?_);refine bV_ 2 #[.int .i64 ka,.int .i64 G,.slice db I.length Ja] 26 ?_;intro ca hg Ii b hb;have yd:=gq_ hg F;replace F:=st_ F hb;clear hb hg)|((with_reducible refine gd_ 3 rfl ?_);refine bV_ 3 #[.slice ha W.length ia,.int .i64 Z,.int .i64 aa,.string ba] 29 ?_;intro m hg Ji a hb;have zd:=gq_ hg F;replace F:=st_ F hb;obtain⟨Na,zb,b⟩:=nb_ b hg hb;clear hb hg)|((with_reducible refine gd_ 4 rfl ?_);refine bV_ 4 #[.int .i64 0,.int .i64 0,.slice none 0 0] 26 ?_;intro ua hg Ki l hb;have Ad:=gq_ hg F;replace F:=st_ F hb;obtain⟨Oa,Ab,b⟩:=nb_ b hg hb;obtain⟨Za,gc,a⟩:=nb_ a hg hb;clear hb hg;have tf:=n2_ Na;have uf:=n2_ Oa;obtain⟨vf,wf,xf,yf,zf,Af⟩:=bc3_ b.1)|((with_reducible refine gate_callee (f:=59) rfl ?_);refine gl_ (some 13) Tryz.func59 #[.agg #[.int .i64 ka,.int .i64 G,.slice db I.length Ja]] ?_;(with_reducible refine(spec_l7Copy.calls k ka G _ _ I ea kd s _ ?_ ?_ A3.1).mono ?_);exact cp_ ((Kd.C_below rb.1 F.1));exact Lb.1;rintro e Li ⟨fe,rfl,ab,hb⟩;refine⟨_,rfl,?_⟩;obtain⟨Q,hc⟩:=Kd.S_name ab;have u:=M_ (Kd.S_lower (Kd.S_newB (Kd.S_gez hc ab) (pb_ a.1)) (below_size (hs_ F.1)));obtain⟨b,a,l,F⟩:=u4_ hb b a l F;(try clear hb ab))|((with_reducible refine gd_ 6 rfl ?_);refine bV_ 6 #[.int .i64 0,.int .i64 0,.slice none 0 0] 26 ?_;intro y hg Mi c hb;replace u:=M_ (Kd.S_below (Kd.S_ltz hg (sp_ u.1)) hb);have Bd:=gq_ hg F;replace F:=st_ F hb;obtain⟨bb,Pa,b⟩:=nb_ b hg hb;obtain⟨lb,cb,a⟩:=nb_ a hg hb;obtain⟨Bb,Qa,l⟩:=nb_ l hg hb;clear hb hg;have Bf:=n2_ Pa;have Cf:=n2_ cb;have Df:=n2_ Qa;obtain⟨Ef,Ff,Gf,Hf,If,Jf⟩:=bc3_ c.1;obtain⟨Qb,vb,ge⟩:=Kd.S_slice u.1;subst ge;obtain⟨Kf,Lf,Mf,Nf,Of,Pf⟩:=bc3_ b.1;have Qf:=n2_ Za;obtain⟨Rf,Sf,Tf,Uf,Vf,Wf,Xf,Yf⟩:=bc4_ a.1)|((with_reducible refine gate_callee (f:=60) rfl ?_);refine gl_ (some 20) Tryz.func60 #[.slice ha W.length ia] ?_;(with_reducible refine(spec_Finger.calls k _ _ W O _ ?_ ?_ A4.1).mono ?_);exact Kd.C_below xb.1 (hs_ F.1);exact yb.1;rintro e Oi ⟨rfl,hb⟩;refine⟨_,rfl,?_⟩;replace u:=M_ (Kd.S_below (sy_ u.1 c.1) hb);obtain⟨b,a,l⟩:=u3_ hb b a l;replace c:=by_ c #[.int .i64 ea,.int .i64 (wrap64 (G+1)),.slice Qb s.length vb] hb;replace F:=st_ F hb;(try clear hb);obtain⟨Zf,ag,bg,cg,dg,eg⟩:=bc3_ b.1)|((with_reducible refine gate_callee (f:=61) rfl ?_);refine gl_ (some 23) Tryz.func61 #[.agg #[.int .i64 ka,.int .i64 G,.slice db I.length Ja],.int .i64 O] ?_;(with_reducible refine(spec_l7At.calls k ka G _ _ I O J _ ?_ ?_ A5.1).mono ?_);exact cp_ ((Kd.C_below rb.1 F.1));exact Lb.1;rintro e fg ⟨rfl,hb⟩;refine⟨_,rfl,?_⟩;obtain⟨u,b,a,l,c,F⟩:=u6_ hb u b a l c F;(try clear hb)))
  obtain⟨u,b,a,l,c,F⟩:=y6_ u b a l c F
  obtain⟨Dc,Ec⟩:0≤(J:Int)∧J<(I.length:Int):=pq_
  obtain⟨Ra,ob,pb,he,Wa,gb,Rb,Sb⟩:=at_T80 rb.1 J Dc Ec
  have fa:=gb
  have ga:=Wa
  cases he
  replace Wa:=c2_ F Wa gb;clear gb;obtain⟨Wa,gb⟩:=Wa
  have Cb:=M_ Sb
  have Tb:=M_ Rb
  clear Sb Rb
  replace Dc:=eq_true Dc;replace Ec:=eq_true Ec
  refine start_ (n:=13) (S:=fun w'=>c_ w' ca 0 (.int .i64 ka)∧c_ w' ca 1 (.int .i64 G)∧c_ w' ca 2 (.slice (some Ra) I.length Ja)∧c_ w' m 0 (.slice ha W.length ia)∧c_ w' m 1 (.int .i64 Z)∧c_ w' m 2 (.int .i64 aa)∧c_ w' m 3 (.string ba)∧w'.cell? (Ra.add ((J).toNat*2))=some (.int .i64 ((rd_T80 I J).f0))∧d_ w' (Ra.add ((J).toNat*2)) 1 (.slice ob ((rd_T80 I J).f1).length pb)) (ds:=[]) (b_ 0 13) (by kernel_rfl) rfl rfl ⟨bx_ b.1 0,bx_ b.1 1,bx_ b.1 2,bx_ a.1 0,bx_ a.1 1,bx_ a.1 2,bx_ a.1 3,((F.1.cell (World.block_lt_of_cell? w _ ga)).trans ga),((F.1.cell (World.block_lt_of_cell? w _ fa)).trans fa)⟩ (fun A=>?_);refine with_tabW spec_PutIn.tab6 spec_PutIn.bits6 (fun ja tc=>?_)
  generalize fg.drew=Pi at u b a l c F Cb Wa gb A ⊢
  refine p_ ja ?_
  refine qw_ 2 (m_ 13 5) ja ?_
  refine qt_ 1 (b_ 3 10) ja tc A ?_
  refine p_ ja ?_
  iterate 2 refine t0_ ja tc A ?_
  refine join_ (σ:=Value×Nat×Nat) 2 (b_ 11 2) (fun s_=>[(33,.tuple #[.agg #[.int .i64 eb,s_.1],.bool Jb]),(9,.pointer (some ⟨s_.2.2,0,none⟩)),(26,.tuple #[.agg #[.int .i64 eb,s_.1],.bool Jb]),(34,.agg #[.int .i64 eb,s_.1]),(35,.bool Jb)]) (fun s_ w'=>(c_ w' ca 0 (.int .i64 ka)∧c_ w' ca 1 (.int .i64 G)∧c_ w' ca 2 (.slice (some Ra) I.length Ja)∧c_ w' m 0 (.slice ha W.length ia)∧c_ w' m 1 (.int .i64 Z)∧c_ w' m 2 (.int .i64 aa)∧c_ w' m 3 (.string ba)∧w'.cell? (Ra.add ((J).toNat*2))=some (.int .i64 ((rd_T80 I J).f0))∧d_ w' (Ra.add ((J).toNat*2)) 1 (.slice ob ((rd_T80 I J).f1).length pb))∧(Kd.S k80 80 w' w.heap.size (fun k_=>k_≠m∧k_≠s_.2.2∧Q≤k_∧k_<y∧k_<s_.2.1) (.slice Qb s.length vb) s)∧(Kd.S k29 29 w' w.heap.size (fun k_=>k_≠m∧s_.2.1≤k_) s_.1 fb)∧(w'.heap[ca]?=some (.cells #[.int .i64 ka,.int .i64 G,.slice (some Ra) I.length Ja] 26 (0,0)))∧(w'.heap[m]?=some (.cells #[.slice ha W.length ia,.int .i64 Z,.int .i64 aa,.string ba] 29 (0,0)))∧(w'.heap[ua]?=some (.cells #[.int .i64 0,.int .i64 0,.slice none 0 0] 26 (0,0)))∧(w'.heap[y]?=some (.cells #[.int .i64 ea,.int .i64 (wrap64 (G+1)),.slice Qb s.length vb] 26 (0,0)))∧(w'.heap[s_.2.2]?=some (.cells #[.int .i64 0,.slice none 0 0] 80 (0,0)))∧(w.heap.size≤s_.2.2)∧(w.heap.size≤s_.2.2)∧(ca≠s_.2.2)∧(s_.2.2≠ca)∧(m≠s_.2.2)∧(s_.2.2≠m)∧(ua≠s_.2.2)∧(s_.2.2≠ua)∧(y≠s_.2.2)∧(s_.2.2≠y)∧(Below w.heap.size w w')) ?_ ?_
  rotate_left
  ·
   intro sb
   refine two_ (i:=6) (j:=10) (Ni:=some 33) (Nj:=some 9) (b_ 7 6) (m_ 13 1087) rfl rfl rfl rfl (two_of ja.1 (by kernel_rfl)) (by decide) (by decide) (fun K hK=>?_) (fun K hK=>?_)
   ·
    skip
    refine gs_ Tryz.func62 #[.agg #[.int .i64 ((rd_T80 I J).f0),.slice ob ((rd_T80 I J).f1).length pb],.agg #[.slice ha W.length ia,.int .i64 Z,.int .i64 aa,.string ba]] ?_
    with_reducible refine(spec_PutChain.calls k ((rd_T80 I J).f0) _ _ ((rd_T80 I J).f1) _ _ W Z aa ba eb fb Jb _ ?_ ?_ ?_ ?_ A9.1).mono ?_
    exact cp_ ((Kd.C_below Cb.1 F.1))
    exact Tb.1
    exact cp_ ((Kd.C_below xb.1 F.1))
    exact yb.1
    rintro e gg ⟨Ub,rfl,ab,hb⟩
    refine⟨_,rfl,?_⟩
    obtain⟨Ua,Db⟩:=Kd.S_name ab
    replace u:=su_ Db (sp_ u.1) hb
    have La:=M_ (Kd.S_lower (Kd.S_newB (Kd.S_gez Db ab) (pb_ a.1)) (below_size (hs_ F.1)))
    obtain⟨b,a,l,c,F⟩:=u5_ hb b a l c F
    (try clear hb ab)
    refine ho_ hK ⟨bx_ b.1 0,bx_ b.1 1,bx_ b.1 2,bx_ a.1 0,bx_ a.1 1,bx_ a.1 2,bx_ a.1 3,((F.1.cell (World.block_lt_of_cell? w _ ga)).trans ga),((F.1.cell (World.block_lt_of_cell? w _ fa)).trans fa)⟩ (fun A=>?_)
    iterate 3 refine p_ ja ?_
    refine o1_ 10 (b_ 11 2) ja (fun K hK=>?_)
    refine bs1_ 9 #[.int .i64 0,.slice none 0 0] 80 ?_
    intro va hg ig Va hb
    replace u:=se_ u hg hb
    replace La:=sb_ La hb
    have la:=M_ (Va)
    have ib:=gq_ hg F
    have Mb:=gq_ hg F
    replace F:=st_ F hb
    have ya:=nk_ b hg
    have oa:=Ne_.mk (ng_ b.1 hg)
    replace b:=bk2_ b hb
    have za:=nk_ a hg
    have pa:=Ne_.mk (ng_ a.1 hg)
    replace a:=bk2_ a hb
    have Aa:=nk_ l hg
    have qa:=Ne_.mk (ng_ l.1 hg)
    replace l:=bk2_ l hb
    have ra:=nk_ c hg
    have Ba:=Ne_.mk (ng_ c.1 hg)
    replace c:=bk2_ c hb
    clear hb Va hg
    refine ho_ hK ⟨bx_ b.1 0,bx_ b.1 1,bx_ b.1 2,bx_ a.1 0,bx_ a.1 1,bx_ a.1 2,bx_ a.1 3,((F.1.cell (World.block_lt_of_cell? w _ ga)).trans ga),((F.1.cell (World.block_lt_of_cell? w _ fa)).trans fa)⟩ (fun A=>?_)
    exact norm_ (by simp only[putAll,fr_]) (sb (Ub,Ua,va) _ ⟨A,(Kd.S_mono (sp_ u.1) (fun _ hk=>⟨hk.1.1.1.2,⟨hk.2,⟨hk.1.1.1.1.2,⟨hk.1.1.2,hk.1.2⟩⟩⟩⟩)),(Kd.S_mono (sp_ La.1) (fun _ hk=>⟨hk.2,hk.1.2⟩)),(pb_ b.1),(pb_ a.1),(pb_ l.1),(pb_ c.1),(pb_ la.1),ib.1,Mb.1,ya.1,oa.1,za.1,pa.1,Aa.1,qa.1,ra.1,Ba.1,(hs_ F.1)⟩)
   skip
   refine bs1_ 9 #[.int .i64 0,.slice none 0 0] 80 ?_
   intro va hg gg Va hb
   replace u:=se_ u hg hb
   have la:=M_ (Va)
   have ib:=gq_ hg F
   have Mb:=gq_ hg F
   replace F:=st_ F hb
   have ya:=nk_ b hg
   have oa:=Ne_.mk (ng_ b.1 hg)
   replace b:=bk2_ b hb
   have za:=nk_ a hg
   have pa:=Ne_.mk (ng_ a.1 hg)
   replace a:=bk2_ a hb
   have Aa:=nk_ l hg
   have qa:=Ne_.mk (ng_ l.1 hg)
   replace l:=bk2_ l hb
   have ra:=nk_ c hg
   have Ba:=Ne_.mk (ng_ c.1 hg)
   replace c:=bk2_ c hb
   clear hb Va hg
   refine ho_ hK ⟨bx_ b.1 0,bx_ b.1 1,bx_ b.1 2,bx_ a.1 0,bx_ a.1 1,bx_ a.1 2,bx_ a.1 3,((F.1.cell (World.block_lt_of_cell? w _ ga)).trans ga),((F.1.cell (World.block_lt_of_cell? w _ fa)).trans fa)⟩ (fun A=>?_)
   refine o1_ 6 (m_ 13 1151) ja (fun K hK=>?_)
   refine gs_ Tryz.func62 #[.agg #[.int .i64 ((rd_T80 I J).f0),.slice ob ((rd_T80 I J).f1).length pb],.agg #[.slice ha W.length ia,.int .i64 Z,.int .i64 aa,.string ba]] ?_
   with_reducible refine(spec_PutChain.calls k ((rd_T80 I J).f0) _ _ ((rd_T80 I J).f1) _ _ W Z aa ba eb fb Jb _ ?_ ?_ ?_ ?_ A9.1).mono ?_
   exact cp_ ((Kd.C_below Cb.1 F.1))
   exact Tb.1
   exact cp_ ((Kd.C_below xb.1 F.1))
   exact yb.1
   rintro e ig ⟨Ub,rfl,ab,hb⟩
   refine⟨_,rfl,?_⟩
   obtain⟨Ua,Db⟩:=Kd.S_name ab
   replace u:=su_ Db (sp_ u.1) hb
   have La:=M_ (Kd.S_lower (Kd.S_newB (Kd.S_gez Db ab) (pb_ a.1)) (below_size (hs_ F.1)))
   obtain⟨b,a,l,c,la,F⟩:=u6_ hb b a l c la F
   (try clear hb ab)
   refine ho_ hK ⟨bx_ b.1 0,bx_ b.1 1,bx_ b.1 2,bx_ a.1 0,bx_ a.1 1,bx_ a.1 2,bx_ a.1 3,((F.1.cell (World.block_lt_of_cell? w _ ga)).trans ga),((F.1.cell (World.block_lt_of_cell? w _ fa)).trans fa)⟩ (fun A=>?_)
   refine qw_ 7 (m_ 13 1279) ja ?_
   refine qw_ 8 (m_ 13 1535) ja ?_
   refine qw_ 9 (b_ 11 2) ja ?_
   exact norm_ (by simp only[putAll,fr_]) (sb (Ub,Ua,va) _ ⟨A,(Kd.S_mono (sp_ u.1) (fun _ hk=>⟨hk.1.1.1.2,⟨hk.1.2,⟨hk.1.1.1.1.2,⟨hk.1.1.2,hk.2⟩⟩⟩⟩)),(Kd.S_mono (sp_ La.1) (fun _ hk=>⟨hk.2,hk.1.2⟩)),(pb_ b.1),(pb_ a.1),(pb_ l.1),(pb_ c.1),(pb_ la.1),ib.1,Mb.1,ya.1,oa.1,za.1,pa.1,Aa.1,qa.1,ra.1,Ba.1,(hs_ F.1)⟩)
  rintro ⟨Ub,Ua,va⟩ Xa ⟨Cd,Fc,Gc,Hc,Ic,Jc,Kc,Lc,Mc,Nc,Eb,Vb,Wb,Xb,Yb,Zb,ac,bc,cc⟩
  replace u:Aside0 (Kd.S k80 80 Xa w.heap.size (fun k_=>k_≠m∧k_≠va∧Q≤k_∧k_<y∧k_<Ua) (.slice Qb s.length vb) s):=⟨Fc⟩
  have La:Aside0 (Kd.S k29 29 Xa w.heap.size (fun k_=>k_≠m∧Ua≤k_) Ub fb):=⟨Gc⟩
  replace b:Aside0 (Xa.heap[ca]?=some (.cells #[.int .i64 ka,.int .i64 G,.slice (some Ra) I.length Ja] 26 (0,0))):=⟨Hc⟩
  replace a:Aside0 (Xa.heap[m]?=some (.cells #[.slice ha W.length ia,.int .i64 Z,.int .i64 aa,.string ba] 29 (0,0))):=⟨Ic⟩
  replace l:Aside0 (Xa.heap[ua]?=some (.cells #[.int .i64 0,.int .i64 0,.slice none 0 0] 26 (0,0))):=⟨Jc⟩
  replace c:Aside0 (Xa.heap[y]?=some (.cells #[.int .i64 ea,.int .i64 (wrap64 (G+1)),.slice Qb s.length vb] 26 (0,0))):=⟨Kc⟩
  have la:Aside0 (Xa.heap[va]?=some (.cells #[.int .i64 0,.slice none 0 0] 80 (0,0))):=⟨Lc⟩
  have ib:=Ge_.mk Mc
  have Mb:=Ge_.mk Nc
  have ya:=Ne_.mk Eb
  have oa:=Ne_.mk Vb
  have za:=Ne_.mk Wb
  have pa:=Ne_.mk Xb
  have Aa:=Ne_.mk Yb
  have qa:=Ne_.mk Zb
  have ra:=Ne_.mk ac
  have Ba:=Ne_.mk bc
  replace F:Aside0 (Below w.heap.size w Xa):=⟨cc⟩
  clear Fc Gc Hc Ic Jc Kc Lc Mc Nc Eb Vb Wb Xb Yb Zb ac bc cc
  have A:c_ Xa ca 0 (.int .i64 ka)∧c_ Xa ca 1 (.int .i64 G)∧c_ Xa ca 2 (.slice (some Ra) I.length Ja)∧c_ Xa m 0 (.slice ha W.length ia)∧c_ Xa m 1 (.int .i64 Z)∧c_ Xa m 2 (.int .i64 aa)∧c_ Xa m 3 (.string ba)∧Xa.cell? (Ra.add ((J).toNat*2))=some (.int .i64 ((rd_T80 I J).f0))∧d_ Xa (Ra.add ((J).toNat*2)) 1 (.slice ob ((rd_T80 I J).f1).length pb):=Cd
  obtain⟨rc,sc,md⟩:=Kd.S_slice La.1
  (first|subst md|(obtain⟨rfl,rfl⟩:=si_ md))
  refine nm_ ?_
  refine o1_ 11 (b_ 12 1) ja (fun K hK=>?_)
  have vi:Xa.cell? ⟨va,0,none⟩=some (.int .i64 0):=bx_ la.1 0
  have jg:=blk_frozen la.1 0
  have ie:=ya.1
  have je:=za.1
  have ke:=Aa.1
  have le:=ra.1
  have me:=oa.1
  have ne:=pa.1
  have oe:=qa.1
  have pe:=Ba.1
  have wi:Xa.cell? ⟨va,1,none⟩=some (.slice none 0 0):=bx_ la.1 1
  have kg:=blk_frozen la.1 1
  have qe:=ya.1
  have re:=za.1
  have se:=Aa.1
  have te:=ra.1
  have ue:=oa.1
  have ve:=pa.1
  have we:=qa.1
  have xe:=Ba.1
  refine skip_ (w1:=?_) (by rfl) rfl ?_ ?_
  rotate_left
  ·
   go_simp
   rfl
  refine hK.out _ _ ⟨(cg_ (A.1)),(cg_ (A.2.1)),(cg_ (A.2.2.1)),(cg_ (A.2.2.2.1)),(cg_ (A.2.2.2.2.1)),(cg_ (A.2.2.2.2.2.1)),(cg_ (A.2.2.2.2.2.2.1)),(ce_ ga ib.1 ((ce_ ga ib.1 (A.2.2.2.2.2.2.2.1)))),(ce_ fa ib.1 ((ce_ fa ib.1 (A.2.2.2.2.2.2.2.2))))⟩ (fun A=>?_)
  clear hK K
  refine p_ ja ?_
  refine done_ (done_of ja.1 (by kernel_rfl)) ?_
  generalize hw_:((Xa.setCell ⟨va,0,none⟩ (.int .i64 eb)).setCell ⟨va,1,none⟩ (.slice rc fb.length sc))=ic
  have Oc:=ws_ hw_ (Kd.S_mono (ok':=(fun k_=>k_≠m∧k_≠va∧Q≤k_∧k_<y∧k_<Ua)) (sf_ va u.1 (fun _ hk=>hk.2.1)) (fun _ hk=>⟨hk.1,⟨hk.2.1,⟨hk.2.2.1,⟨hk.2.2.2.1,hk.2.2.2.2⟩⟩⟩⟩))
  have Pc:=ws_ hw_ (Kd.S_mono (ok':=(fun k_=>k_≠m∧Ua≤k_)) (sy_ La.1 la.1) (fun _ hk=>⟨hk.1,hk.2⟩))
  replace b:=wq_ hw_ b
  replace a:=wq_ hw_ a
  replace l:=wq_ hw_ l
  replace c:=wq_ hw_ c
  replace la:=wp_ hw_ #[.int .i64 eb,.slice rc fb.length sc] la
  replace F:=wb_ hw_ F
  clear hw_
  (try clear u La)
  have u:=Oc
  have La:=Pc
  clear Oc Pc
  have lg:=n2_ ra
  obtain⟨mg,ng,og,pg,qg,rg⟩:=bc3_ c.1
  have sg:=n2_ oa
  have tg:=n2_ pa
  have ug:=n2_ qa
  obtain⟨vg,wg,xg,yg⟩:=bc2_ la.1
  obtain⟨Dd,Ed⟩:0≤(J:Int)∧(J:Int)<((s.length:Int):Int):=pq_
  obtain⟨go11,xi,nd,od,gl11,cl11,HG11⟩:=Kd.S_form u.1 (by omega)
  (first|cases nd|(injection nd with ea_ en_ ec_;(first|subst ea_|(injection ea_ with ea_;subst ea_));subst ec_;clear en_))
  have GB11:=M_ od
  have GG11:=M_ HG11
  clear od gl11 HG11
  obtain⟨_,yi,hcl11,hM11,jc,hfr11,_,_⟩:=Kd.S_elem u.1 z80 (J:Int) Dd Ed
  obtain⟨bd,rfl,Le⟩:=k80_openM hM11
  have Me:ic.cell? ⟨go11,(J:Int).toNat*2,none⟩=some (.int .i64 ((rd_T80 s J).f0)):=jc 0 _ rfl
  have Ne:ic.cell? ⟨go11,(J:Int).toNat*2+1,none⟩=some (bd):=jc 1 _ rfl
  have hf11_0:ic.frozen? ⟨go11,(J:Int).toNat*2,none⟩=false:=hfr11 0
  have hf11_1:ic.frozen? ⟨go11,(J:Int).toNat*2+1,none⟩=false:=hfr11 1
  clear hcl11 jc hfr11 hM11
  replace Dd:=eq_true Dd;replace Ed:=eq_true Ed
  obtain⟨Fd,cd,wb⟩:=Kd.S_fp (Kd.S_types (Kd.S_apart' (La.1) (Kd.S_typed u.1) (by decide)) la.1 (by decide))
  have HX45:=M_ (show Kd.S k80 80 ic w.heap.size (fun k_=>((fun k_=>k_≠m∧k_≠va)) k_∧¬((fun k_=>Fd k_)) k_) (.slice (some ⟨go11,0,none⟩) s.length vb) s from (Kd.S_mono (sp_ u.1) (fun k_ hk=>⟨⟨hk.1,hk.2.1⟩,fun e_=>(fun ez_=>Nat.lt_irrefl _ (Nat.lt_of_lt_of_le hk.2.2.2.2 (wb _ ez_).1.1.1.2)) e_⟩)))
  obtain⟨oki45,zi,hcl45,hM45,kc,hfr45,hoki45,hH45⟩:=Kd.S_elem HX45.out z80 (J:Int) (of_decide_eq_true (by with_reducible assumption)) (by have h_:(J:Int)<((s.length:Int):Int):=of_decide_eq_true (by with_reducible assumption);first|exact h_|(have e_:=(Kd.S_reads' u.1).1;omega)|simpa using h_)
  obtain⟨Oe,rfl,Pe⟩:=k80_openM hM45
  have HP45:=Kd.S_seg hH45 (of_decide_eq_true (by with_reducible assumption)) (by have h_:(J:Int)<((s.length:Int):Int):=of_decide_eq_true (by with_reducible assumption);first|exact h_|(have e_:=(Kd.S_reads' u.1).1;omega)|simpa using h_) (seg:=[.int .i64 eb,.slice rc fb.length sc]) (j:=0) (show 2≤2 from by decide) (x':=(⟨eb,fb⟩:S80)) (k80_mkM _ _ _ (⟨eb,fb⟩:S80) (Kd.S_mono cd (fun _ h_=>Or.inr (h_)))) (fun _ hk=>hk) (fun k_ hk_=>⟨⟨(wb k_ hk_).1.1.1.1,(wb k_ hk_).1.2⟩,fun e_=>((wb k_ hk_).1.1.2) (by rw[e_];rfl)⟩)
  have dd:=kc 0 _ rfl
  (try simp only[show (k80).sz=2 from rfl,Nat.mul_one,Nat.add_zero] at dd)
  have hf45_0:=hfr45 0
  (try simp only[show (k80).sz=2 from rfl,Nat.mul_one,Nat.add_zero] at hf45_0)
  have ed:=kc 1 _ rfl
  (try simp only[show (k80).sz=2 from rfl,Nat.mul_one,Nat.add_zero] at ed)
  have hf45_1:=hfr45 1
  (try simp only[show (k80).sz=2 from rfl,Nat.mul_one,Nat.add_zero] at hf45_1)
  clear hcl45 kc hfr45 hM45 hoki45 hH45
  try go_wp2_with (first|((with_reducible refine gate_store (t:=80) (p:=40) rfl ?_);refine store_event (t:=80) (p:=40) (v:=?vo_w46) (w1:=((ic.setCell ⟨go11,(J:Int).toNat*2,none⟩ (.int .i64 eb)).setCell ⟨go11,(J:Int).toNat*2+1,none⟩ (.slice rc fb.length sc))) ?hg ?ho ?hn ?hr ?_;(case ho=>rfl);(case hg=>rfl);(case hn=>rfl);(case hr=>first|(go_simp;done)|(go_simp;rfl));intro Gd hw;have hg:ic.grownBy Gd (some go11):=(by rw[hw];exact HP45.2);have hp_:Kd.S k80 80 Gd w.heap.size (fun k_=>k_≠m∧k_≠va) (.slice (some ⟨go11,0,none⟩) s.length vb) ld:=(by rw[hw,xd.1];exact HP45.1);clear HP45;replace b:=bg_ b hg u;replace a:=bg_ a hg u;replace l:=bg_ l hg u;replace c:=bg_ c hg u;replace la:=M_ (blk_grown (bq_ la.1) hg (Kd.S_away u.1 (fun _ hk=>hk.2.1)));replace u:=M_ (hp_);replace F:=M_ ((by rw[hw];exact below_set (below_set (F.1) GB11.out) GB11.out:Below w.heap.size w Gd));clear La;clear hg hw hp_;obtain⟨zg,Ag,Bg,Cg,Dg,Eg⟩:=bc3_ c.1;obtain⟨Fg,Gg,Hg,Ig,Jg,Kg⟩:=bc3_ l.1))
  refine bodyPost_ret (results_ct rfl _ _ ua 26 #[.int .i64 ea,.int .i64 (wrap64 (G+1)),.slice (some ⟨go11,0,none⟩) s.length vb] (0,0) _ rfl (bp_ l.1) Tryz.underlying26 rfl (by kernel_rfl)) rfl ?_
  exact⟨_,rr_,Kd.S_mono (sy_ u.1 l.1) (fun _ hk=>trivial),hs_ F.1⟩
 have ee:decide (0≤J)=false:=decide_eq_false c6
 clear c6
 have H':=M_ H
 clear H
 go_enter Tryz.func9,Tryz.ntmps9
 go_wp2_with (first|((with_reducible refine gd_ 2 rfl ?_);refine bV_ 2 #[.int .i64 ka,.int .i64 G,.slice db I.length Ja] 26 ?_;intro ca hg Qi b hb;have yd:=gq_ hg F;replace F:=st_ F hb;clear hb hg)|((with_reducible refine gd_ 3 rfl ?_);refine bV_ 3 #[.slice ha W.length ia,.int .i64 Z,.int .i64 aa,.string ba] 29 ?_;intro m hg Ri a hb;have zd:=gq_ hg F;replace F:=st_ F hb;obtain⟨Na,zb,b⟩:=nb_ b hg hb;clear hb hg)|((with_reducible refine gd_ 4 rfl ?_);refine bV_ 4 #[.int .i64 0,.int .i64 0,.slice none 0 0] 26 ?_;intro ua hg Si l hb;have Ad:=gq_ hg F;replace F:=st_ F hb;obtain⟨Oa,Ab,b⟩:=nb_ b hg hb;obtain⟨Za,gc,a⟩:=nb_ a hg hb;clear hb hg;have Lg:=n2_ Na;have Mg:=n2_ Oa;obtain⟨Ng,Og,Pg,Qg,Rg,Sg⟩:=bc3_ b.1)|((with_reducible refine gate_callee (f:=59) rfl ?_);refine gl_ (some 13) Tryz.func59 #[.agg #[.int .i64 ka,.int .i64 G,.slice db I.length Ja]] ?_;(with_reducible refine(spec_l7Copy.calls k ka G _ _ I ea kd s _ ?_ ?_ A3.1).mono ?_);exact cp_ ((Kd.C_below rb.1 F.1));exact Lb.1;rintro e Ti ⟨fe,rfl,ab,hb⟩;refine⟨_,rfl,?_⟩;obtain⟨Q,hc⟩:=Kd.S_name ab;have u:=M_ (Kd.S_lower (Kd.S_newB (Kd.S_gez hc ab) (pb_ a.1)) (below_size (hs_ F.1)));obtain⟨b,a,l,F⟩:=u4_ hb b a l F;(try clear hb ab))|((with_reducible refine gd_ 6 rfl ?_);refine bV_ 6 #[.int .i64 0,.int .i64 0,.slice none 0 0] 26 ?_;intro y hg Ui c hb;replace u:=M_ (Kd.S_below (Kd.S_ltz hg (sp_ u.1)) hb);have Bd:=gq_ hg F;replace F:=st_ F hb;obtain⟨bb,Pa,b⟩:=nb_ b hg hb;obtain⟨lb,cb,a⟩:=nb_ a hg hb;obtain⟨Bb,Qa,l⟩:=nb_ l hg hb;clear hb hg;have Tg:=n2_ Pa;have Ug:=n2_ cb;have Vg:=n2_ Qa;obtain⟨Wg,Xg,Yg,Zg,ah,bh⟩:=bc3_ c.1;obtain⟨L,M,ye⟩:=Kd.S_slice u.1;subst ye;obtain⟨ch,dh,eh,fh,gh,hh⟩:=bc3_ b.1;have ih:=n2_ Za;obtain⟨jh,kh,lh,mh,nh,oh,ph,qh⟩:=bc4_ a.1)|((with_reducible refine gate_callee (f:=60) rfl ?_);refine gl_ (some 20) Tryz.func60 #[.slice ha W.length ia] ?_;(with_reducible refine(spec_Finger.calls k _ _ W O _ ?_ ?_ A4.1).mono ?_);exact Kd.C_below xb.1 (hs_ F.1);exact yb.1;rintro e Vi ⟨rfl,hb⟩;refine⟨_,rfl,?_⟩;replace u:=M_ (Kd.S_below (sy_ u.1 c.1) hb);obtain⟨b,a,l⟩:=u3_ hb b a l;replace c:=by_ c #[.int .i64 ea,.int .i64 (wrap64 (G+1)),.slice L s.length M] hb;replace F:=st_ F hb;(try clear hb);obtain⟨rh,sh,th,uh,vh,wh⟩:=bc3_ b.1)|((with_reducible refine gate_callee (f:=61) rfl ?_);refine gl_ (some 23) Tryz.func61 #[.agg #[.int .i64 ka,.int .i64 G,.slice db I.length Ja],.int .i64 O] ?_;(with_reducible refine(spec_l7At.calls k ka G _ _ I O J _ ?_ ?_ A5.1).mono ?_);exact cp_ ((Kd.C_below rb.1 F.1));exact Lb.1;rintro e Wi ⟨rfl,hb⟩;refine⟨_,rfl,?_⟩;obtain⟨u,b,a,l,c,F⟩:=u6_ hb u b a l c F;(try clear hb)))
 go_loopg [8] k (fun kq v8 w'=>∃(V:Int),v8=.int .i64 V∧Aside0 (spec_PutIn.l0 kq O V ka G I W Z aa ba ea (wrap64 (G+1)) s=some (r1,r2,r3,r4))∧Aside0 (kq≤k)∧Aside0 (Kd.S k80 80 w' w.heap.size (fun k_=>k_≠m∧Q≤k_∧k_<y) (.slice L s.length M) s)∧Aside0 (w'.heap[ca]?=some (.cells #[.int .i64 ka,.int .i64 G,(.slice db I.length Ja)] 26 (0,0)))∧Aside0 (w'.heap[m]?=some (.cells #[(.slice ha W.length ia),.int .i64 Z,.int .i64 aa,.string ba] 29 (0,0)))∧Aside0 (w'.heap[ua]?=some (.cells #[.int .i64 0,.int .i64 0,(.slice none 0 0)] 26 (0,0)))∧Aside0 (w'.heap[y]?=some (.cells #[.int .i64 ea,.int .i64 (wrap64 (G+1)),(.slice L s.length M)] 26 (0,0)))∧Aside0 (Below w.heap.size w w'))
 case atStart=>exact⟨(0),rs_,H',⟨Nat.le_refl _⟩,⟨Kd.S_mono (sp_ u.1) (fun _ hk=>⟨hk.1.2,⟨hk.1.1.2,hk.2⟩⟩)⟩,⟨bq_ b.1⟩,⟨bq_ a.1⟩,⟨bq_ l.1⟩,⟨bq_ c.1⟩,⟨hs_ F.1⟩⟩
 case round=>
  clear H'
  obtain⟨V,rfl,HA,fd,d,b,a,l,c,F⟩:=hrel
  cases gk with
  | zero=>exact absurd HA.1 (by simp[spec_PutIn.l0])
  | succ k1=>
   have H:=HA.1
   clear HA
   simp only[spec_PutIn.l0] at H
   have Qc:=M_ H
   clear H
   go_upto_region 10 with(fail)
   go_cut [57] (fun xh wc=>∃(kq:Nat) (Nb:Bool),xh=.bool Nb∧Aside0 (spec_PutIn.j1 kq O V Nb ka G I W Z aa ba ea (wrap64 (G+1)) s=some (r1,r2,r3,r4))∧Aside0 (kq≤k1)∧Aside0 (Kd.S k80 80 wc w.heap.size (fun k_=>k_≠m∧Q≤k_∧k_<y) (.slice L s.length M) s)∧Aside0 (wc.heap[ca]?=some (.cells #[.int .i64 ka,.int .i64 G,(.slice db I.length Ja)] 26 (0,0)))∧Aside0 (wc.heap[m]?=some (.cells #[(.slice ha W.length ia),.int .i64 Z,.int .i64 aa,.string ba] 29 (0,0)))∧Aside0 (wc.heap[ua]?=some (.cells #[.int .i64 0,.int .i64 0,(.slice none 0 0)] 26 (0,0)))∧Aside0 (wc.heap[y]?=some (.cells #[.int .i64 ea,.int .i64 (wrap64 (G+1)),(.slice L s.length M)] 26 (0,0)))∧Aside0 (Below w.heap.size w wc))
   case first=>
    have H:=Qc.1
    clear Qc
    replace H:=ie_ H;rcases H with⟨Rc,H⟩|⟨Rc,H⟩
    ·
     have Fb:=decide_eq_true Rc
     clear Rc
     (first|rw[Fb]|(simp only[i64_w,i32_w];rw[Fb])|skip)
     replace H:=id_ H;obtain⟨yh,H⟩:=H
     have H':=M_ H
     clear H
     have zh:=n2_ Na
     have Ah:=n2_ Oa
     have Bh:=n2_ bb
     obtain⟨Ch,Dh,Eh,Fh,Gh,Hh⟩:=bc3_ b.1
     obtain⟨Ih,Qe,Re,ze,Ae,Be,Ce,De,Ai,Bi⟩:=au_T80 rb.1 F V
     cases ze
     go_wp2
     go_meet
     case rel=>exact⟨_,(decide (((rd_T80 I V).f0)<O)),rs_,H',⟨by have:=fd.1;first|omega|exact Nat.le_refl _⟩,⟨sp_ d.1⟩,⟨bq_ b.1⟩,⟨bq_ a.1⟩,⟨bq_ l.1⟩,⟨bq_ c.1⟩,⟨hs_ F.1⟩⟩
    have Fb:decide (V<(I.length:Int))=false:=decide_eq_false Rc
    clear Rc
    (first|rw[Fb]|(simp only[i64_w,i32_w];rw[Fb])|skip)
    have H':=M_ H
    clear H
    have Jh:=n2_ Na
    have Kh:=n2_ Oa
    have Lh:=n2_ bb
    obtain⟨Mh,Nh,Oh,Ph,Qh,Rh⟩:=bc3_ b.1
    go_wp2
    go_meet
    case rel=>exact⟨_,(false),rs_,H',⟨by have:=fd.1;first|omega|exact Nat.le_refl _⟩,⟨sp_ d.1⟩,⟨bq_ b.1⟩,⟨bq_ a.1⟩,⟨bq_ l.1⟩,⟨bq_ c.1⟩,⟨hs_ F.1⟩⟩
   case rest=>
    clear Qc
    obtain⟨kq,Nb,rfl,HA,HJ68,d,b,a,l,c,F⟩:=hcut
    cases kq with
    | zero=>exact absurd HA.1 (by simp[spec_PutIn.j1])
    | succ Ee=>
     have H:=HA.1
     clear HA
     simp only[spec_PutIn.j1] at H
     replace H:=ib_ H;rcases H with⟨rfl,H⟩|⟨rfl,H⟩
     ·
      have H':=M_ H
      clear H
      go_wp2
      go_roundg Ee
      case measure=>have:=fd.1;have:=HJ68.1;omega
      case rel=>exact⟨(wrap64 (V+1)),rs_,H',⟨by have:=fd.1;have:=HJ68.1;omega⟩,⟨sp_ d.1⟩,⟨bq_ b.1⟩,⟨bq_ a.1⟩,⟨bq_ l.1⟩,⟨bq_ c.1⟩,⟨hs_ F.1⟩⟩
     replace H:=bi_ H;obtain⟨⟨Kb,dc,ec,fc⟩,Sh,H⟩:=H;(try dsimp only at H)
     obtain⟨z,hy_⟩:∃y_:List S29,y_=(([(⟨Kb,dc,ec,fc⟩:S29)]:List S29)):=⟨_,rfl⟩
     replace H:((some (([]:List S80):List S80)).bind fun Ya=>(if 0≤V then (if V≤(s.length:Int) then ((some (s.drop (V:Int).toNat:List S80)).bind fun Ma=>((some (s.take (V:Int).toNat:List S80)).bind fun Y=>(if Ya.length+Y.length<4398046511104 then ((some (Ya++Y:List S80)).bind fun xa=>(if xa.length<4398046511104 then ((some (xa++[(⟨O,z⟩:S80)]:List S80)).bind fun wa=>(if wa.length+Ma.length<4398046511104 then (some (ea,(wrap64 (G+1)),(wa++Ma),true)) else (none))) else (none))) else (none)))) else (none)) else (none)))=some (r1,r2,r3,r4):=hm_
     have Id:=M_ hy_;clear hy_
     obtain⟨Ya,hy_⟩:∃y_:List S80,y_=(([]:List S80)):=⟨_,rfl⟩
     replace H:(if 0≤V then (if V≤(s.length:Int) then ((some (s.drop (V:Int).toNat:List S80)).bind fun Ma=>((some (s.take (V:Int).toNat:List S80)).bind fun Y=>(if Ya.length+Y.length<4398046511104 then ((some (Ya++Y:List S80)).bind fun xa=>(if xa.length<4398046511104 then ((some (xa++[(⟨O,z⟩:S80)]:List S80)).bind fun wa=>(if wa.length+Ma.length<4398046511104 then (some (ea,(wrap64 (G+1)),(wa++Ma),true)) else (none))) else (none))) else (none)))) else (none)) else (none))=some (r1,r2,r3,r4):=hm_
     have Ob:=M_ hy_;clear hy_
     replace H:=in_ H;obtain⟨Jd,H⟩:=H
     have Th:=eq_true Jd
     have Uh:=decide_eq_true Jd
     clear Jd
     replace H:=in_ H;obtain⟨Ld,H⟩:=H
     have Vh:=eq_true Ld
     have Wh:=decide_eq_true Ld
     clear Ld
     obtain⟨Ma,hy_⟩:∃y_:List S80,y_=(s.drop (V:Int).toNat):=⟨_,rfl⟩
     replace H:((some (s.take (V:Int).toNat:List S80)).bind fun Y=>(if Ya.length+Y.length<4398046511104 then ((some (Ya++Y:List S80)).bind fun xa=>(if xa.length<4398046511104 then ((some (xa++[(⟨O,z⟩:S80)]:List S80)).bind fun wa=>(if wa.length+Ma.length<4398046511104 then (some (ea,(wrap64 (G+1)),(wa++Ma),true)) else (none))) else (none))) else (none)))=some (r1,r2,r3,r4):=hm_
     have Pb:=M_ hy_;clear hy_
     obtain⟨Y,hy_⟩:∃y_:List S80,y_=(s.take (V:Int).toNat):=⟨_,rfl⟩
     replace H:(if Ya.length+Y.length<4398046511104 then ((some (Ya++Y:List S80)).bind fun xa=>(if xa.length<4398046511104 then ((some (xa++[(⟨O,z⟩:S80)]:List S80)).bind fun wa=>(if wa.length+Ma.length<4398046511104 then (some (ea,(wrap64 (G+1)),(wa++Ma),true)) else (none))) else (none))) else (none))=some (r1,r2,r3,r4):=hm_
     have Sc:=M_ hy_;clear hy_
     replace H:=im_ H;obtain⟨lc,H⟩:=H
     obtain⟨xa,hy_⟩:∃y_:List S80,y_=(Ya++Y):=⟨_,rfl⟩
     replace H:(if xa.length<4398046511104 then ((some (xa++[(⟨O,z⟩:S80)]:List S80)).bind fun wa=>(if wa.length+Ma.length<4398046511104 then (some (ea,(wrap64 (G+1)),(wa++Ma),true)) else (none))) else (none))=some (r1,r2,r3,r4):=hm_
     have mc:=M_ hy_;clear hy_
     replace H:=im_ H;obtain⟨Md,H⟩:=H
     obtain⟨wa,hy_⟩:∃y_:List S80,y_=(xa++[(⟨O,z⟩:S80)]):=⟨_,rfl⟩
     replace H:(if wa.length+Ma.length<4398046511104 then (some (ea,(wrap64 (G+1)),(wa++Ma),true)) else (none))=some (r1,r2,r3,r4):=hm_
     have Nd:=M_ hy_;clear hy_
     replace H:=im_ H;obtain⟨Od,H⟩:=H
     obtain⟨Tc,hy_⟩:∃y_:List S80,y_=(wa++Ma):=⟨_,rfl⟩
     replace H:(some (ea,(wrap64 (G+1)),Tc,true))=some (r1,r2,r3,r4):=hm_
     have Pd:=M_ hy_;clear hy_
     simp only[Option.some.injEq,Prod.mk.injEq] at H
     obtain⟨rfl,rfl,rfl,rfl⟩:=H
     have Xh:=n2_ zb
     have Yh:=n2_ Za
     have Zh:=n2_ lb
     obtain⟨ai,bi,ci,di,ei,fi,gi,hi⟩:=bc4_ a.1
     try go_wp2_with (first|((with_reducible refine gate_callee (f:=63) rfl ?_);refine gl_ (some 62) Tryz.func63 #[.agg #[.slice ha W.length ia,.int .i64 Z,.int .i64 aa,.string ba]] ?_;(with_reducible refine(spec_l4Copy.calls _ _ W Z aa ba Kb dc ec fc _ ?_ ?_ Sh.1).mono ?_);exact cp_ ((Kd.C_below xb.1 F.1));exact yb.1;rintro e ii ⟨Ci,rfl,ab,hb⟩;refine⟨_,rfl,?_⟩;obtain⟨U,Uc⟩:=Kd.R_name ab;replace d:=su_ Uc (sp_ d.1) hb;have Gb:=rg_ Uc ab F;obtain⟨b,a,l,c,F⟩:=u5_ hb b a l c F;(try clear hb ab);obtain⟨pd,qd,Fe⟩:=Kd.R_slice Gb.1;subst Fe)|((with_reducible refine gd_ 63 rfl ?_);refine Kd.S_lit2 k29 w.heap.size 29 ?hg (N:=63) ?hd (x:=(⟨Kb,dc,ec,fc⟩:S29)) (cs:=[.slice pd Kb.length qd,.int .i64 dc,.int .i64 ec,.string fc]) (ok:=(fun k_=>k_≠m)) (okp:=(fun k_=>some k_=(.slice pd Kb.length qd:Value).ownBlock)) (fun k_=>U≤k_) ?hr ?hp (fun k_ hk_=>(fun e_=>e_.1.2) ((Kd.R_types (Gb.1) a.1 (by decide)).1 k_ hk_.symm)) (fun k_ hk_=>((Kd.R_mono (ok':=(fun k_=>k_≠m)) (Kd.R_types (Gb.1) a.1 (by decide)) (fun k_ hk=>hk.2))).1 k_ hk_.symm) ?hf ?aS ?_;(case hd=>rfl);(case hg=>rfl);(case hr=>first|(go_simp;done)|(go_simp;rfl));(case hp=>exact(k29_mkM _ _ _ (⟨Kb,dc,ec,fc⟩:S29) (Kd.R_mono (Kd.R_tight rfl (Kd.R_mono (ok':=(fun k_=>k_≠m)) (Kd.R_types (Gb.1) a.1 (by decide)) (fun k_ hk=>hk.2))) (fun _ h_=>h_))));(case hf=>exact(show ∀k_,ii.heap.size≤k_→((fun k_=>k_≠m)) k_ from fun k_ hk=>Kd.freshB (g:=m) (o:=.cells #[.slice ha W.length ia,.int .i64 Z,.int .i64 aa,.string ba] 29 (0,0)) (pb_ a.1) k_ hk) _ (Nat.le_refl _));(case aS=>exact(below_size (hs_ F.1)));intro Di Zi Vc hb hnew_;rw[←Id.1] at Vc;replace d:=M_ (Kd.S_elder' (sp_ d.1) hnew_ hb);have B:=M_ (Vc);obtain⟨b,a,l,c,F⟩:=u5_ hb b a l c F;clear Gb;clear hb hnew_ Vc;obtain⟨D,E,Ge⟩:=Kd.S_slice B.1;subst Ge)|((with_reducible refine gd_ 11 rfl ?_);refine bV_ 11 #[.int .i64 0,.slice none 0 0] 80 ?_;intro r hg ji q hb;replace d:=M_ (Kd.S_below (Kd.S_ltz hg (Kd.S_elderB (sp_ d.1) r (Nat.le_of_eq hg.symm))) hb);replace B:=M_ (Kd.S_below (Kd.S_ltz hg (sp_ B.1)) hb);have ki:=gq_ hg F;replace F:=st_ F hb;obtain⟨Qd,nc,b⟩:=nb_ b hg hb;obtain⟨Rd,oc,a⟩:=nb_ a hg hb;obtain⟨Sd,pc,l⟩:=nb_ l hg hb;obtain⟨qc,Hb,c⟩:=nb_ c hg hb;clear hb hg;have li:=n2_ nc;have mi:=n2_ oc;have ni:=n2_ pc;have Se:=n2_ Hb;obtain⟨Te,Ue,Ve,We⟩:=bc2_ q.1))
     generalize hw_:((ji.setCell ⟨r,0,none⟩ (.int .i64 O)).setCell ⟨r,1,none⟩ (.slice D z.length E))=He
     have Oc:=ws_ hw_ (Kd.S_mono (ok':=(fun k_=>some k_≠(.slice D z.length E:Value).ownBlock∧k_≠m∧Q≤k_∧k_<y∧k_<U∧k_≠r∧k_<r)) (sf_ r d.1 (fun _ hk=>hk.1.2)) (fun _ hk=>⟨hk.1.1.2,⟨hk.1.1.1.1.1,⟨hk.1.1.1.1.2.1,⟨hk.1.1.1.1.2.2,⟨hk.1.1.1.2,⟨hk.1.2,hk.2⟩⟩⟩⟩⟩⟩))
     have Pc:=ws_ hw_ (Kd.S_mono (ok':=(fun k_=>k_≠m∧(some k_=(.slice D z.length E:Value).ownBlock∨U≤k_)∧k_<r)) (sy_ B.1 q.1) (fun _ hk=>⟨hk.1.1,⟨hk.1.2,hk.2⟩⟩))
     replace b:=wq_ hw_ b
     replace a:=wq_ hw_ a
     replace l:=wq_ hw_ l
     replace c:=wq_ hw_ c
     replace q:=wp_ hw_ #[.int .i64 O,.slice D z.length E] q
     replace F:=wb_ hw_ F
     clear hw_
     (try clear d B)
     have d:=Oc
     have B:=Pc
     clear Oc Pc
     have qp103:(V:Int)≤((s.length:Int):Int):=of_decide_eq_true (by with_reducible assumption)
     have gd:(0:Int)≤(V:Int):=of_decide_eq_true (by with_reducible assumption)
     have hlxp103:=(Kd.S_reads' d.1).1
     obtain⟨i0p103,Ib,_,hszp103,_⟩:=info_parts info80
     have hcutp103:=cut_to (P:=Tryz.prog) 24 80 .i64 Tryz.underlying24 Ib L s.length M V (of_decide_eq_true (by with_reducible assumption)) qp103 (Kd.S_reads' d.1).2.1
     have hcutbp103:=cut_from (P:=Tryz.prog) 24 80 .i64 Tryz.underlying24 Ib 2 hszp103 L s.length M V gd qp103
     have KLp103:=M_ (show (V:Int).toNat≤s.length from by omega)
     obtain⟨GXp103,hsrp103,hspp103,hglp103⟩:=Kd.S_split d.1 ((V:Int).toNat) KLp103.out
     have HGp103:=M_ (show ∀k_,GXp103 k_→k_<r from fun k_ hk=>(hglp103 k_ hk).2.2.2.2.2.2)
     have hyp103:Y.length=(V:Int).toNat:=(by rw[Sc.1,List.length_take];omega)
     rw[←Sc.1] at hspp103
     rw[←hyp103] at hspp103 hcutp103
     obtain⟨Ap103b,hAbp103⟩:∃A1,A1=(if M=(V:Int).toNat then L else (L:Option Addr).map (·.add ((V:Int).toNat*2))):=⟨_,rfl⟩
     obtain⟨cp103b,hcbp103⟩:∃c1,c1=M-(V:Int).toNat:=⟨_,rfl⟩
     have hybp103:Ma.length=s.length-(V:Int).toNat:=(by rw[Pb.1,List.length_drop])
     rw[←hybp103,←hAbp103,←hcbp103] at hcutbp103
     have KAp103:=M_ hAbp103
     clear hcbp103 hAbp103 hybp103 hlxp103
     obtain⟨GXp103P,hPPp103,hlPp103⟩:=Kd.S_fp hspp103
     have HGp103P:=M_ (show ∀k_,GXp103P k_→k_<r from fun k_ hk=>(hlPp103 k_ hk).1.1.2.2.2.2.2.2)
     obtain⟨GXp103u0,hPXp103u0,hPlp103u0⟩:=Kd.S_fp (B.1)
     have HGp103u0:=M_ (show ∀k_,GXp103u0 k_→k_<r from fun k_ hk_=>(hPlp103u0 k_ hk_).1.2.2)
     have nup103u0:=M_ (Kd.S_mono hPXp103u0 (fun k_ hk_=>(⟨⟨(hPlp103u0 k_ hk_).1,hk_⟩,fun g_=>Or.elim (hPlp103u0 k_ hk_).1.2.1 (fun e3_=>(hglp103 k_ g_).1 e3_) (fun e3_=>Nat.lt_irrefl _ (Nat.lt_of_lt_of_le (hglp103 k_ g_).2.2.2.2.1 e3_))⟩:(_∧GXp103u0 k_)∧¬GXp103 k_)))
     have da:=M_ (Kd.S_mono (Kd.S_mono hPPp103 (fun k_ hk_=>(⟨(hlPp103 k_ hk_).1,hk_⟩:_∧GXp103P k_))) (fun k_ hk=>(⟨hk,fun g_=>Or.elim (hPlp103u0 k_ g_).1.2.1 (fun e3_=>hk.1.1.1 e3_) (fun e3_=>Nat.lt_irrefl _ (Nat.lt_of_lt_of_le hk.1.1.2.2.2.2.1 e3_))⟩:_∧¬GXp103u0 k_)))
     clear d
     have d:=M_ hsrp103
     clear B
     have B:=nup103u0
     clear nup103u0 hPXp103u0 hPlp103u0 hsrp103 hspp103 hglp103 hPPp103 hlPp103 hyp103 Ib hszp103
     replace qp103:=eq_true qp103
     obtain⟨d,B,da,b,a,l,c,q,F⟩:=y9_ d B da b a l c q F
     refine start_ (n:=16) (S:=fun w'=>c_ w' y 0 (.int .i64 ea)∧c_ w' y 1 (.int .i64 (wrap64 (G+1)))∧c_ w' y 2 (.slice L s.length M)∧c_ w' r 0 (.int .i64 O)∧c_ w' r 1 (.slice D z.length E)) (ds:=[15]) (b_ 0 16) (by kernel_rfl) rfl rfl (f3_ c.1 (e2_ q.1)) (fun A=>?_);refine with_tabW spec_PutIn.tab13 spec_PutIn.bits13 (fun ja tc=>?_)
     generalize He.drew=Ei at d B da b a l c q F A ⊢
     refine qw_ 1 (m_ 16 2) ja ?_
     refine qw_ 3 (m_ 16 10) ja ?_
     refine qw_ 9 (m_ 16 522) ja ?_
     refine qw_ 11 (m_ 16 2570) ja ?_
     refine qt_ 2 (m_ 16 2574) ja tc A ?_
     refine qw_ 4 (m_ 16 2590) ja ?_
     refine qt_ 6 (m_ 16 2654) ja tc A ?_
     refine qt_ 10 (m_ 16 3678) ja tc A ?_
     refine qw_ 12 (m_ 16 7774) ja ?_
     refine join_ (σ:=Value×Value×Nat) 4 (m_ 16 7935) (fun s_=>[(65,s_.1),(70,s_.2.1),(72,.slice (some ⟨s_.2.2,0,none⟩) 1 1)]) (fun s_ w'=>(c_ w' y 0 (.int .i64 ea)∧c_ w' y 1 (.int .i64 (wrap64 (G+1)))∧c_ w' y 2 (.slice L s.length M)∧c_ w' r 0 (.int .i64 O)∧c_ w' r 1 (.slice D z.length E))∧(Kd.S k29 29 w' w.heap.size (fun k_=>k_≠m∧GXp103u0 k_∧k_<r∧¬GXp103 k_∧(some k_=(.slice D z.length E:Value).ownBlock∨U≤k_)) (.slice D z.length E) z)∧(Kd.S k80 80 w' w.heap.size (fun k_=>some k_≠(.slice D z.length E:Value).ownBlock∧some k_≠(.slice L s.length M:Value).ownBlock∧k_≠m∧k_≠r∧k_≠s_.2.2∧¬GXp103 k_∧¬GXp103u0 k_) s_.2.1 xa)∧(Kd.S (Kd.opt k80) 80 w' w.heap.size (fun k_=>some k_≠(.slice D z.length E:Value).ownBlock∧some k_≠(s_.2.1:Value).ownBlock∧k_≠m∧k_≠r∧k_≠s_.2.2∧Q≤k_∧GXp103 k_∧k_<y∧k_<r∧k_<U) (.slice L s.length M) (Kd.gap ((V:Int).toNat) s))∧(w'.heap[ca]?=some (.cells #[.int .i64 ka,.int .i64 G,.slice db I.length Ja] 26 (0,0)))∧(w'.heap[m]?=some (.cells #[.slice ha W.length ia,.int .i64 Z,.int .i64 aa,.string ba] 29 (0,0)))∧(w'.heap[ua]?=some (.cells #[.int .i64 0,.int .i64 0,.slice none 0 0] 26 (0,0)))∧(w'.heap[y]?=some (.cells #[.int .i64 ea,.int .i64 (wrap64 (G+1)),.slice L s.length M] 26 (0,0)))∧(w'.heap[r]?=some (.cells #[.int .i64 O,.slice D z.length E] 80 (0,0)))∧(w'.heap[s_.2.2]?=some (.cells #[.int .i64 O,.slice D z.length E] 80 (0,0)))∧(w.heap.size≤s_.2.2)∧(w.heap.size≤s_.2.2)∧(ca≠s_.2.2)∧(s_.2.2≠ca)∧(m≠s_.2.2)∧(s_.2.2≠m)∧(ua≠s_.2.2)∧(s_.2.2≠ua)∧(y≠s_.2.2)∧(s_.2.2≠y)∧(r≠s_.2.2)∧(s_.2.2≠r)∧(Below w.heap.size w w')) ?_ ?_
     rotate_left
     ·
      intro sb
      refine two_ (i:=0) (j:=7) (Ni:=some 65) (Nj:=some 72) (m_ 16 7775) (m_ 16 7902) rfl rfl rfl rfl (two_of ja.1 (by kernel_rfl)) (by decide) (by decide) (fun K hK=>?_) (fun K hK=>?_)
      ·
       skip
       refine Kd.S_lit_step k80 _ 80 ?hg (N:=65) ?hd (xs:=([]:List S80)) (inner:=[]) (ok:=fun _=>True) (okp:=fun _=>True) ?hr ?hp (fun _ hk=>hk) trivial (Below.refl _ _) (Nat.le_refl _) (by simp) ?_;(case hd=>rfl);(case hg=>rfl);(case hr=>first|(go_simp;done)|(go_simp;rfl));(case hp=>exact(Reps.none _ _))
       intro Ka Ie mb hb hg_ hnew_
       clear hg_ hnew_
       (first|rw[←Ob.1] at mb|(simp only[Int.reduceToNat] at mb;rw[←Ob.1] at mb))
       have R:=M_ (Kd.S_lower (Kd.S_newB (Kd.S_newB (Kd.S_new' (Kd.S_new' (Kd.S_new' (Kd.S_ngz HGp103P.out (blk_lt (pb_ q.1)) (Kd.S_ngz HGp103u0.out (blk_lt (pb_ q.1)) (Kd.S_ngz HGp103.out (blk_lt (pb_ q.1)) mb))) (Kd.S_lt (sp_ d.1))) (Kd.S_lt (sp_ B.1))) (Kd.S_lt (sp_ da.1))) (pb_ a.1)) (pb_ q.1)) (below_size (hs_ F.1)))
       replace d:=M_ (Kd.S_elder' (sp_ d.1) (Kd.S_base mb) hb)
       replace B:=sb_ B hb
       replace da:=M_ (Kd.S_elder' (sp_ da.1) (Kd.S_base mb) hb)
       obtain⟨b,a,l,c,q,F⟩:=u6_ hb b a l c q F
       clear hb mb
       refine ho_ hK (f3_ c.1 (e2_ q.1)) (fun A=>?_)
       refine two_ (i:=5) (j:=7) (Ni:=some 70) (Nj:=some 72) (m_ 16 7807) (m_ 16 7903) rfl rfl rfl rfl (two_of ja.1 (by kernel_rfl)) (by decide) (by decide) (fun K hK=>?_) (fun K hK=>?_)
       ·
        skip
        refine Kd.S_append_part_step k80 (w0:=w) w.heap.size (by rfl) (.tmp 65) (.tmp 69) 24 80 (.agg #[(.int .i64 0),(.slice none 0 0)]) 32 rfl Tryz.underlying24 info80 rfl (by decide) (by omega) Ka Ya Y _ _ _ (fun k_=>some k_≠(.slice L s.length M:Value).ownBlock∧some k_≠(.slice D z.length E:Value).ownBlock∧k_≠m∧k_≠r∧¬GXp103 k_∧¬GXp103u0 k_) (fun k_=>some k_≠(.slice D z.length E:Value).ownBlock∧some k_≠(Ka:Value).ownBlock∧k_≠m∧Q≤k_∧k_<y∧k_<U∧k_≠r∧k_<r∧(¬GXp103 k_∨some k_=(.slice L Y.length M:Value).ownBlock)∧GXp103P k_∧¬GXp103u0 k_) rfl rfl ?aR (fun k_ hx_ ho_=>by have hz_:((((fun k_=>some k_≠(.slice D z.length E:Value).ownBlock∧some k_≠(Ka:Value).ownBlock∧k_≠m∧Q≤k_∧k_<y∧k_<U∧k_≠r∧k_<r∧(¬GXp103 k_∨some k_=(.slice L Y.length M:Value).ownBlock)∧GXp103P k_∧¬GXp103u0 k_)) k_∧¬GXp103 k_)∧some k_≠(.slice L s.length M:Value).ownBlock):=⟨⟨hx_,fun g_=>(hx_.2.2.2.2.2.2.2.2.1).elim (fun h_=>h_ g_) (fun h_=>ho_ h_)⟩,fun e_=>ho_ (e_.trans Kd.own_len)⟩;exact⟨⟨hz_.2,⟨hz_.1.1.1,⟨hz_.1.1.2.2.1,⟨hz_.1.1.2.2.2.2.2.2.1,⟨hz_.1.2,hz_.1.1.2.2.2.2.2.2.2.2.2.2⟩⟩⟩⟩⟩,hz_.1.1.2.1⟩) ?aF ?aO ?aB ?aS ?aL ?_
        (case aR=>exact(Kd.S_mono (da.1) (fun k_ hk=>⟨hk.1.1.1.1.1,⟨hk.2,⟨hk.1.1.1.1.2.1,⟨hk.1.1.1.1.2.2.1,⟨hk.1.1.1.1.2.2.2.1,⟨hk.1.1.1.1.2.2.2.2.1,⟨hk.1.1.1.1.2.2.2.2.2.1,⟨hk.1.1.1.1.2.2.2.2.2.2,⟨hk.1.1.1.2,⟨hk.1.1.2,hk.1.2⟩⟩⟩⟩⟩⟩⟩⟩⟩⟩)))
        (case aB=>exact(hs_ F.1))
        (case aF=>exact(fun k_ hk=>⟨Kd.fresh' (Kd.S_lt (sp_ d.1)) k_ hk,Kd.fresh' (Kd.S_lt (sp_ B.1)) k_ hk,Kd.freshB (g:=m) (o:=.cells #[.slice ha W.length ia,.int .i64 Z,.int .i64 aa,.string ba] 29 (0,0)) (pb_ a.1) k_ hk,Kd.freshB (g:=r) (o:=.cells #[.int .i64 O,.slice D z.length E] 80 (0,0)) (pb_ q.1) k_ hk,(fun g_=>Nat.lt_irrefl _ (Nat.lt_of_lt_of_le (Nat.lt_trans (HGp103.out k_ g_) (blk_lt (pb_ q.1))) hk)),(fun g_=>Nat.lt_irrefl _ (Nat.lt_of_lt_of_le (Nat.lt_trans (HGp103u0.out k_ g_) (blk_lt (pb_ q.1))) hk))⟩))
        (case aO=>exact(Kd.S_mono (sp_ R.1) (fun k_ hk=>⟨⟨hk.1.1.1.1.2,⟨hk.1.1.1.2,⟨hk.1.2,⟨hk.2,⟨hk.1.1.1.1.1.1.1.2,hk.1.1.1.1.1.1.2⟩⟩⟩⟩⟩,fun e_=>(fun ez_=>hk.1.1.1.1.1.2 ((fun (k9_:Nat) (Eb:((fun k_=>some k_≠(.slice D z.length E:Value).ownBlock∧some k_≠(Ka:Value).ownBlock∧k_≠m∧Q≤k_∧k_<y∧k_<U∧k_≠r∧k_<r∧(¬GXp103 k_∨some k_=(.slice L Y.length M:Value).ownBlock)∧GXp103P k_∧¬GXp103u0 k_)) k9_∧some k9_≠(.slice L Y.length M:Value).ownBlock)=>(⟨Eb.1,trivial⟩:_∧True)) _ ez_).1.2.2.2.2.2.2.2.2.2.1) e_⟩)))
        (case aS=>exact(below_size (hs_ F.1)))
        (case aL=>have:=lc.1;omega)
        intro qb Je ho hb hg hat
        rw[←mc.1] at ho
        replace d:=M_ (Kd.S_after (ok:=(fun k_=>some k_≠(.slice D z.length E:Value).ownBlock∧k_≠m∧Q≤k_∧k_<y∧k_<U∧k_≠r∧k_<r∧GXp103 k_)) (Kd.S_mono (sp_ d.1) (fun _ hk=>⟨⟨hk.1.1.1,⟨hk.1.1.2.1,⟨hk.1.1.2.2.1,⟨hk.1.1.2.2.2.1,⟨hk.1.1.2.2.2.2.1,⟨hk.1.1.2.2.2.2.2.1,⟨hk.1.1.2.2.2.2.2.2,hk.1.2⟩⟩⟩⟩⟩⟩⟩,hk.2⟩)) hg hat)
        replace b:=bg_ b hg R
        replace a:=bg_ a hg R
        replace l:=bg_ l hg R
        replace c:=bg_ c hg R
        replace B:=M_ (Kd.S_over' (sp_ B.1) (Kd.S_typed (sp_ R.1)) (by decide) hg)
        replace q:=M_ (blk_grown (bq_ q.1) hg (Kd.S_away R.1 (fun _ hk=>hk.2)))
        replace F:=M_ (hb)
        have ma:=M_ (ho)
        clear R da
        clear ho hb hg hat
        refine ho_ hK (f3_ c.1 (e2_ q.1)) (fun A=>?_)
        refine o1_ 7 (m_ 16 7935) ja (fun K hK=>?_)
        refine box_stepL ?hg (N:=72) ?hd (cs:=#[.int .i64 O,.slice D z.length E]) (t:=80) ?hr ?_;(case hd=>rfl);(case hg=>rfl);(case hr=>first|(go_simp;done)|(go_simp;rfl))
        intro T hg rd Va hb
        replace d:=se_ d hg hb
        replace B:=sb_ B hb
        replace ma:=se_ ma hg hb
        have X:=M_ (Va)
        have tb:=gq_ hg F
        have ub:=gq_ hg F
        replace F:=st_ F hb
        have Ca:=nk_ b hg
        have Da:=Ne_.mk (ng_ b.1 hg)
        replace b:=bk2_ b hb
        have Ea:=nk_ a hg
        have Fa:=Ne_.mk (ng_ a.1 hg)
        replace a:=bk2_ a hb
        have sa:=nk_ l hg
        have Ga:=Ne_.mk (ng_ l.1 hg)
        replace l:=bk2_ l hb
        have na:=nk_ c hg
        have ta:=Ne_.mk (ng_ c.1 hg)
        replace c:=bk2_ c hb
        have Ha:=nk_ q hg
        have Ia:=Ne_.mk (ng_ q.1 hg)
        replace q:=bk2_ q hb
        clear hb Va hg
        refine ho_ hK (f3_ c.1 (e2_ q.1)) (fun A=>?_)
        exact norm_ (by simp only[putAll,fr_]) (sb (Ka,qb,T) _ ⟨A,(Kd.S_mono (sp_ B.1) (fun _ hk=>⟨hk.1.1.1,⟨hk.1.2,⟨hk.1.1.2.2,⟨hk.2,hk.1.1.2.1⟩⟩⟩⟩)),(Kd.S_mono (sp_ ma.1) (fun _ hk=>⟨hk.1.2.1,⟨hk.1.1,⟨hk.1.2.2.1,⟨hk.1.2.2.2.1,⟨hk.2,⟨hk.1.2.2.2.2.1,hk.1.2.2.2.2.2⟩⟩⟩⟩⟩⟩)),(Kd.S_mono (sp_ d.1) (fun _ hk=>⟨hk.1.1.1,⟨hk.1.2,⟨hk.1.1.2.1,⟨hk.1.1.2.2.2.2.2.1,⟨hk.2,⟨hk.1.1.2.2.1,⟨hk.1.1.2.2.2.2.2.2.2,⟨hk.1.1.2.2.2.1,⟨hk.1.1.2.2.2.2.2.2.1,hk.1.1.2.2.2.2.1⟩⟩⟩⟩⟩⟩⟩⟩⟩)),(pb_ b.1),(pb_ a.1),(pb_ l.1),(pb_ c.1),(pb_ q.1),(pb_ X.1),tb.1,ub.1,Ca.1,Da.1,Ea.1,Fa.1,sa.1,Ga.1,na.1,ta.1,Ha.1,Ia.1,(hs_ F.1)⟩)
       skip
       refine box_stepL ?hg (N:=72) ?hd (cs:=#[.int .i64 O,.slice D z.length E]) (t:=80) ?hr ?_;(case hd=>rfl);(case hg=>rfl);(case hr=>first|(go_simp;done)|(go_simp;rfl))
       intro T hg Je Va hb
       replace d:=se_ d hg hb
       replace B:=sb_ B hb
       replace da:=se_ da hg hb
       replace R:=se_ R hg hb
       have X:=M_ (Va)
       have tb:=gq_ hg F
       have ub:=gq_ hg F
       replace F:=st_ F hb
       have Ca:=nk_ b hg
       have Da:=Ne_.mk (ng_ b.1 hg)
       replace b:=bk2_ b hb
       have Ea:=nk_ a hg
       have Fa:=Ne_.mk (ng_ a.1 hg)
       replace a:=bk2_ a hb
       have sa:=nk_ l hg
       have Ga:=Ne_.mk (ng_ l.1 hg)
       replace l:=bk2_ l hb
       have na:=nk_ c hg
       have ta:=Ne_.mk (ng_ c.1 hg)
       replace c:=bk2_ c hb
       have Ha:=nk_ q hg
       have Ia:=Ne_.mk (ng_ q.1 hg)
       replace q:=bk2_ q hb
       clear hb Va hg
       refine ho_ hK (f3_ c.1 (e2_ q.1)) (fun A=>?_)
       refine o1_ 5 (m_ 16 7935) ja (fun K hK=>?_)
       refine Kd.S_append_part_step k80 (w0:=w) w.heap.size (by rfl) (.tmp 65) (.tmp 69) 24 80 (.agg #[(.int .i64 0),(.slice none 0 0)]) 32 rfl Tryz.underlying24 info80 rfl (by decide) (by omega) Ka Ya Y _ _ _ (fun k_=>some k_≠(.slice L s.length M:Value).ownBlock∧some k_≠(.slice D z.length E:Value).ownBlock∧k_≠m∧k_≠r∧k_≠T∧¬GXp103 k_∧¬GXp103u0 k_) (fun k_=>some k_≠(.slice D z.length E:Value).ownBlock∧some k_≠(Ka:Value).ownBlock∧k_≠m∧Q≤k_∧k_<y∧k_<U∧k_≠r∧k_<r∧(¬GXp103 k_∨some k_=(.slice L Y.length M:Value).ownBlock)∧GXp103P k_∧¬GXp103u0 k_∧k_≠T) rfl rfl ?aR (fun k_ hx_ ho_=>by have hz_:((((fun k_=>some k_≠(.slice D z.length E:Value).ownBlock∧some k_≠(Ka:Value).ownBlock∧k_≠m∧Q≤k_∧k_<y∧k_<U∧k_≠r∧k_<r∧(¬GXp103 k_∨some k_=(.slice L Y.length M:Value).ownBlock)∧GXp103P k_∧¬GXp103u0 k_∧k_≠T)) k_∧¬GXp103 k_)∧some k_≠(.slice L s.length M:Value).ownBlock):=⟨⟨hx_,fun g_=>(hx_.2.2.2.2.2.2.2.2.1).elim (fun h_=>h_ g_) (fun h_=>ho_ h_)⟩,fun e_=>ho_ (e_.trans Kd.own_len)⟩;exact⟨⟨hz_.2,⟨hz_.1.1.1,⟨hz_.1.1.2.2.1,⟨hz_.1.1.2.2.2.2.2.2.1,⟨hz_.1.1.2.2.2.2.2.2.2.2.2.2.2,⟨hz_.1.2,hz_.1.1.2.2.2.2.2.2.2.2.2.2.1⟩⟩⟩⟩⟩⟩,hz_.1.1.2.1⟩) ?aF ?aO ?aB ?aS ?aL ?_
       (case aR=>exact(Kd.S_mono (da.1) (fun k_ hk=>⟨hk.1.1.1.1.1.1,⟨hk.1.2,⟨hk.1.1.1.1.1.2.1,⟨hk.1.1.1.1.1.2.2.1,⟨hk.1.1.1.1.1.2.2.2.1,⟨hk.1.1.1.1.1.2.2.2.2.1,⟨hk.1.1.1.1.1.2.2.2.2.2.1,⟨hk.1.1.1.1.1.2.2.2.2.2.2,⟨hk.1.1.1.1.2,⟨hk.1.1.1.2,⟨hk.1.1.2,hk.2⟩⟩⟩⟩⟩⟩⟩⟩⟩⟩⟩)))
       (case aB=>exact(hs_ F.1))
       (case aF=>exact(fun k_ hk=>⟨Kd.fresh' (Kd.S_lt (sp_ d.1)) k_ hk,Kd.fresh' (Kd.S_lt (sp_ B.1)) k_ hk,Kd.freshB (g:=m) (o:=.cells #[.slice ha W.length ia,.int .i64 Z,.int .i64 aa,.string ba] 29 (0,0)) (pb_ a.1) k_ hk,Kd.freshB (g:=r) (o:=.cells #[.int .i64 O,.slice D z.length E] 80 (0,0)) (pb_ q.1) k_ hk,Kd.freshB (g:=T) (o:=.cells #[.int .i64 O,.slice D z.length E] 80 (0,0)) (pb_ X.1) k_ hk,(fun g_=>Nat.lt_irrefl _ (Nat.lt_of_lt_of_le (Nat.lt_trans (HGp103.out k_ g_) (blk_lt (pb_ q.1))) hk)),(fun g_=>Nat.lt_irrefl _ (Nat.lt_of_lt_of_le (Nat.lt_trans (HGp103u0.out k_ g_) (blk_lt (pb_ q.1))) hk))⟩))
       (case aO=>exact(Kd.S_mono (sp_ R.1) (fun k_ hk=>⟨⟨hk.1.1.1.1.1.2,⟨hk.1.1.1.1.2,⟨hk.1.1.2,⟨hk.1.2,⟨hk.2,⟨hk.1.1.1.1.1.1.1.1.2,hk.1.1.1.1.1.1.1.2⟩⟩⟩⟩⟩⟩,fun e_=>(fun ez_=>hk.1.1.1.1.1.1.2 ((fun (k9_:Nat) (Eb:((fun k_=>some k_≠(.slice D z.length E:Value).ownBlock∧some k_≠(Ka:Value).ownBlock∧k_≠m∧Q≤k_∧k_<y∧k_<U∧k_≠r∧k_<r∧(¬GXp103 k_∨some k_=(.slice L Y.length M:Value).ownBlock)∧GXp103P k_∧¬GXp103u0 k_∧k_≠T)) k9_∧some k9_≠(.slice L Y.length M:Value).ownBlock)=>(⟨Eb.1,trivial⟩:_∧True)) _ ez_).1.2.2.2.2.2.2.2.2.2.1) e_⟩)))
       (case aS=>exact(below_size (hs_ F.1)))
       (case aL=>have:=lc.1;omega)
       intro qb rd ho hb hg hat
       rw[←mc.1] at ho
       replace d:=M_ (Kd.S_after (ok:=(fun k_=>some k_≠(.slice D z.length E:Value).ownBlock∧k_≠m∧Q≤k_∧k_<y∧k_<U∧k_≠r∧k_<r∧GXp103 k_∧k_≠T)) (Kd.S_mono (sp_ d.1) (fun _ hk=>⟨⟨hk.1.1.1.1,⟨hk.1.1.1.2.1,⟨hk.1.1.1.2.2.1,⟨hk.1.1.1.2.2.2.1,⟨hk.1.1.1.2.2.2.2.1,⟨hk.1.1.1.2.2.2.2.2.1,⟨hk.1.1.1.2.2.2.2.2.2,⟨hk.1.1.2,hk.2⟩⟩⟩⟩⟩⟩⟩⟩,hk.1.2⟩)) hg hat)
       replace b:=bg_ b hg R
       replace a:=bg_ a hg R
       replace l:=bg_ l hg R
       replace c:=bg_ c hg R
       replace B:=M_ (Kd.S_over' (sp_ B.1) (Kd.S_typed (sp_ R.1)) (by decide) hg)
       replace q:=M_ (blk_grown (bq_ q.1) hg (Kd.S_away R.1 (fun _ hk=>hk.1.2)))
       replace X:=M_ (blk_grown (bq_ X.1) hg (Kd.S_away R.1 (fun _ hk=>hk.2)))
       replace F:=M_ (hb)
       have ma:=M_ (ho)
       clear R da
       clear ho hb hg hat
       refine ho_ hK (f3_ c.1 (e2_ q.1)) (fun A=>?_)
       exact norm_ (by simp only[putAll,fr_]) (sb (Ka,qb,T) _ ⟨A,(Kd.S_mono (sp_ B.1) (fun _ hk=>⟨hk.1.1.1,⟨hk.1.2,⟨hk.1.1.2.2,⟨hk.2,hk.1.1.2.1⟩⟩⟩⟩)),(Kd.S_mono (sp_ ma.1) (fun _ hk=>⟨hk.2.1,⟨hk.1,⟨hk.2.2.1,⟨hk.2.2.2.1,⟨hk.2.2.2.2.1,⟨hk.2.2.2.2.2.1,hk.2.2.2.2.2.2⟩⟩⟩⟩⟩⟩)),(Kd.S_mono (sp_ d.1) (fun _ hk=>⟨hk.1.1,⟨hk.2,⟨hk.1.2.1,⟨hk.1.2.2.2.2.2.1,⟨hk.1.2.2.2.2.2.2.2.2,⟨hk.1.2.2.1,⟨hk.1.2.2.2.2.2.2.2.1,⟨hk.1.2.2.2.1,⟨hk.1.2.2.2.2.2.2.1,hk.1.2.2.2.2.1⟩⟩⟩⟩⟩⟩⟩⟩⟩)),(pb_ b.1),(pb_ a.1),(pb_ l.1),(pb_ c.1),(pb_ q.1),(pb_ X.1),tb.1,ub.1,Ca.1,Da.1,Ea.1,Fa.1,sa.1,Ga.1,na.1,ta.1,Ha.1,Ia.1,(hs_ F.1)⟩)
      skip
      refine box_stepL ?hg (N:=72) ?hd (cs:=#[.int .i64 O,.slice D z.length E]) (t:=80) ?hr ?_;(case hd=>rfl);(case hg=>rfl);(case hr=>first|(go_simp;done)|(go_simp;rfl))
      intro T hg Ie Va hb
      replace d:=se_ d hg hb
      replace B:=sb_ B hb
      replace da:=se_ da hg hb
      have X:=M_ (Va)
      have tb:=gq_ hg F
      have ub:=gq_ hg F
      replace F:=st_ F hb
      have Ca:=nk_ b hg
      have Da:=Ne_.mk (ng_ b.1 hg)
      replace b:=bk2_ b hb
      have Ea:=nk_ a hg
      have Fa:=Ne_.mk (ng_ a.1 hg)
      replace a:=bk2_ a hb
      have sa:=nk_ l hg
      have Ga:=Ne_.mk (ng_ l.1 hg)
      replace l:=bk2_ l hb
      have na:=nk_ c hg
      have ta:=Ne_.mk (ng_ c.1 hg)
      replace c:=bk2_ c hb
      have Ha:=nk_ q hg
      have Ia:=Ne_.mk (ng_ q.1 hg)
      replace q:=bk2_ q hb
      clear hb Va hg
      refine ho_ hK (f3_ c.1 (e2_ q.1)) (fun A=>?_)
      refine o1_ 0 (m_ 16 7903) ja (fun K hK=>?_)
      refine Kd.S_lit_step k80 _ 80 ?hg (N:=65) ?hd (xs:=([]:List S80)) (inner:=[]) (ok:=fun _=>True) (okp:=fun _=>True) ?hr ?hp (fun _ hk=>hk) trivial (Below.refl _ _) (Nat.le_refl _) (by simp) ?_;(case hd=>rfl);(case hg=>rfl);(case hr=>first|(go_simp;done)|(go_simp;rfl));(case hp=>exact(Reps.none _ _))
      intro Ka Fi nb hb hg_ hnew_
      clear hg_ hnew_
      (first|rw[←Ob.1] at nb|(simp only[Int.reduceToNat] at nb;rw[←Ob.1] at nb))
      have R:=M_ (Kd.S_lower (Kd.S_newB (Kd.S_newB (Kd.S_newB (Kd.S_new' (Kd.S_new' (Kd.S_new' (Kd.S_ngz HGp103P.out (blk_lt (pb_ q.1)) (Kd.S_ngz HGp103u0.out (blk_lt (pb_ q.1)) (Kd.S_ngz HGp103.out (blk_lt (pb_ q.1)) nb))) (Kd.S_lt (sp_ d.1))) (Kd.S_lt (sp_ B.1))) (Kd.S_lt (sp_ da.1))) (pb_ a.1)) (pb_ q.1)) (pb_ X.1)) (below_size (hs_ F.1)))
      replace d:=M_ (Kd.S_elder' (sp_ d.1) (Kd.S_base nb) hb)
      replace B:=sb_ B hb
      replace da:=M_ (Kd.S_elder' (sp_ da.1) (Kd.S_base nb) hb)
      obtain⟨b,a,l,c,q,X,F⟩:=u7_ hb b a l c q X F
      clear hb nb
      refine ho_ hK (f3_ c.1 (e2_ q.1)) (fun A=>?_)
      refine o1_ 5 (m_ 16 7935) ja (fun K hK=>?_)
      refine Kd.S_append_part_step k80 (w0:=w) w.heap.size (by rfl) (.tmp 65) (.tmp 69) 24 80 (.agg #[(.int .i64 0),(.slice none 0 0)]) 32 rfl Tryz.underlying24 info80 rfl (by decide) (by omega) Ka Ya Y _ _ _ (fun k_=>some k_≠(.slice L s.length M:Value).ownBlock∧some k_≠(.slice D z.length E:Value).ownBlock∧k_≠m∧k_≠r∧k_≠T∧¬GXp103 k_∧¬GXp103u0 k_) (fun k_=>some k_≠(.slice D z.length E:Value).ownBlock∧some k_≠(Ka:Value).ownBlock∧k_≠m∧Q≤k_∧k_<y∧k_<U∧k_≠r∧k_<r∧(¬GXp103 k_∨some k_=(.slice L Y.length M:Value).ownBlock)∧GXp103P k_∧¬GXp103u0 k_∧k_≠T) rfl rfl ?aR (fun k_ hx_ ho_=>by have hz_:((((fun k_=>some k_≠(.slice D z.length E:Value).ownBlock∧some k_≠(Ka:Value).ownBlock∧k_≠m∧Q≤k_∧k_<y∧k_<U∧k_≠r∧k_<r∧(¬GXp103 k_∨some k_=(.slice L Y.length M:Value).ownBlock)∧GXp103P k_∧¬GXp103u0 k_∧k_≠T)) k_∧¬GXp103 k_)∧some k_≠(.slice L s.length M:Value).ownBlock):=⟨⟨hx_,fun g_=>(hx_.2.2.2.2.2.2.2.2.1).elim (fun h_=>h_ g_) (fun h_=>ho_ h_)⟩,fun e_=>ho_ (e_.trans Kd.own_len)⟩;exact⟨⟨hz_.2,⟨hz_.1.1.1,⟨hz_.1.1.2.2.1,⟨hz_.1.1.2.2.2.2.2.2.1,⟨hz_.1.1.2.2.2.2.2.2.2.2.2.2.2,⟨hz_.1.2,hz_.1.1.2.2.2.2.2.2.2.2.2.2.1⟩⟩⟩⟩⟩⟩,hz_.1.1.2.1⟩) ?aF ?aO ?aB ?aS ?aL ?_
      (case aR=>exact(Kd.S_mono (da.1) (fun k_ hk=>⟨hk.1.1.1.1.1.1,⟨hk.2,⟨hk.1.1.1.1.1.2.1,⟨hk.1.1.1.1.1.2.2.1,⟨hk.1.1.1.1.1.2.2.2.1,⟨hk.1.1.1.1.1.2.2.2.2.1,⟨hk.1.1.1.1.1.2.2.2.2.2.1,⟨hk.1.1.1.1.1.2.2.2.2.2.2,⟨hk.1.1.1.1.2,⟨hk.1.1.1.2,⟨hk.1.1.2,hk.1.2⟩⟩⟩⟩⟩⟩⟩⟩⟩⟩⟩)))
      (case aB=>exact(hs_ F.1))
      (case aF=>exact(fun k_ hk=>⟨Kd.fresh' (Kd.S_lt (sp_ d.1)) k_ hk,Kd.fresh' (Kd.S_lt (sp_ B.1)) k_ hk,Kd.freshB (g:=m) (o:=.cells #[.slice ha W.length ia,.int .i64 Z,.int .i64 aa,.string ba] 29 (0,0)) (pb_ a.1) k_ hk,Kd.freshB (g:=r) (o:=.cells #[.int .i64 O,.slice D z.length E] 80 (0,0)) (pb_ q.1) k_ hk,Kd.freshB (g:=T) (o:=.cells #[.int .i64 O,.slice D z.length E] 80 (0,0)) (pb_ X.1) k_ hk,(fun g_=>Nat.lt_irrefl _ (Nat.lt_of_lt_of_le (Nat.lt_trans (HGp103.out k_ g_) (blk_lt (pb_ q.1))) hk)),(fun g_=>Nat.lt_irrefl _ (Nat.lt_of_lt_of_le (Nat.lt_trans (HGp103u0.out k_ g_) (blk_lt (pb_ q.1))) hk))⟩))
      (case aO=>exact(Kd.S_mono (sp_ R.1) (fun k_ hk=>⟨⟨hk.1.1.1.1.1.2,⟨hk.1.1.1.1.2,⟨hk.1.1.2,⟨hk.1.2,⟨hk.2,⟨hk.1.1.1.1.1.1.1.1.2,hk.1.1.1.1.1.1.1.2⟩⟩⟩⟩⟩⟩,fun e_=>(fun ez_=>hk.1.1.1.1.1.1.2 ((fun (k9_:Nat) (Eb:((fun k_=>some k_≠(.slice D z.length E:Value).ownBlock∧some k_≠(Ka:Value).ownBlock∧k_≠m∧Q≤k_∧k_<y∧k_<U∧k_≠r∧k_<r∧(¬GXp103 k_∨some k_=(.slice L Y.length M:Value).ownBlock)∧GXp103P k_∧¬GXp103u0 k_∧k_≠T)) k9_∧some k9_≠(.slice L Y.length M:Value).ownBlock)=>(⟨Eb.1,trivial⟩:_∧True)) _ ez_).1.2.2.2.2.2.2.2.2.2.1) e_⟩)))
      (case aS=>exact(below_size (hs_ F.1)))
      (case aL=>have:=lc.1;omega)
      intro qb rd ho hb hg hat
      rw[←mc.1] at ho
      replace d:=M_ (Kd.S_after (ok:=(fun k_=>some k_≠(.slice D z.length E:Value).ownBlock∧k_≠m∧Q≤k_∧k_<y∧k_<U∧k_≠r∧k_<r∧GXp103 k_∧k_≠T)) (Kd.S_mono (sp_ d.1) (fun _ hk=>⟨⟨hk.1.1.1.1,⟨hk.1.1.1.2.1,⟨hk.1.1.1.2.2.1,⟨hk.1.1.1.2.2.2.1,⟨hk.1.1.1.2.2.2.2.1,⟨hk.1.1.1.2.2.2.2.2.1,⟨hk.1.1.1.2.2.2.2.2.2,⟨hk.1.1.2,hk.1.2⟩⟩⟩⟩⟩⟩⟩⟩,hk.2⟩)) hg hat)
      replace b:=bg_ b hg R
      replace a:=bg_ a hg R
      replace l:=bg_ l hg R
      replace c:=bg_ c hg R
      replace B:=M_ (Kd.S_over' (sp_ B.1) (Kd.S_typed (sp_ R.1)) (by decide) hg)
      replace q:=M_ (blk_grown (bq_ q.1) hg (Kd.S_away R.1 (fun _ hk=>hk.1.2)))
      replace X:=M_ (blk_grown (bq_ X.1) hg (Kd.S_away R.1 (fun _ hk=>hk.2)))
      replace F:=M_ (hb)
      have ma:=M_ (ho)
      clear R da
      clear ho hb hg hat
      refine ho_ hK (f3_ c.1 (e2_ q.1)) (fun A=>?_)
      exact norm_ (by simp only[putAll,fr_]) (sb (Ka,qb,T) _ ⟨A,(Kd.S_mono (sp_ B.1) (fun _ hk=>⟨hk.1.1.1,⟨hk.1.2,⟨hk.1.1.2.2,⟨hk.2,hk.1.1.2.1⟩⟩⟩⟩)),(Kd.S_mono (sp_ ma.1) (fun _ hk=>⟨hk.2.1,⟨hk.1,⟨hk.2.2.1,⟨hk.2.2.2.1,⟨hk.2.2.2.2.1,⟨hk.2.2.2.2.2.1,hk.2.2.2.2.2.2⟩⟩⟩⟩⟩⟩)),(Kd.S_mono (sp_ d.1) (fun _ hk=>⟨hk.1.1,⟨hk.2,⟨hk.1.2.1,⟨hk.1.2.2.2.2.2.1,⟨hk.1.2.2.2.2.2.2.2.2,⟨hk.1.2.2.1,⟨hk.1.2.2.2.2.2.2.2.1,⟨hk.1.2.2.2.1,⟨hk.1.2.2.2.2.2.2.1,hk.1.2.2.2.2.1⟩⟩⟩⟩⟩⟩⟩⟩⟩)),(pb_ b.1),(pb_ a.1),(pb_ l.1),(pb_ c.1),(pb_ q.1),(pb_ X.1),tb.1,ub.1,Ca.1,Da.1,Ea.1,Fa.1,sa.1,Ga.1,na.1,ta.1,Ha.1,Ia.1,(hs_ F.1)⟩)
     rintro ⟨Ka,qb,T⟩ Sa ⟨Cd,Fc,Gc,Hc,Ic,Jc,Kc,Lc,Mc,Nc,Eb,Vb,Wb,Xb,Yb,Zb,ac,bc,cc,sd,td,ud,vd⟩
     replace B:Aside0 (Kd.S k29 29 Sa w.heap.size (fun k_=>k_≠m∧GXp103u0 k_∧k_<r∧¬GXp103 k_∧(some k_=(.slice D z.length E:Value).ownBlock∨U≤k_)) (.slice D z.length E) z):=⟨Fc⟩
     have ma:Aside0 (Kd.S k80 80 Sa w.heap.size (fun k_=>some k_≠(.slice D z.length E:Value).ownBlock∧some k_≠(.slice L s.length M:Value).ownBlock∧k_≠m∧k_≠r∧k_≠T∧¬GXp103 k_∧¬GXp103u0 k_) qb xa):=⟨Gc⟩
     replace d:Aside0 (Kd.S (Kd.opt k80) 80 Sa w.heap.size (fun k_=>some k_≠(.slice D z.length E:Value).ownBlock∧some k_≠(qb:Value).ownBlock∧k_≠m∧k_≠r∧k_≠T∧Q≤k_∧GXp103 k_∧k_<y∧k_<r∧k_<U) (.slice L s.length M) (Kd.gap ((V:Int).toNat) s)):=⟨Hc⟩
     replace b:Aside0 (Sa.heap[ca]?=some (.cells #[.int .i64 ka,.int .i64 G,.slice db I.length Ja] 26 (0,0))):=⟨Ic⟩
     replace a:Aside0 (Sa.heap[m]?=some (.cells #[.slice ha W.length ia,.int .i64 Z,.int .i64 aa,.string ba] 29 (0,0))):=⟨Jc⟩
     replace l:Aside0 (Sa.heap[ua]?=some (.cells #[.int .i64 0,.int .i64 0,.slice none 0 0] 26 (0,0))):=⟨Kc⟩
     replace c:Aside0 (Sa.heap[y]?=some (.cells #[.int .i64 ea,.int .i64 (wrap64 (G+1)),.slice L s.length M] 26 (0,0))):=⟨Lc⟩
     replace q:Aside0 (Sa.heap[r]?=some (.cells #[.int .i64 O,.slice D z.length E] 80 (0,0))):=⟨Mc⟩
     have X:Aside0 (Sa.heap[T]?=some (.cells #[.int .i64 O,.slice D z.length E] 80 (0,0))):=⟨Nc⟩
     have tb:=Ge_.mk Eb
     have ub:=Ge_.mk Vb
     have Ca:=Ne_.mk Wb
     have Da:=Ne_.mk Xb
     have Ea:=Ne_.mk Yb
     have Fa:=Ne_.mk Zb
     have sa:=Ne_.mk ac
     have Ga:=Ne_.mk bc
     have na:=Ne_.mk cc
     have ta:=Ne_.mk sd
     have Ha:=Ne_.mk td
     have Ia:=Ne_.mk ud
     replace F:Aside0 (Below w.heap.size w Sa):=⟨vd⟩
     clear da Fc Gc Hc Ic Jc Kc Lc Mc Nc Eb Vb Wb Xb Yb Zb ac bc cc sd td ud vd
     have A:c_ Sa y 0 (.int .i64 ea)∧c_ Sa y 1 (.int .i64 (wrap64 (G+1)))∧c_ Sa y 2 (.slice L s.length M)∧c_ Sa r 0 (.int .i64 O)∧c_ Sa r 1 (.slice D z.length E):=Cd
     obtain⟨jd,Wc,Ta⟩:=Kd.S_fp (Kd.S_types (Kd.S_types (Kd.S_apart' (Kd.S_apart' (B.1) (Kd.S_typed d.1) (by decide)) (Kd.S_typed ma.1) (by decide)) q.1 (by decide)) X.1 (by decide))
     refine nm_ ?_
     refine o1_ 8 (b_ 13 3) ja (fun K hK=>?_)
     refine Kd.S_append_box_step k80 (w0:=w) w.heap.size (by rfl) (.tmp 70) (.tmp 72) 24 80 (.agg #[(.int .i64 0),(.slice none 0 0)]) 32 rfl Tryz.underlying24 info80 rfl (by decide) (by omega) qb xa (⟨O,z⟩:S80) [.int .i64 O,.slice D z.length E] (fun k_=>some k_≠(.slice L s.length M:Value).ownBlock∧k_≠m∧k_≠r∧k_≠T∧¬GXp103 k_) (fun k_=>jd k_) T (pb_ X.1) rfl rfl ?aP (fun k_ hk_=>⟨⟨(Ta k_ hk_).1.1.1.1.2,⟨(Ta k_ hk_).1.1.1.1.1.1,⟨(Ta k_ hk_).1.1.2,⟨(Ta k_ hk_).1.2,(Ta k_ hk_).1.1.1.1.1.2.2.2.1⟩⟩⟩⟩,(Ta k_ hk_).1.1.1.2⟩) ?aF ?aO ?aB ?aS ?aL ?_
     (case aP=>exact k80_mkM _ _ _ (⟨O,z⟩:S80) (Kd.S_mono Wc (fun _ h_=>h_)))
     (case aB=>exact(hs_ F.1))
     (case aF=>exact(fun k_ hk=>⟨Kd.fresh' (Kd.S_lt (sp_ d.1)) k_ hk,Kd.freshB (g:=m) (o:=.cells #[.slice ha W.length ia,.int .i64 Z,.int .i64 aa,.string ba] 29 (0,0)) (pb_ a.1) k_ hk,Kd.freshB (g:=r) (o:=.cells #[.int .i64 O,.slice D z.length E] 80 (0,0)) (pb_ q.1) k_ hk,Kd.freshB (g:=T) (o:=.cells #[.int .i64 O,.slice D z.length E] 80 (0,0)) (pb_ X.1) k_ hk,(fun g_=>Nat.lt_irrefl _ (Nat.lt_of_lt_of_le (Nat.lt_trans (HGp103.out k_ g_) (blk_lt (pb_ q.1))) hk))⟩))
     (case aO=>exact(Kd.S_mono (sp_ ma.1) (fun k_ hk=>⟨⟨hk.2.1,⟨hk.2.2.1,⟨hk.2.2.2.1,⟨hk.2.2.2.2.1,hk.2.2.2.2.2.1⟩⟩⟩⟩,fun e_=>(fun ez_=>hk.2.2.2.2.2.2 (Ta _ ez_).1.1.1.1.1.2.1) e_⟩)))
     (case aS=>exact(below_size (hs_ F.1)))
     (case aL=>have:=Md.1;omega)
     intro wd Gi ho hb hg hat
     rw[←Nd.1] at ho
     replace d:=M_ (Kd.S_after (ok:=(fun k_=>some k_≠(.slice D z.length E:Value).ownBlock∧k_≠m∧k_≠r∧k_≠T∧Q≤k_∧GXp103 k_∧k_<y∧k_<r∧k_<U)) (Kd.S_mono (sp_ d.1) (fun _ hk=>⟨⟨hk.1,⟨hk.2.2.1,⟨hk.2.2.2.1,⟨hk.2.2.2.2.1,⟨hk.2.2.2.2.2.1,⟨hk.2.2.2.2.2.2.1,⟨hk.2.2.2.2.2.2.2.1,⟨hk.2.2.2.2.2.2.2.2.1,hk.2.2.2.2.2.2.2.2.2⟩⟩⟩⟩⟩⟩⟩⟩,hk.2.1⟩)) hg hat)
     replace b:=bg_ b hg ma
     replace a:=bg_ a hg ma
     replace l:=bg_ l hg ma
     replace c:=bg_ c hg ma
     replace q:=M_ (blk_grown (bq_ q.1) hg (Kd.S_away ma.1 (fun _ hk=>hk.2.2.2.1)))
     replace X:=M_ (blk_grown (bq_ X.1) hg (Kd.S_away ma.1 (fun _ hk=>hk.2.2.2.2.1)))
     replace F:=M_ (hb)
     have jb:=M_ (ho)
     clear ma B
     clear ho hb hg hat
     refine ho_ hK (f3_ c.1 (e2_ q.1)) (fun A=>?_)
     refine o1_ 13 (b_ 14 2) ja (fun K hK=>?_)
     refine Kd.S_append_rest_step k80 (w0:=w) w.heap.size (by rfl) (.tmp 73) (.tmp 77) 24 80 (.agg #[(.int .i64 0),(.slice none 0 0)]) 32 rfl Tryz.underlying24 info80 rfl (by decide) (by omega) wd wa s L s.length M ((V:Int).toNat) cp103b (fun k_=>k_≠m∧k_≠r∧k_≠T) (fun k_=>some k_≠(wd:Value).ownBlock∧k_≠m∧k_≠r∧k_≠T∧Q≤k_∧GXp103 k_∧k_<y∧k_<r∧k_<U) rfl KLp103.out (by rw[show (if M=(V:Int).toNat then L else (L:Option Addr).map (·.add ((V:Int).toNat*(k80).sz)))=Ap103b from KAp103.out.symm,←Pb.1];rfl) ?aR (fun k_ hk ho_=>⟨⟨hk.2.1,⟨hk.2.2.1,hk.2.2.2.1⟩⟩,hk.1⟩) ?aF ?aO ?aB ?aS ?aL ?_
     (case aR=>exact(Kd.S_mono (d.1) (fun k_ hk=>⟨hk.2,⟨hk.1.2.1,⟨hk.1.2.2.1,⟨hk.1.2.2.2.1,⟨hk.1.2.2.2.2.1,⟨hk.1.2.2.2.2.2.1,⟨hk.1.2.2.2.2.2.2.1,⟨hk.1.2.2.2.2.2.2.2.1,hk.1.2.2.2.2.2.2.2.2⟩⟩⟩⟩⟩⟩⟩⟩)))
     (case aB=>exact(hs_ F.1))
     (case aF=>exact(fun k_ hk=>⟨Kd.freshB (g:=m) (o:=.cells #[.slice ha W.length ia,.int .i64 Z,.int .i64 aa,.string ba] 29 (0,0)) (pb_ a.1) k_ hk,Kd.freshB (g:=r) (o:=.cells #[.int .i64 O,.slice D z.length E] 80 (0,0)) (pb_ q.1) k_ hk,Kd.freshB (g:=T) (o:=.cells #[.int .i64 O,.slice D z.length E] 80 (0,0)) (pb_ X.1) k_ hk⟩))
     (case aO=>exact(Kd.S_mono (sp_ jb.1) (fun k_ hk=>⟨⟨hk.2.1,⟨hk.2.2.1,hk.2.2.2.1⟩⟩,fun e_=>hk.2.2.2.2 e_.1.2.2.2.2.2.1⟩)))
     (case aS=>exact(below_size (hs_ F.1)))
     (case aL=>have:=Od.1;rw[Pb.1] at this;omega)
     intro Hi Ke ho hb hg hat
     rw[←Pb.1] at ho
     rw[←Pd.1] at ho
     replace b:=bg_ b hg jb
     replace a:=bg_ a hg jb
     replace l:=bg_ l hg jb
     replace c:=bg_ c hg jb
     replace q:=M_ (blk_grown (bq_ q.1) hg (Kd.S_away jb.1 (fun _ hk=>hk.2.2.1)))
     replace X:=M_ (blk_grown (bq_ X.1) hg (Kd.S_away jb.1 (fun _ hk=>hk.2.2.2.1)))
     replace F:=M_ (hb)
     have Xc:=M_ (ho)
     clear jb d
     clear ho hb hg hat
     obtain⟨Yc,Zc,ad⟩:=Kd.S_slice Xc.1
     (first|subst ad|(obtain⟨rfl,rfl⟩:=si_ ad))
     refine ho_ hK (f3_ c.1 (e2_ q.1)) (fun A=>?_)
     refine p_ ja ?_
     refine l1_ 15 (b_ 16 0) ja (fun K hK=>?_)
     have oi:Ke.cell? ⟨y,2,none⟩=some (.slice L s.length M):=bx_ c.1 2
     have Xe:=blk_frozen c.1 2
     have Td:=bb.1
     have Ud:=lb.1
     have Vd:=Bb.1
     have Wd:=Hb.1
     have Xd:=ta.1
     have Yd:=Pa.1
     have Zd:=cb.1
     have ae:=Qa.1
     have be:=qc.1
     have ce:=na.1
     refine skip_ (w1:=?_) (by rfl) rfl ?_ ?_
     rotate_left
     ·
      go_simp
      rfl
     refine hK.out _ _ ?_
     clear hK K
     refine done_ (done_of ja.1 (by kernel_rfl)) ?_
     have Ye:=n2_ Pa
     have Ze:=n2_ Qa
     have af:=n2_ na
     obtain⟨bf,cf,df,ef,ff,gf⟩:=bc3_ c.1
     have jf:=n2_ Ab
     have kf:=n2_ sa
     obtain⟨lf,mf,nf,pf,qf,rf⟩:=bc3_ l.1
     try go_wp2
     refine bodyPost_ret (results_ct rfl _ _ ua 26 #[.int .i64 ea,.int .i64 (wrap64 (G+1)),.slice Yc Tc.length Zc] (0,0) _ rfl (bp_ l.1) Tryz.underlying26 rfl (by kernel_rfl)) rfl ?_
     exact⟨_,rr_,Kd.S_mono (sf_ ua (Kd.S_far (p:=⟨y,2,none⟩) (Kd.S_types (Kd.S_types Xc.1 c.1 (by decide)) l.1 (by decide)) (fun _ hk=>hk.1.2) (.slice Yc Tc.length Zc)) (fun _ hk=>hk.2)) (fun _ hk=>trivial),hs_ F.1⟩
def spec_l8Copy.l0:Nat→List S26→List S26→Int→Option ((List S26))
 | 0,_,_,_=>none
 | k+1,c,d,b=>if b<(c.length:Int) then (if 0≤b then ((spec_l7Copy.f k ((rd_T26 c b).f0) ((rd_T26 c b).f1) ((rd_T26 c b).f2)).bind fun a=>(if d.length<3518437208883 then (spec_l8Copy.l0 k c (d++[(⟨a.1,a.2.1,a.2.2⟩:S26)]) (wrap64 (b+1))) else (none))) else (none)) else (some d)
def spec_l8Copy.f (k:Nat) (l0:List S26):Option ((List S26)):=spec_l8Copy.l0 k l0 (([]:List S26)) 0
theorem spec_l8Copy.calls (k:Nat) (A0:Option Addr) (c0:Nat) (l0:List S26) (r:List S26) (w:World) (Z:Kd.C k26 w A0 l0.length l0) (aa:l0.length≤c0) (h:spec_l8Copy.f k l0=some r) :
  Calls Tryz.prog 87 #[.slice A0 l0.length c0] w fun e w'=>∃v0_:Value,e=.returned (v0_)∧Kd.R k26 26 w' w.heap.size (fun _=>True) v0_ r∧Below w.heap.size w w':=by
 have hu26:=Tryz.underlying26
 have ia:=M_ Z
 have Fa:=M_ aa
 clear Z aa
 have u:=M_ (Below.refl w.heap.size w)
 unfold spec_l8Copy.f at h
 have H:=h;clear h
 obtain⟨T,hy_⟩:∃y_:List S26,y_=(([]:List S26)):=⟨_,rfl⟩
 replace H:(spec_l8Copy.l0 k l0 T 0)=some r:=hm_
 have F:=M_ hy_;clear hy_
 have H':=M_ H
 clear H
 go_enter Tryz.func87,Tryz.ntmps87
 go_wp2_with (first|((with_reducible refine gd_ 6 rfl ?_);refine Kd.R_lit k26 _ 26 ?hg (N:=6) ?hd (xs:=([]:List S26)) (inner:=[]) (ok:=fun _=>True) (okp:=fun _=>True) ?hr ?hp (fun _ hk=>hk) trivial (Below.refl _ _) (Nat.le_refl _) (by simp) ?_;(case hd=>rfl);(case hg=>rfl);(case hr=>first|(go_simp;done)|(go_simp;rfl));(case hp=>exact(Reps.none _ _));intro Ba w2 G hb hg_ hnew_;clear hg_ hnew_;(first|rw[←F.1] at G|(simp only[Int.reduceToNat] at G;rw[←F.1] at G));have V:=rw_ G u;have ba:=st_ u hb;clear u;have u:=ba;clear ba;clear hb G))
 go_loopg [3,4] k (fun kq v3 v4 w'=>∃(x:List S26) (a:Int),v4=.int .i64 a∧Aside0 (spec_l8Copy.l0 kq l0 x a=some r)∧Aside0 (kq≤k)∧Aside0 (Kd.R k26 26 w' w.heap.size (fun _=>True) v3 x)∧Aside0 (Below w.heap.size w w'))
 case atStart=>exact⟨(T),(0),rs_,H',⟨Nat.le_refl _⟩,⟨rp_ V.1⟩,⟨hs_ u.1⟩⟩
 case round=>
  clear H'
  obtain⟨x,a,rfl,HA,ca,i,u⟩:=hrel
  cases gk with
  | zero=>exact absurd HA.1 (by simp[spec_l8Copy.l0])
  | succ k1=>
   have H:=HA.1
   clear HA
   simp only[spec_l8Copy.l0] at H
   replace H:=ie_ H;rcases H with⟨c4,H⟩|⟨c4,H⟩
   ·
    have ea:=decide_eq_true c4
    clear c4
    replace H:=id_ H;obtain⟨Ca,H⟩:=H
    replace H:=bi_ H;obtain⟨⟨n,q,j⟩,A6,H⟩:=H;(try dsimp only at H)
    replace H:=im_ H;obtain⟨fa,H⟩:=H
    obtain⟨U,hy_⟩:∃y_:List S26,y_=(x++[(⟨n,q,j⟩:S26)]):=⟨_,rfl⟩
    replace H:(spec_l8Copy.l0 k1 l0 U (wrap64 (a+1)))=some r:=hm_
    have W:=M_ hy_;clear hy_
    have H':=M_ H
    clear H
    obtain⟨I,J⟩:0≤(a:Int)∧a<(l0.length:Int):=pq_
    obtain⟨la,O,P,ga,m,s,y,z,A⟩:=at_T26 ia.1 a I J
    cases ga
    replace m:=c2_ u m s;clear s;obtain⟨m,s⟩:=m
    replace y:=cl_ u.1 y
    have K:=M_ A
    have L:=M_ z
    clear A z
    replace I:=eq_true I;replace J:=eq_true J
    go_wp2_with (first|((with_reducible refine gate_callee (f:=59) rfl ?_);refine gl_ (some 17) Tryz.func59 #[.agg #[.int .i64 ((rd_T26 l0 a).f0),.int .i64 ((rd_T26 l0 a).f1),.slice O ((rd_T26 l0 a).f2).length P]] ?_;(with_reducible refine(spec_l7Copy.calls k1 ((rd_T26 l0 a).f0) ((rd_T26 l0 a).f1) _ _ ((rd_T26 l0 a).f2) n q j _ ?_ ?_ A6.1).mono ?_);exact cp_ ((Kd.C_below K.1 u.1));exact L.1;rintro e w8 ⟨Da,rfl,X,hb⟩;refine⟨_,rfl,?_⟩;obtain⟨E,M⟩:=Kd.S_name X;replace i:=ru_ M (rp_ i.1) hb;have l:=sg_ M X u;replace u:=st_ u hb;(try clear hb X))|((with_reducible refine gd_ 5 rfl ?_);refine bV_ 5 #[.int .i64 0,.int .i64 0,.slice none 0 0] 26 ?_;intro c hg w9 d hb;replace i:=M_ (Kd.R_below (Kd.R_elderB (rp_ i.1) c (Nat.le_of_eq hg.symm)) hb);replace l:=sb_ l hb;have ma:=gq_ hg u;replace u:=st_ u hb;clear hb hg;obtain⟨na,oa,pa,qa,ra,sa⟩:=bc3_ d.1;obtain⟨B,D,ha⟩:=Kd.S_slice l.1;subst ha)|((with_reducible refine gate_store (t:=26) (p:=5) rfl ?_);refine store_event (t:=26) (p:=5) (v:=?vo_w12) (w1:=(((w9.setCell ⟨c,0,none⟩ (.int .i64 n)).setCell ⟨c,1,none⟩ (.int .i64 q)).setCell ⟨c,2,none⟩ (.slice B j.length D))) ?hg ?ho ?hn ?hr ?_;(case ho=>rfl);(case hg=>rfl);(case hn=>rfl);(case hr=>first|(go_simp;done)|(go_simp;rfl));intro Q hw;replace i:Aside0 (Kd.R k26 26 Q w.heap.size (fun k_=>k_<E∧k_≠c) u3 x):=⟨(by rw[hw];exact(Kd.R_mono (rf_ c i.1 (fun _ hk=>hk.2)) (fun _ hk=>⟨hk.1.2,hk.2⟩)))⟩;replace l:Aside0 (Kd.S k80 80 Q w.heap.size (fun k_=>E≤k_) (.slice B j.length D) j):=⟨(by rw[hw];exact(Kd.S_mono (sy_ l.1 d.1) (fun _ hk=>hk.2)))⟩;replace d:Aside0 (Q.heap[c]?=some (.cells #[.int .i64 n,.int .i64 q,.slice B j.length D] 26 (0,0))):=⟨(by rw[hw];exact(bp_ d.1))⟩;replace u:Aside0 (Below w.heap.size w Q):=⟨(by rw[hw];exact(hs_ u.1))⟩;clear hw;obtain⟨ta,ua,va,wa,xa,ya⟩:=bc3_ d.1)|((with_reducible refine gate_builtin (b:=.append) (xs:=#[.tmp 18,.tmp 20]) rfl ?_);at_builtin;refine Kd.R_append k26 (w0:=w) w.heap.size rfl (.tmp 18) (.tmp 20) 54 26 (.agg #[(.int .i64 0),(.int .i64 0),(.slice none 0 0)]) 40 rfl Tryz.underlying54 info26 rfl (by decide) (by omega) u3 x (⟨n,q,j⟩:S26) [.int .i64 n,.int .i64 q,.slice B j.length D] (fun k_=>k_≠c) (fun k_=>((fun k_=>k_≠c)) k_∧some k_≠(u3:Value).ownBlock) rfl rfl ?aP (fun _ hk=>hk) ?aF ?aO ?aB ?aS ?aL ?_;(case aP=>exact k26_mkM _ _ _ (⟨n,q,j⟩:S26) (Kd.S_mono (Kd.S_types (Kd.S_apart' (l.1) (Kd.R_typed i.1) (by decide)) d.1 (by decide)) (fun k_ hk=>⟨hk.2,hk.1.2⟩)));(case aB=>exact(hs_ u.1));(case aF=>exact(fun k_ hk=>Kd.freshB (g:=c) (o:=.cells #[.int .i64 n,.int .i64 q,.slice B j.length D] 26 (0,0)) (pb_ d.1) k_ hk));(case aO=>exact(Kd.R_mono (rp_ i.1) (fun _ hk=>hk.2)));(case aS=>exact(below_size (hs_ u.1)));(case aL=>have:=fa.1;omega);intro Ea Ka ho hb hg hat;rw[←W.1] at ho;replace d:=M_ (blk_grown (bq_ d.1) hg (Kd.R_away i.1 (fun _ hk=>hk.2)));replace u:=M_ (hb);have Y:=M_ (ho);clear i l;clear ho hb hg hat))
    go_roundg k1
    case measure=>have:=ca.1;omega
    case rel=>exact⟨(U),(wrap64 (a+1)),rs_,H',⟨by have:=ca.1;omega⟩,⟨Kd.R_mono (rp_ Y.1) (fun _ hk=>trivial)⟩,⟨hs_ u.1⟩⟩
   have ea:decide (a<(l0.length:Int))=false:=decide_eq_false c4
   clear c4
   obtain rfl:=Option.some.inj H
   go_wp2
   go_ret
   exact⟨_,rr_,rp_ i.1,hs_ u.1⟩
def spec_PutAlarm.f (k:Nat) (e:List S26) (d:List S99) (g:Int) (h:Int) (i:ByteArray):Option ((List S26)×Bool):=(spec_l8Copy.f k e).bind fun c=>(if (e.length:Int)=0 then (some (c,false)) else ((spec_HomeOf.f k e d).bind fun a=>(if 0≤a then (if a<(e.length:Int) then ((spec_PutIn.f k ((rd_T26 e a).f0) ((rd_T26 e a).f1) ((rd_T26 e a).f2) d g h i).bind fun b=>(if a<(c.length:Int) then (some ((c.set (a:Int).toNat (⟨b.1,b.2.1,b.2.2.1⟩:S26)),b.2.2.2)) else (none))) else (none)) else (none))))
def spec_PutAlarm.T5:Bool×List (List Nat×List Nat):=(true,[([],[]),([],[]),([0,1],[0,1]),([2],[2]),([],[]),([3,4],[3,4]),([5],[5]),([6],[6]),([6],[6]),([],[]),([9,7,5,0,1,2,3,4,5,6,7,9],[7,9]),([8,10,0,1,2,3,4,5,6,7,8,9,10],[8])])
def spec_PutAlarm.B5:List Nat:=[0,0,3,7,0,31,63,127,127,0,767,2047]
theorem spec_PutAlarm.tab5:rtab .any (opsOf Tryz.f37 5)=spec_PutAlarm.T5:=by kernel_rfl
theorem spec_PutAlarm.bits5:waitsOk spec_PutAlarm.T5.2 spec_PutAlarm.B5=true:=by kernel_rfl
theorem spec_PutAlarm.calls (k:Nat) (A0:Option Addr) (c0:Nat) (G:List S26) (O:Option Addr) (P:Nat) (z:List S99) (I:Int) (J:Int) (L:ByteArray) (r1:List S26) (r2:Bool) (w:World) (Ra:Kd.C k26 w A0 G.length G) (Sa:G.length≤c0) (sa:Kd.C k99 w O z.length z) (ta:z.length≤P) (h:spec_PutAlarm.f k G z I J L=some (r1,r2)) :
  Calls Tryz.prog 37 #[.slice A0 G.length c0,.agg #[.slice O z.length P,.int .i64 I,.int .i64 J,.string L]] w fun e w'=>∃v0_:Value,e=.returned (.tuple #[v0_,.bool r2])∧Kd.R k26 26 w' w.heap.size (fun _=>True) v0_ r1∧Below w.heap.size w w':=by
 have hu29:=Tryz.underlying29
 have hu26:=Tryz.underlying26
 have za:=M_ Ra
 have Ja:=M_ Sa
 clear Ra Sa
 have na:=M_ sa
 have oa:=M_ ta
 clear sa ta
 have x:=M_ (Below.refl w.heap.size w)
 unfold spec_PutAlarm.f at h
 have H:=h;clear h
 replace H:=bi_ H;obtain⟨D,A3,H⟩:=H
 have AHz_:=M_ H
 clear H
 go_enter Tryz.func37,Tryz.ntmps37
 go_wp2_with (first|(((with_reducible refine gd_ 3 rfl ?_);refine bV_ 3 #[.slice O z.length P,.int .i64 I,.int .i64 J,.string L] 29 ?_;intro d hg w5 a hb;have xb:=gq_ hg x;replace x:=st_ x hb;clear hb hg);refine Aside0.out ?_))
 have H:=AHz_.1
 clear AHz_
 replace H:=ie_ H;rcases H with⟨c4,H⟩|⟨c4,H⟩
 ·
  have Ta:((G.length:Int)==0)=true:=beq_iff_eq.mpr c4
  have Ua:((G.length:Int) !=0)=false:=bne_eq_false_iff_eq.mpr c4
  clear c4
  simp only[Option.some.injEq,Prod.mk.injEq] at H
  obtain⟨rfl,rfl⟩:=H
  refine⟨?_⟩
  go_wp2_with (first|((with_reducible refine gate_callee (f:=87) rfl ?_);refine gl_ (some 11) Tryz.func87 #[.slice A0 G.length c0] ?_;(with_reducible refine(spec_l8Copy.calls k _ _ G D _ ?_ ?_ A3.1).mono ?_);exact cp_ ((Kd.C_below za.1 x.1));exact Ja.1;rintro e w6 ⟨ua,rfl,V,hb⟩;refine⟨_,rfl,?_⟩;obtain⟨aa,pa⟩:=Kd.R_name V;have c:=M_ (Kd.R_lower (Kd.R_newB (Kd.R_gez pa V) (pb_ a.1)) (below_size (hs_ x.1)));obtain⟨a,x⟩:=u2_ hb a x;(try clear hb V)))
  go_ret2
  exact⟨_,rr_,Kd.R_mono (rp_ c.1) (fun _ hk=>trivial),hs_ x.1⟩
 have Ta:((G.length:Int)==0)=false:=beq_eq_false_iff_ne.mpr c4
 have Ua:((G.length:Int) !=0)=true:=bne_iff_ne.mpr c4
 have Xb:¬(G=[]):=fun h_=>c4 (by rw[h_];rfl)
 replace H:=bi_ H;obtain⟨b,A7,H⟩:=H
 replace H:=i2_ H;obtain⟨Yb,Zb,H⟩:=H
 replace H:=bi_ H;obtain⟨⟨M,N,Q,ea⟩,Va,H⟩:=H;(try dsimp only at H)
 replace H:=id_ H;obtain⟨yb,H⟩:=H
 obtain⟨Ea,hy_⟩:∃y_:List S26,y_=(D.set (b:Int).toNat (⟨M,N,Q⟩:S26)):=⟨_,rfl⟩
 replace H:(some (Ea,ea))=some (r1,r2):=hm_
 have La:=M_ hy_;clear hy_
 simp only[Option.some.injEq,Prod.mk.injEq] at H
 obtain⟨rfl,rfl⟩:=H
 refine⟨?_⟩
 try go_wp2_with (first|((with_reducible refine gate_callee (f:=87) rfl ?_);refine gl_ (some 11) Tryz.func87 #[.slice A0 G.length c0] ?_;(with_reducible refine(spec_l8Copy.calls k _ _ G D _ ?_ ?_ A3.1).mono ?_);exact cp_ ((Kd.C_below za.1 x.1));exact Ja.1;rintro e gc ⟨ua,rfl,V,hb⟩;refine⟨_,rfl,?_⟩;obtain⟨aa,pa⟩:=Kd.R_name V;have c:=M_ (Kd.R_lower (Kd.R_newB (Kd.R_gez pa V) (pb_ a.1)) (below_size (hs_ x.1)));obtain⟨a,x⟩:=u2_ hb a x;(try clear hb V);obtain⟨zb,Ab,Bb,Cb,Db,Eb,Fb,Gb⟩:=bc4_ a.1)|((with_reducible refine gate_callee (f:=48) rfl ?_);refine gl_ (some 19) Tryz.func48 #[.slice A0 G.length c0,.slice O z.length P] ?_;(with_reducible refine(spec_HomeOf.calls k _ _ G _ _ z b _ ?_ ?_ ?_ ?_ A7.1).mono ?_);exact cp_ ((Kd.C_below za.1 x.1));exact Ja.1;exact cp_ ((Kd.C_below na.1 x.1));exact oa.1;rintro e Hb ⟨rfl,hb⟩;refine⟨_,rfl,?_⟩;obtain⟨c,a,x⟩:=u3_ hb c a x;(try clear hb)))
 obtain⟨c,a,x⟩:=y3_ c a x
 obtain⟨va,wa⟩:0≤(b:Int)∧b<(G.length:Int):=pq_
 obtain⟨F,W,X,Wa,E,T,Y,ia,ja⟩:=at_T26 za.1 b va wa
 have g:=Y
 have l:=T
 have m:=E
 cases Wa
 replace E:=c2_ x E T;clear T;obtain⟨E,T⟩:=E
 replace Y:=cl_ x.1 Y
 have ba:=M_ ja
 have ka:=M_ ia
 clear ja ia
 replace va:=eq_true va;replace wa:=eq_true wa
 refine start_ (n:=12) (S:=fun w'=>c_ w' d 0 (.slice O z.length P)∧c_ w' d 1 (.int .i64 I)∧c_ w' d 2 (.int .i64 J)∧c_ w' d 3 (.string L)∧w'.cell? (F.add ((b).toNat*3))=some (.int .i64 ((rd_T26 G b).f0))∧d_ w' (F.add ((b).toNat*3)) 1 (.int .i64 ((rd_T26 G b).f1))∧d_ w' (F.add ((b).toNat*3)) 2 (.slice W ((rd_T26 G b).f2).length X)) (ds:=[]) (b_ 0 12) (by kernel_rfl) rfl rfl ⟨bx_ a.1 0,bx_ a.1 1,bx_ a.1 2,bx_ a.1 3,((x.1.cell (World.block_lt_of_cell? w _ m)).trans m),((x.1.cell (World.block_lt_of_cell? w _ l)).trans l),((x.1.cell (World.block_lt_of_cell? w _ g)).trans g)⟩ (fun r=>?_);refine with_tabW spec_PutAlarm.tab5 spec_PutAlarm.bits5 (fun Z Ib=>?_)
 generalize Hb.drew=hc at c a x ba E T Y r ⊢
 iterate 3 refine p_ Z ?_
 iterate 2 refine t0_ Z Ib r ?_
 refine join_ (σ:=Value×Nat×Nat) 2 (b_ 10 2) (fun s_=>[(26,.tuple #[.agg #[.int .i64 M,.int .i64 N,s_.1],.bool ea]),(8,.pointer (some ⟨s_.2.2,0,none⟩)),(20,.tuple #[.agg #[.int .i64 M,.int .i64 N,s_.1],.bool ea]),(27,.agg #[.int .i64 M,.int .i64 N,s_.1]),(28,.bool ea)]) (fun s_ w'=>(c_ w' d 0 (.slice O z.length P)∧c_ w' d 1 (.int .i64 I)∧c_ w' d 2 (.int .i64 J)∧c_ w' d 3 (.string L)∧w'.cell? (F.add ((b).toNat*3))=some (.int .i64 ((rd_T26 G b).f0))∧d_ w' (F.add ((b).toNat*3)) 1 (.int .i64 ((rd_T26 G b).f1))∧d_ w' (F.add ((b).toNat*3)) 2 (.slice W ((rd_T26 G b).f2).length X))∧(Kd.R k26 26 w' w.heap.size (fun k_=>k_≠d∧k_≠s_.2.2∧aa≤k_∧k_<s_.2.1) ua D)∧(Kd.S k80 80 w' w.heap.size (fun k_=>k_≠d∧s_.2.1≤k_) s_.1 Q)∧(w'.heap[d]?=some (.cells #[.slice O z.length P,.int .i64 I,.int .i64 J,.string L] 29 (0,0)))∧(w'.heap[s_.2.2]?=some (.cells #[.int .i64 0,.int .i64 0,.slice none 0 0] 26 (0,0)))∧(w.heap.size≤s_.2.2)∧(w.heap.size≤s_.2.2)∧(d≠s_.2.2)∧(s_.2.2≠d)∧(Below w.heap.size w w')) ?_ ?_
 rotate_left
 ·
  intro xa
  refine two_ (i:=5) (j:=9) (Ni:=some 26) (Nj:=some 8) (b_ 6 6) (m_ 12 543) rfl rfl rfl rfl (two_of Z.1 (by kernel_rfl)) (by decide) (by decide) (fun K hK=>?_) (fun K hK=>?_)
  ·
   skip
   refine gs_ Tryz.func9 #[.agg #[.int .i64 ((rd_T26 G b).f0),.int .i64 ((rd_T26 G b).f1),.slice W ((rd_T26 G b).f2).length X],.agg #[.slice O z.length P,.int .i64 I,.int .i64 J,.string L]] ?_
   with_reducible refine(spec_PutIn.calls k ((rd_T26 G b).f0) ((rd_T26 G b).f1) _ _ ((rd_T26 G b).f2) _ _ z I J L M N Q ea _ ?_ ?_ ?_ ?_ Va.1).mono ?_
   exact cp_ ((Kd.C_below ba.1 x.1))
   exact ka.1
   exact cp_ ((Kd.C_below na.1 x.1))
   exact oa.1
   rintro e Jb ⟨la,rfl,V,hb⟩
   refine⟨_,rfl,?_⟩
   obtain⟨B,ca⟩:=Kd.S_name V
   replace c:=ru_ ca (rp_ c.1) hb
   have A:=M_ (Kd.S_lower (Kd.S_newB (Kd.S_gez ca V) (pb_ a.1)) (below_size (hs_ x.1)))
   obtain⟨a,x⟩:=u2_ hb a x
   (try clear hb V)
   refine ho_ hK ⟨bx_ a.1 0,bx_ a.1 1,bx_ a.1 2,bx_ a.1 3,((x.1.cell (World.block_lt_of_cell? w _ m)).trans m),((x.1.cell (World.block_lt_of_cell? w _ l)).trans l),((x.1.cell (World.block_lt_of_cell? w _ g)).trans g)⟩ (fun r=>?_)
   iterate 3 refine p_ Z ?_
   refine o1_ 9 (b_ 10 2) Z (fun K hK=>?_)
   refine bs1_ 8 #[.int .i64 0,.int .i64 0,.slice none 0 0] 26 ?_
   intro q hg Kb ma hb
   replace c:=M_ (Kd.R_below (Kd.R_elderB (rp_ c.1) q (Nat.le_of_eq hg.symm)) hb)
   replace A:=sb_ A hb
   have o:=M_ (ma)
   have y:=gq_ hg x
   have fa:=gq_ hg x
   replace x:=st_ x hb
   have u:=nk_ a hg
   have s:=Ne_.mk (ng_ a.1 hg)
   replace a:=bk2_ a hb
   clear hb ma hg
   refine ho_ hK ⟨bx_ a.1 0,bx_ a.1 1,bx_ a.1 2,bx_ a.1 3,((x.1.cell (World.block_lt_of_cell? w _ m)).trans m),((x.1.cell (World.block_lt_of_cell? w _ l)).trans l),((x.1.cell (World.block_lt_of_cell? w _ g)).trans g)⟩ (fun r=>?_)
   exact norm_ (by simp only[putAll,fr_]) (xa (la,B,q) _ ⟨r,(Kd.R_mono (rp_ c.1) (fun _ hk=>⟨hk.1.1.2,⟨hk.2,⟨hk.1.1.1.2,hk.1.2⟩⟩⟩)),(Kd.S_mono (sp_ A.1) (fun _ hk=>⟨hk.2,hk.1.2⟩)),(pb_ a.1),(pb_ o.1),y.1,fa.1,u.1,s.1,(hs_ x.1)⟩)
  skip
  refine bs1_ 8 #[.int .i64 0,.int .i64 0,.slice none 0 0] 26 ?_
  intro q hg Jb ma hb
  replace c:=M_ (Kd.R_below (Kd.R_elderB (rp_ c.1) q (Nat.le_of_eq hg.symm)) hb)
  have o:=M_ (ma)
  have y:=gq_ hg x
  have fa:=gq_ hg x
  replace x:=st_ x hb
  have u:=nk_ a hg
  have s:=Ne_.mk (ng_ a.1 hg)
  replace a:=bk2_ a hb
  clear hb ma hg
  refine ho_ hK ⟨bx_ a.1 0,bx_ a.1 1,bx_ a.1 2,bx_ a.1 3,((x.1.cell (World.block_lt_of_cell? w _ m)).trans m),((x.1.cell (World.block_lt_of_cell? w _ l)).trans l),((x.1.cell (World.block_lt_of_cell? w _ g)).trans g)⟩ (fun r=>?_)
  refine o1_ 5 (m_ 12 575) Z (fun K hK=>?_)
  refine gs_ Tryz.func9 #[.agg #[.int .i64 ((rd_T26 G b).f0),.int .i64 ((rd_T26 G b).f1),.slice W ((rd_T26 G b).f2).length X],.agg #[.slice O z.length P,.int .i64 I,.int .i64 J,.string L]] ?_
  with_reducible refine(spec_PutIn.calls k ((rd_T26 G b).f0) ((rd_T26 G b).f1) _ _ ((rd_T26 G b).f2) _ _ z I J L M N Q ea _ ?_ ?_ ?_ ?_ Va.1).mono ?_
  exact cp_ ((Kd.C_below ba.1 x.1))
  exact ka.1
  exact cp_ ((Kd.C_below na.1 x.1))
  exact oa.1
  rintro e Kb ⟨la,rfl,V,hb⟩
  refine⟨_,rfl,?_⟩
  obtain⟨B,ca⟩:=Kd.S_name V
  replace c:=ru_ ca (rp_ c.1) hb
  have A:=M_ (Kd.S_lower (Kd.S_newB (Kd.S_gez ca V) (pb_ a.1)) (below_size (hs_ x.1)))
  obtain⟨a,o,x⟩:=u3_ hb a o x
  (try clear hb V)
  refine ho_ hK ⟨bx_ a.1 0,bx_ a.1 1,bx_ a.1 2,bx_ a.1 3,((x.1.cell (World.block_lt_of_cell? w _ m)).trans m),((x.1.cell (World.block_lt_of_cell? w _ l)).trans l),((x.1.cell (World.block_lt_of_cell? w _ g)).trans g)⟩ (fun r=>?_)
  refine qw_ 6 (m_ 12 639) Z ?_
  refine qw_ 7 (m_ 12 767) Z ?_
  refine qw_ 8 (b_ 10 2) Z ?_
  exact norm_ (by simp only[putAll,fr_]) (xa (la,B,q) _ ⟨r,(Kd.R_mono (rp_ c.1) (fun _ hk=>⟨hk.1.1.2,⟨hk.1.2,⟨hk.1.1.1.2,hk.2⟩⟩⟩)),(Kd.S_mono (sp_ A.1) (fun _ hk=>⟨hk.2,hk.1.2⟩)),(pb_ a.1),(pb_ o.1),y.1,fa.1,u.1,s.1,(hs_ x.1)⟩)
 rintro ⟨la,B,q⟩ U ⟨Lb,Xa,Ya,Za,ab,bb,cb,db,eb,fb⟩
 replace c:Aside0 (Kd.R k26 26 U w.heap.size (fun k_=>k_≠d∧k_≠q∧aa≤k_∧k_<B) ua D):=⟨Xa⟩
 have A:Aside0 (Kd.S k80 80 U w.heap.size (fun k_=>k_≠d∧B≤k_) la Q):=⟨Ya⟩
 replace a:Aside0 (U.heap[d]?=some (.cells #[.slice O z.length P,.int .i64 I,.int .i64 J,.string L] 29 (0,0))):=⟨Za⟩
 have o:Aside0 (U.heap[q]?=some (.cells #[.int .i64 0,.int .i64 0,.slice none 0 0] 26 (0,0))):=⟨ab⟩
 have y:=Ge_.mk bb
 have fa:=Ge_.mk cb
 have u:=Ne_.mk db
 have s:=Ne_.mk eb
 replace x:Aside0 (Below w.heap.size w U):=⟨fb⟩
 clear Xa Ya Za ab bb cb db eb fb
 have r:c_ U d 0 (.slice O z.length P)∧c_ U d 1 (.int .i64 I)∧c_ U d 2 (.int .i64 J)∧c_ U d 3 (.string L)∧U.cell? (F.add ((b).toNat*3))=some (.int .i64 ((rd_T26 G b).f0))∧d_ U (F.add ((b).toNat*3)) 1 (.int .i64 ((rd_T26 G b).f1))∧d_ U (F.add ((b).toNat*3)) 2 (.slice W ((rd_T26 G b).f2).length X):=Lb
 obtain⟨qa,ra,Fa⟩:=Kd.S_slice A.1
 (first|subst Fa|(obtain⟨rfl,rfl⟩:=si_ Fa))
 refine nm_ ?_
 refine o1_ 10 (b_ 11 1) Z (fun K hK=>?_)
 have ac:U.cell? ⟨q,0,none⟩=some (.int .i64 0):=bx_ o.1 0
 have Mb:=blk_frozen o.1 0
 have gb:=u.1
 have ib:=s.1
 have bc:U.cell? ⟨q,1,none⟩=some (.int .i64 0):=bx_ o.1 1
 have Nb:=blk_frozen o.1 1
 have jb:=u.1
 have kb:=s.1
 have cc:U.cell? ⟨q,2,none⟩=some (.slice none 0 0):=bx_ o.1 2
 have Ob:=blk_frozen o.1 2
 have lb:=u.1
 have mb:=s.1
 refine skip_ (w1:=?_) (by rfl) rfl ?_ ?_
 rotate_left
 ·
  go_simp
  rfl
 refine hK.out _ _ ⟨(cg_ (r.1)),(cg_ (r.2.1)),(cg_ (r.2.2.1)),(cg_ (r.2.2.2.1)),(ce_ m y.1 ((ce_ m y.1 ((ce_ m y.1 (r.2.2.2.2.1)))))),(ce_ l y.1 ((ce_ l y.1 ((ce_ l y.1 (r.2.2.2.2.2.1)))))),(ce_ g y.1 ((ce_ g y.1 ((ce_ g y.1 (r.2.2.2.2.2.2))))))⟩ (fun r=>?_)
 clear hK K
 refine p_ Z ?_
 refine done_ (done_of Z.1 (by kernel_rfl)) ?_
 generalize hw_:(((U.setCell ⟨q,0,none⟩ (.int .i64 M)).setCell ⟨q,1,none⟩ (.int .i64 N)).setCell ⟨q,2,none⟩ (.slice qa Q.length ra))=ga
 have nb:=wr_ hw_ (Kd.R_mono (ok':=(fun k_=>k_≠d∧k_≠q∧aa≤k_∧k_<B)) (rf_ q c.1 (fun _ hk=>hk.2.1)) (fun _ hk=>⟨hk.1,⟨hk.2.1,⟨hk.2.2.1,hk.2.2.2⟩⟩⟩))
 have ob:=ws_ hw_ (Kd.S_mono (ok':=(fun k_=>k_≠d∧B≤k_)) (sy_ A.1 o.1) (fun _ hk=>⟨hk.1,hk.2⟩))
 replace a:=wq_ hw_ a
 replace o:=wp_ hw_ #[.int .i64 M,.int .i64 N,.slice qa Q.length ra] o
 replace x:=wb_ hw_ x
 clear hw_
 (try clear c A)
 have c:=nb
 have A:=ob
 clear nb ob
 have Pb:=n2_ s
 obtain⟨Qb,Rb,Sb,Tb,Ub,Vb⟩:=bc3_ o.1
 obtain⟨Ma,Na⟩:0≤(b:Int)∧(b:Int)<((D.length:Int):Int):=pq_
 obtain⟨go12,Ga,Ha,Ia,gl12,cl12,HG12⟩:=Kd.R_form c.1 (by omega)
 (first|cases Ha|(injection Ha with ea_ en_ ec_;(first|subst ea_|(injection ea_ with ea_;subst ea_));subst ec_;clear en_))
 have GB12:=M_ Ia
 have GG12:=M_ HG12
 clear Ia gl12 HG12
 obtain⟨dc,hcl12,hM12,ha,hfr12⟩:=Kd.R_elem c.1 z26 (b:Int) Ma Na
 obtain⟨Aa,rfl,pb⟩:=k26_openM hM12
 have qb:ga.cell? ⟨go12,(b:Int).toNat*3,none⟩=some (.int .i64 ((rd_T26 D b).f0)):=ha 0 _ rfl
 have rb:ga.cell? ⟨go12,(b:Int).toNat*3+1,none⟩=some (.int .i64 ((rd_T26 D b).f1)):=ha 1 _ rfl
 have sb:ga.cell? ⟨go12,(b:Int).toNat*3+2,none⟩=some (Aa):=ha 2 _ rfl
 have hf12_0:ga.frozen? ⟨go12,(b:Int).toNat*3,none⟩=false:=hfr12 0
 have hf12_1:ga.frozen? ⟨go12,(b:Int).toNat*3+1,none⟩=false:=hfr12 1
 have hf12_2:ga.frozen? ⟨go12,(b:Int).toNat*3+2,none⟩=false:=hfr12 2
 clear hcl12 ha hfr12 hM12
 replace Ma:=eq_true Ma;replace Na:=eq_true Na
 have HX28:=M_ (show Kd.R k26 26 ga w.heap.size (fun k_=>k_≠d∧k_≠q) (.slice (some ⟨go12,0,none⟩) D.length Ga) D from (Kd.R_mono (rp_ c.1) (fun _ hk=>⟨hk.1,hk.2.1⟩)))
 obtain⟨ec,hcl28,hM28,da,hfr28⟩:=Kd.R_elem HX28.out z26 (b:Int) (of_decide_eq_true (by with_reducible assumption)) (by have h_:(b:Int)<((D.length:Int):Int):=of_decide_eq_true (by with_reducible assumption);first|exact h_|(have e_:=(Kd.R_reads' c.1).1;omega)|simpa using h_)
 obtain⟨tb,rfl,ub⟩:=k26_openM hM28
 have HP28:=Kd.R_seg HX28.out (b:Int) (of_decide_eq_true (by with_reducible assumption)) (by have h_:(b:Int)<((D.length:Int):Int):=of_decide_eq_true (by with_reducible assumption);first|exact h_|(have e_:=(Kd.R_reads' c.1).1;omega)|simpa using h_) (seg:=[.int .i64 M,.int .i64 N,.slice qa Q.length ra]) (j:=0) hcl28 da (show 3≤3 from by decide) (x':=(⟨M,N,Q⟩:S26)) (k26_mkM _ _ _ (⟨M,N,Q⟩:S26) (Kd.S_mono (Kd.S_types (Kd.S_apart' (A.1) (Kd.R_typed c.1) (by decide)) o.1 (by decide)) (fun k_ hk=>⟨⟨hk.1.1.1,hk.2⟩,fun e_=>(hk.1.2) (by rw[e_];rfl)⟩))) (fun _ hk=>hk)
 have Ba:=da 0 _ rfl
 (try simp only[show (k26).sz=3 from rfl,Nat.mul_one,Nat.add_zero] at Ba)
 have hf28_0:=hfr28 0
 (try simp only[show (k26).sz=3 from rfl,Nat.mul_one,Nat.add_zero] at hf28_0)
 have Ca:=da 1 _ rfl
 (try simp only[show (k26).sz=3 from rfl,Nat.mul_one,Nat.add_zero] at Ca)
 have hf28_1:=hfr28 1
 (try simp only[show (k26).sz=3 from rfl,Nat.mul_one,Nat.add_zero] at hf28_1)
 have Da:=da 2 _ rfl
 (try simp only[show (k26).sz=3 from rfl,Nat.mul_one,Nat.add_zero] at Da)
 have hf28_2:=hfr28 2
 (try simp only[show (k26).sz=3 from rfl,Nat.mul_one,Nat.add_zero] at hf28_2)
 clear hcl28 da hfr28 hM28
 try go_wp2_with (first|((with_reducible refine gate_store (t:=26) (p:=32) rfl ?_);refine store_event (t:=26) (p:=32) (v:=?vo_w29) (w1:=(((ga.setCell ⟨go12,(b:Int).toNat*3,none⟩ (.int .i64 M)).setCell ⟨go12,(b:Int).toNat*3+1,none⟩ (.int .i64 N)).setCell ⟨go12,(b:Int).toNat*3+2,none⟩ (.slice qa Q.length ra))) ?hg ?ho ?hn ?hr ?_;(case ho=>rfl);(case hg=>rfl);(case hn=>rfl);(case hr=>first|(go_simp;done)|(go_simp;rfl));intro Oa hw;have hg:ga.grownBy Oa (some go12):=(by rw[hw];exact HP28.2);have hp_:Kd.R k26 26 Oa w.heap.size (fun k_=>k_≠d∧k_≠q) (.slice (some ⟨go12,0,none⟩) D.length Ga) Ea:=(by rw[hw,La.1];exact HP28.1);clear HP28;replace a:=M_ (blk_grown (bq_ a.1) hg (Kd.R_ne c.1 a.1 (by decide)));replace o:=M_ (blk_grown (bq_ o.1) hg (Kd.R_away c.1 (fun _ hk=>hk.2.1)));replace c:=M_ (hp_);replace x:=M_ ((by rw[hw];exact below_set (below_set (below_set (x.1) GB12.out) GB12.out) GB12.out:Below w.heap.size w Oa));clear A;clear hg hw hp_))
 go_ret2
 exact⟨_,rr_,Kd.R_mono (rp_ c.1) (fun _ hk=>trivial),hs_ x.1⟩
def spec_StoreNew.l0:Nat→Int→List S26→Option ((List S26))
 | 0,_,_=>none
 | k+1,b,a=>if (a.length:Int)<b then (if b≤3 then (if a.length<3518437208883 then (spec_StoreNew.l0 k b (a++[(⟨(-1),0,([]:List S80)⟩:S26)])) else (none)) else (some a)) else (some a)
def spec_StoreNew.f (k:Nat) (a:Int):Option ((List S26)):=spec_StoreNew.l0 k a (([(⟨(-1),0,([]:List S80)⟩:S26)]:List S26))
theorem spec_StoreNew.calls (k:Nat) (m:Int) (r:List S26) (w:World) (h:spec_StoreNew.f k m=some r) :
  Calls Tryz.prog 49 #[.int .i64 m] w fun e w'=>∃v0_:Value,e=.returned (v0_)∧Kd.R k26 26 w' w.heap.size (fun _=>True) v0_ r∧Below w.heap.size w w':=by
 have hu26:=Tryz.underlying26
 have d:=M_ (Below.refl w.heap.size w)
 unfold spec_StoreNew.f at h
 have H:=h;clear h
 obtain⟨j,hy_⟩:∃y_:List S26,y_=(([(⟨(-1),0,([]:List S80)⟩:S26)]:List S26)):=⟨_,rfl⟩
 replace H:(spec_StoreNew.l0 k m j)=some r:=hm_
 have g:=M_ hy_;clear hy_
 have H':=M_ H
 clear H
 go_enter Tryz.func49,Tryz.ntmps49
 go_wp2_with (first|((with_reducible refine gd_ 5 rfl ?_);refine Kd.R_lit k26 _ 26 ?hg (N:=5) ?hd (xs:=([(⟨(-1),0,([]:List S80)⟩:S26)]:List S26)) (inner:=[.int .i64 (-1),.int .i64 0,.slice none 0 0]) (ok:=fun _=>True) (okp:=fun _=>True) ?hr ?hp (fun _ hk=>hk) trivial (Below.refl _ _) (Nat.le_refl _) (by simp) ?_;(case hd=>rfl);(case hg=>rfl);(case hr=>first|(go_simp;done)|(go_simp;rfl));(case hp=>exact(Reps.c3 (show Kd.M k26 _ _ _ (⟨(-1),0,([]:List S80)⟩:S26) [.int .i64 (-1),.int .i64 0,.slice none 0 0] from (k26_mkM _ _ _ (⟨(-1),0,([]:List S80)⟩:S26) (Kd.S_nil _ _ _ _ _))) (Reps.none _ _)));intro F Q i hb hg_ hnew_;clear hg_ hnew_;(first|rw[←g.1] at i|(simp only[Int.reduceToNat] at i;rw[←g.1] at i));have n:=rw_ i d;have q:=st_ d hb;clear d;have d:=q;clear q;clear hb i))
 go_loopg [3] k (fun kq L w'=>∃(a:List S26),Aside0 (spec_StoreNew.l0 kq m a=some r)∧Aside0 (kq≤k)∧Aside0 (Kd.R k26 26 w' w.heap.size (fun _=>True) L a)∧Aside0 (Below w.heap.size w w'))
 case atStart=>exact⟨(j),H',⟨Nat.le_refl _⟩,⟨rp_ n.1⟩,⟨hs_ d.1⟩⟩
 case round=>
  clear H'
  obtain⟨a,C,s,c,d⟩:=hrel
  cases gk with
  | zero=>exact absurd C.1 (by simp[spec_StoreNew.l0])
  | succ G=>
   have H:=C.1
   clear C
   simp only[spec_StoreNew.l0] at H
   replace H:=ie_ H;rcases H with⟨t,H⟩|⟨t,H⟩
   ·
    have u:=decide_eq_true t
    clear t
    replace H:=ie_ H;rcases H with⟨v,H⟩|⟨v,H⟩
    ·
     have x:=decide_eq_true v
     clear v
     replace H:=im_ H;obtain⟨y,H⟩:=H
     obtain⟨l,hy_⟩:∃y_:List S26,y_=(a++[(⟨(-1),0,([]:List S80)⟩:S26)]):=⟨_,rfl⟩
     replace H:(spec_StoreNew.l0 G m l)=some r:=hm_
     have o:=M_ hy_;clear hy_
     have H':=M_ H
     clear H
     obtain⟨z,A,D⟩:=Kd.R_slice c.1
     subst D
     go_wp2_with (first|((with_reducible refine gate_builtin (b:=.append) (xs:=#[.tmp 14,.tmp 16]) rfl ?_);at_builtin;refine Kd.R_append k26 (w0:=w) w.heap.size rfl (.tmp 14) (.tmp 16) 54 26 (.agg #[(.int .i64 0),(.int .i64 0),(.slice none 0 0)]) 40 rfl Tryz.underlying54 info26 rfl (by decide) (by omega) (.slice z a.length A) a (⟨(-1),0,([]:List S80)⟩:S26) [.int .i64 (-1),.int .i64 0,.slice none 0 0] (fun _=>True) (fun k_=>((fun _=>True)) k_∧some k_≠(.slice z a.length A:Value).ownBlock) rfl rfl ?aP (fun _ hk=>hk) ?aF ?aO ?aB ?aS ?aL ?_;(case aP=>exact k26_mkM _ _ _ (⟨(-1),0,([]:List S80)⟩:S26) (Kd.S_nil _ _ _ _ _));(case aB=>exact(hs_ d.1));(case aF=>exact(fun _ _=>trivial));(case aO=>exact(rp_ c.1));(case aS=>exact(below_size (hs_ d.1)));(case aL=>have:=y.1;omega);intro I S ho hb hg hat;rw[←o.1] at ho;replace d:=M_ (hb);have p:=M_ (ho);clear c;clear ho hb hg hat))
     go_roundg G
     case measure=>have:=s.1;omega
     case rel=>exact⟨(l),H',⟨by have:=s.1;omega⟩,⟨rp_ p.1⟩,⟨hs_ d.1⟩⟩
    have x:decide (m≤3)=false:=decide_eq_false v
    clear v
    obtain rfl:=Option.some.inj H
    obtain⟨O,P,E⟩:=Kd.R_slice c.1
    subst E
    go_wp2
    go_ret
    exact⟨_,rr_,rp_ c.1,hs_ d.1⟩
   have u:decide ((a.length:Int)<m)=false:=decide_eq_false t
   clear t
   obtain rfl:=Option.some.inj H
   obtain⟨J,K,B⟩:=Kd.R_slice c.1
   subst B
   go_wp2
   go_ret
   exact⟨_,rr_,rp_ c.1,hs_ d.1⟩
/-- A state of type 102 at block g of W; what its slices lead to came in by w0. -/
def IsS102 (w0 W:World) (g:Nat) (f0:List Int) (f1:Int) (f2:Int):Prop:=∃A0 c0,W.heap[g]?=some (.cells #[.slice A0 f0.length c0,.int .i64 f1,.int .i64 f2] 102 (0,0))∧w0.heap.size≤g∧Kd.C (Kd.int .u8) w0 A0 f0.length f0
theorem IsS102.grown {w0 W:World} {g:Nat} {f0:List Int} {f1:Int} {f2:Int} {W1:World} {row:Option Nat} (h:IsS102 w0 W g f0 f1 f2) (hw:W.grownBy W1 row) (hne:some g≠row):IsS102 w0 W1 g f0 f1 f2:=by
 obtain⟨A0,c0,hb,hg,hr0⟩:=h
 exact⟨A0,c0,blk_grown hb hw hne,hg,hr0⟩
theorem IsS102.kept {w0 W:World} {g:Nat} {f0:List Int} {f1:Int} {f2:Int} {W1:World} {S:Nat→Prop} (h:IsS102 w0 W g f0 f1 f2) (hk:Kept W W1 S) (hne:¬S g):IsS102 w0 W1 g f0 f1 f2:=by
 obtain⟨A0,c0,hb,hg,hr0⟩:=h
 exact⟨A0,c0,blk_kept hb hk hne,hg,hr0⟩
theorem IsS102.below {w0 W:World} {g:Nat} {f0:List Int} {f1:Int} {f2:Int} {W1:World} (h:IsS102 w0 W g f0 f1 f2) (hw:Below W.heap.size W W1):IsS102 w0 W1 g f0 f1 f2:=h.grown (grown_of_below hw none) (by simp)
theorem IsS102.alloc {w0 W:World} {g:Nat} {f0:List Int} {f1:Int} {f2:Int} (h:IsS102 w0 W g f0 f1 f2) (o:Obj):IsS102 w0 (W.alloc o) g f0 f1 f2:=h.below (ba_ (Below.refl _ _) o)
theorem IsS102.drewN {w0 W:World} {g:Nat} {f0:List Int} {f1:Int} {f2:Int} (h:IsS102 w0 W g f0 f1 f2) (m:Nat):IsS102 w0 (W.drewN m) g f0 f1 f2:=h
theorem IsS102.drew {w0 W:World} {g:Nat} {f0:List Int} {f1:Int} {f2:Int} (h:IsS102 w0 W g f0 f1 f2):IsS102 w0 W.drew g f0 f1 f2:=h
theorem IsS102.at_ {w0 W:World} {g:Nat} {f0:List Int} {f1:Int} {f2:Int} {w':World} {m:Nat} (hq:W.drewN m=w') (h:IsS102 w0 W g f0 f1 f2):IsS102 w0 w' g f0 f1 f2:=by subst hq;exact IsS102.drewN h m
theorem IsS102.apart {w0 W:World} {g:Nat} {f0:List Int} {f1:Int} {f2:Int} {α:Type} {d:Kd α} {e:Nat} {base:Nat} {ok:Nat→Prop} {v:Value} {xs:List α} (h:IsS102 w0 W g f0 f1 f2) (ho:d.R e W base ok v xs) (ht:∀q,q∈e::d.E→q≠102):d.R e W base (fun k=>ok k∧k≠g) v xs:=by
 obtain⟨A0,c0,hb,hg,hr0⟩:=h
 exact Kd.R_types ho hb ht
theorem IsS102.own_ne {w0 W:World} {g:Nat} {f0:List Int} {f1:Int} {f2:Int} {α:Type} {d:Kd α} {e:Nat} {base:Nat} {ok:Nat→Prop} {v:Value} {xs:List α} (h:IsS102 w0 W g f0 f1 f2) (ho:d.R e W base ok v xs) (ht:e≠102):some g≠v.ownBlock:=by
 obtain⟨A0,c0,hb,hg,hr0⟩:=h
 exact Kd.R_ne ho hb ht
theorem IsS102.apartS {w0 W:World} {g:Nat} {f0:List Int} {f1:Int} {f2:Int} {α:Type} {d:Kd α} {e:Nat} {base:Nat} {ok:Nat→Prop} {v:Value} {xs:List α} (h:IsS102 w0 W g f0 f1 f2) (ho:d.S e W base ok v xs) (ht:∀q,q∈e::d.E→q≠102):d.S e W base (fun k=>ok k∧k≠g) v xs:=by
 obtain⟨A0,c0,hb,hg,hr0⟩:=h
 exact Kd.S_types ho hb ht
theorem IsS102.own_neS {w0 W:World} {g:Nat} {f0:List Int} {f1:Int} {f2:Int} {α:Type} {d:Kd α} {e:Nat} {base:Nat} {ok:Nat→Prop} {v:Value} {xs:List α} (h:IsS102 w0 W g f0 f1 f2) (ho:d.S e W base ok v xs) (ht:e≠102):some g≠v.ownBlock:=by
 obtain⟨A0,c0,hb,hg,hr0⟩:=h
 exact Kd.S_ne ho hb ht
theorem IsS102.lt {w0 W:World} {g:Nat} {f0:List Int} {f1:Int} {f2:Int} (h:IsS102 w0 W g f0 f1 f2):g<W.heap.size:=by
 obtain⟨A0,c0,hb,hg,hr0⟩:=h
 exact blk_lt hb
theorem IsS102.ge {w0 W:World} {g:Nat} {f0:List Int} {f1:Int} {f2:Int} (h:IsS102 w0 W g f0 f1 f2):w0.heap.size≤g:=by
 obtain⟨A0,c0,hb,hg,hr0⟩:=h
 exact hg
theorem IsS102.ne_blk {w0 W:World} {g:Nat} {f0:List Int} {f1:Int} {f2:Int} {a:Nat} {cs:Array Value} {t:TypeId} {fr:Nat×Nat} (h:IsS102 w0 W g f0 f1 f2) (hb2:W.heap[a]?=some (.cells cs t fr)) (ht:t≠102):g≠a:=by
 obtain⟨A0,c0,hb,hg,hr0⟩:=h
 rintro rfl
 rw[hb] at hb2
 injection hb2 with hb2
 injection hb2 with _ ht2
 exact ht ht2.symm
theorem IsS102.far {w0 W:World} {g:Nat} {f0:List Int} {f1:Int} {f2:Int} {p:Addr} (h:IsS102 w0 W g f0 f1 f2) (hne:g≠p.block) (u:Value):IsS102 w0 (W.setCell p u) g f0 f1 f2:=by
 obtain⟨A0,c0,hb,hg,hr0⟩:=h
 exact⟨A0,c0,blk_far hb hne u,hg,hr0⟩
theorem cellS102_0 {W:World} {g:Nat} {A0:Option Addr} {c0:Nat} {f0:List Int} {f1:Int} {f2:Int} (h:W.heap[g]?=some (.cells #[.slice A0 f0.length c0,.int .i64 f1,.int .i64 f2] 102 (0,0))):W.cell? ⟨g,0,none⟩=some (.slice A0 f0.length c0):=(blk_cell h 0).trans rfl
theorem cellS102_1 {W:World} {g:Nat} {A0:Option Addr} {c0:Nat} {f0:List Int} {f1:Int} {f2:Int} (h:W.heap[g]?=some (.cells #[.slice A0 f0.length c0,.int .i64 f1,.int .i64 f2] 102 (0,0))):W.cell? ⟨g,1,none⟩=some (.int .i64 f1):=(blk_cell h 1).trans rfl
theorem IsS102.set_1 {w0 W:World} {g:Nat} {f0:List Int} {f1:Int} {f2:Int} (h:IsS102 w0 W g f0 f1 f2) (x:Int):IsS102 w0 (W.setCell ⟨g,1,none⟩ (.int .i64 x)) g f0 x f2:=by
 obtain⟨A0,c0,hb,hg,hr0⟩:=h
 exact⟨A0,c0,by simpa using blk_set hb 1 (.int .i64 x),hg,hr0⟩
theorem cellS102_2 {W:World} {g:Nat} {A0:Option Addr} {c0:Nat} {f0:List Int} {f1:Int} {f2:Int} (h:W.heap[g]?=some (.cells #[.slice A0 f0.length c0,.int .i64 f1,.int .i64 f2] 102 (0,0))):W.cell? ⟨g,2,none⟩=some (.int .i64 f2):=(blk_cell h 2).trans rfl
theorem IsS102.set_2 {w0 W:World} {g:Nat} {f0:List Int} {f1:Int} {f2:Int} (h:IsS102 w0 W g f0 f1 f2) (x:Int):IsS102 w0 (W.setCell ⟨g,2,none⟩ (.int .i64 x)) g f0 f1 x:=by
 obtain⟨A0,c0,hb,hg,hr0⟩:=h
 exact⟨A0,c0,by simpa using blk_set hb 2 (.int .i64 x),hg,hr0⟩
theorem IsS102.new (w0 W:World) (A0:Option Addr) (c0:Nat) (f0:List Int) (f1:Int) (f2:Int) (hB:Below w0.heap.size w0 W) (hr0:Kd.C (Kd.int .u8) w0 A0 f0.length f0):IsS102 w0 (W.alloc (.cells #[.slice A0 f0.length c0,.int .i64 f1,.int .i64 f2] 102)) W.heap.size f0 f1 f2:=⟨A0,c0,by simpa using heap_alloc_new W _,hB.size,hr0⟩
theorem IsS102.pk_ {w0 w W:World} {g:Nat} {f0:List Int} {f1:Int} {f2:Int} [hp:Bq_ w W g] (h:IsS102 w0 w g f0 f1 f2):IsS102 w0 W g f0 f1 f2:=by
  obtain⟨A0,c0,h1,h2⟩:=h
  exact⟨A0,c0,hp.go _ h1,h2⟩
theorem IsS102.bk_ {w0 w W w1:World} {g:Nat} {f0:List Int} {f1:Int} {f2:Int} [hp:Bq_ w W g] (h:Aside0 (IsS102 w0 w g f0 f1 f2)) (hb:Below W.heap.size W w1):Aside0 (IsS102 w0 w1 g f0 f1 f2):=⟨IsS102.below (IsS102.pk_ h.out) hb⟩
theorem IsS102.nl_ {w0 w W:World} {g x:Nat} {f0:List Int} {f1:Int} {f2:Int} [hp:Bq_ w W g] (h:Aside0 (IsS102 w0 w g f0 f1 f2)) (hg:x=W.heap.size):Ne_ g x:=⟨by rw[hg];exact Nat.ne_of_lt (IsS102.lt (IsS102.pk_ h.out))⟩
theorem IsS102.ng_ {w0 w W:World} {g x:Nat} {f0:List Int} {f1:Int} {f2:Int} [hp:Bq_ w W g] (h:Aside0 (IsS102 w0 w g f0 f1 f2)) (hg:x=W.heap.size):Ne_ x g:=⟨by rw[hg];exact Nat.ne_of_gt (IsS102.lt (IsS102.pk_ h.out))⟩
theorem IsS102.rk_ {w0 w W w1:World} {g:Nat} {f0:List Int} {f1:Int} {f2:Int} {α:Type} {d:Kd α} {e base:Nat} {ok:Nat→Prop} {v:Value} {xs:List α} [hp:Bq_ w W g] [hq:Pk_ W w] (h:Aside0 (IsS102 w0 w g f0 f1 f2)) (ho:Aside0 (Kd.R d e w base ok v xs)) (hk:KeepBut W w1 g none) (ht:∀q,q∈e::d.E→q≠102:=by decide):Aside0 (Kd.R d e w1 base ok v xs):=⟨Kd.R_mono (Kd.R_keep (IsS102.apart (IsS102.pk_ h.out) (rp_ ho.out) ht) hk (fun _ h=>h.2)) (fun _ h=>h.1)⟩
theorem IsS102.sk_ {w0 w W w1:World} {g:Nat} {f0:List Int} {f1:Int} {f2:Int} {α:Type} {d:Kd α} {e base:Nat} {ok:Nat→Prop} {v:Value} {xs:List α} [hp:Bq_ w W g] [hq:Pk_ W w] (h:Aside0 (IsS102 w0 w g f0 f1 f2)) (ho:Aside0 (Kd.S d e w base ok v xs)) (hk:KeepBut W w1 g none) (ht:∀q,q∈e::d.E→q≠102:=by decide):Aside0 (Kd.S d e w1 base ok v xs):=⟨Kd.S_mono (Kd.S_keep (IsS102.apartS (IsS102.pk_ h.out) (sp_ ho.out) ht) hk (fun _ h=>h.2)) (fun _ h=>h.1)⟩

def spec_l1New.l0:Nat→List Int→Int→Int→Option (List Int×Int×Int)
 | 0,_,_,_=>none
 | k+1,a,c,b=>if b<(a.length:Int) then (if b<4000 then (if 0≤b then (spec_l1New.l0 k a (Go.bits .and .i64 (wrap64 ((wrap64 ((wrap64 (c*137))+(wrap64 (rd a b))))+11)) 1073741823) (wrap64 (b+1))) else (none)) else (some (a,0,c))) else (some (a,0,c))
def spec_l1New.f (k:Nat) (l0:List Int):Option (List Int×Int×Int):=spec_l1New.l0 k l0 (wrap64 (140873+(l0.length:Int))) 0
theorem spec_l1New.calls (k:Nat) (G:Option Addr) (I:Nat) (l0:List Int) (J:List Int) (K:Int) (L:Int) (o w:World) (hB:Below o.heap.size o w) (v:Kd.C (Kd.int .u8) o G l0.length l0) (x:l0.length≤I) (h:spec_l1New.f k l0=some (J,K,L)) :
  Calls Tryz.prog 50 #[.slice G l0.length I] w fun e w'=>∃g_:Nat,e=.returned (.pointer (some ⟨g_,0,none⟩))∧IsS102 o w' g_ J K L∧Below o.heap.size o w'∧Below w.heap.size w w':=by
 have hu102:=Tryz.underlying102
 have q:=M_ v
 have P:=M_ x
 clear v x
 have a:=M_ (Below.refl w.heap.size w)
 have y:=M_ hB.size
 have p:=M_ hB
 clear hB
 unfold spec_l1New.f at h
 have H:=h;clear h
 have H':=M_ H
 clear H
 go_enter Tryz.func50,Tryz.ntmps50
 go_wp2
 go_loopg [3,4] k (fun kq Q R w'=>∃(c:Int) (b:Int),Q=.int .i64 c∧R=.int .i64 b∧Aside0 (spec_l1New.l0 kq l0 c b=some (J,K,L))∧Aside0 (kq≤k)∧Aside0 (Below w.heap.size w w')∧Aside0 (Below o.heap.size o w'))
 case atStart=>exact⟨(wrap64 (140873+(l0.length:Int))),(0),rs_,rs_,H',⟨Nat.le_refl _⟩,⟨by repeat (first|(with_reducible first|exact a.1|apply ba_|apply bn_|apply bd_)|exact a.1)⟩,⟨hs_ p.1⟩⟩
 case round=>
  clear H'
  obtain⟨c,b,rfl,rfl,M,z,a,p⟩:=hrel
  cases gk with
  | zero=>exact absurd M.1 (by simp[spec_l1New.l0])
  | succ S=>
   have H:=M.1
   clear M
   simp only[spec_l1New.l0] at H
   replace H:=ie_ H;rcases H with⟨A,H⟩|⟨A,H⟩
   ·
    have B:=decide_eq_true A
    clear A
    replace H:=ie_ H;rcases H with⟨D,H⟩|⟨D,H⟩
    ·
     have E:=decide_eq_true D
     clear D
     replace H:=id_ H;obtain⟨O,H⟩:=H
     have H':=M_ H
     clear H
     obtain⟨g,i⟩:0≤(b:Int)∧b<(l0.length:Int):=pq_
     obtain⟨N,F,d⟩:=Kd.at_int q.1 b g i
     cases F
     replace d:=pw_cell_below p.1 d
     replace g:=eq_true g;replace i:=eq_true i
     go_wp2
     go_roundg S
     case measure=>have:=z.1;omega
     case rel=>exact⟨(Go.bits .and .i64 (wrap64 ((wrap64 ((wrap64 (c*137))+(wrap64 (rd l0 b))))+11)) 1073741823),(wrap64 (b+1)),rs_,rs_,H',⟨by have:=z.1;omega⟩,⟨by repeat (first|(with_reducible first|exact a.1|apply ba_|apply bn_|apply bd_)|exact a.1)⟩,⟨hs_ p.1⟩⟩
    have E:decide (b<4000)=false:=decide_eq_false D
    clear D
    simp only[Option.some.injEq,Prod.mk.injEq] at H
    obtain⟨rfl,rfl,rfl⟩:=H
    go_wp2_with (first|((with_reducible refine gd_ 31 rfl ?_);refine bV_ 31 #[.slice G l0.length I,.int .i64 0,.int .i64 c] 102 ?_;intro j hg T r hb;replace p:=st_ p hb;have l:=Ge_.mk ((by rw[hg];exact(below_size (by repeat (first|(with_reducible first|exact a.1|apply ba_|apply bn_|apply bd_)|exact a.1))):w.heap.size≤j));replace a:=M_ (below_step a.1 hb);have s:=gt_ y l;clear hb hg))
    go_ret
    exact⟨_,rfl,(show IsS102 o _ j l0 0 c from ⟨_,_,by (with_reducible repeat (first|refine kn_ ?_ _|refine kd_ ?_|refine ka_ ?_ _));exact r.1,s.1,q.1⟩),hs_ p.1,by repeat (first|(with_reducible first|exact a.1|apply ba_|apply bn_|apply bd_|apply bs_ l)|exact a.1)⟩
   have B:decide (b<(l0.length:Int))=false:=decide_eq_false A
   clear A
   simp only[Option.some.injEq,Prod.mk.injEq] at H
   obtain⟨rfl,rfl,rfl⟩:=H
   go_wp2_with (first|((with_reducible refine gd_ 31 rfl ?_);refine bV_ 31 #[.slice G l0.length I,.int .i64 0,.int .i64 c] 102 ?_;intro m hg U t hb;replace p:=st_ p hb;have n:=Ge_.mk ((by rw[hg];exact(below_size (by repeat (first|(with_reducible first|exact a.1|apply ba_|apply bn_|apply bd_)|exact a.1))):w.heap.size≤m));replace a:=M_ (below_step a.1 hb);have u:=gt_ y n;clear hb hg))
   go_ret
   exact⟨_,rfl,(show IsS102 o _ m l0 0 c from ⟨_,_,by (with_reducible repeat (first|refine kn_ ?_ _|refine kd_ ?_|refine ka_ ?_ _));exact t.1,u.1,q.1⟩),hs_ p.1,by repeat (first|(with_reducible first|exact a.1|apply ba_|apply bn_|apply bd_|apply bs_ n)|exact a.1)⟩
def spec_l1Byte.f (c:List Int) (b:Int) (a:Int):Option (Int×Int×Int):=if b<(c.length:Int) then (if 0≤b then (some (Go.bits .and .i64 (wrap64 ((Go.bits .and .i64 (Go.bits .xor .i64 ((wrap64 ((wrap64 (a*6364136223846793005))+1442695040888963407)) / 8589934592) ((wrap64 ((wrap64 (a*6364136223846793005))+1442695040888963407)) / 140737488355328)) 255)+(wrap64 (rd c b)))) 255,wrap64 (b+1),wrap64 ((wrap64 (a*6364136223846793005))+1442695040888963407))) else (none)) else (some (Go.bits .and .i64 (Go.bits .xor .i64 ((wrap64 ((wrap64 (a*6364136223846793005))+1442695040888963407)) / 8589934592) ((wrap64 ((wrap64 (a*6364136223846793005))+1442695040888963407)) / 140737488355328)) 255,b,wrap64 ((wrap64 (a*6364136223846793005))+1442695040888963407)))
theorem spec_l1Byte.calls (g:Nat) (d:List Int) (b:Int) (i:Int) (t:Int) (u:Int) (v:Int) (m w:World) (hI:IsS102 m w g d b i) (hB:Below m.heap.size m w) (h:spec_l1Byte.f d b i=some (t,u,v)) :
  Calls Tryz.prog 104 #[.pointer (some ⟨g,0,none⟩)] w fun e w'=>e=.returned (.int .i64 t)∧IsS102 m w' g d u v∧Below m.heap.size m w'∧KeepBut w w' g none:=by
 have c:=M_ hI
 have HK:=M_ (KeepBut.refl w g none)
 have HL:=M_ hB.size
 clear hI
 have J:=M_ hB.size
 have n:=M_ hB
 clear hB
 unfold spec_l1Byte.f at h
 have H:=h;clear h
 replace H:=ie_ H;rcases H with⟨o,H⟩|⟨o,H⟩
 ·
  have q:=decide_eq_true o
  clear o
  replace H:=id_ H;obtain⟨x,H⟩:=H
  simp only[Option.some.injEq,Prod.mk.injEq] at H
  obtain⟨rfl,rfl,rfl⟩:=H
  obtain⟨ASz4_0,cSz4_0,HGz4,hgz4,HSz4_0⟩:=c.1
  have y:=cellS102_0 HGz4
  have z:=cellS102_1 HGz4
  have A:=cellS102_2 HGz4
  have B:=blk_frozen HGz4 1
  have C:=blk_frozen HGz4 2
  clear HGz4 hgz4
  obtain⟨j,k⟩:0≤(b:Int)∧b<(d.length:Int):=pq_
  obtain⟨l,r,a⟩:=Kd.at_int HSz4_0 b j k
  cases r
  have hn370_0:l.block≠g:=Nat.ne_of_lt (Nat.lt_of_lt_of_le (by have:=World.block_lt_of_cell? _ _ a;first|rwa [add_block] at this|exact this) (IsS102.ge c.1))
  replace a:=pw_cell_below n.1 a
  replace a:=(cell_far (p:=⟨g,2,none⟩) (by first|(rw[add_block];exact hn370_0)|(show (Addr.add _ _).block≠_;rw[add_block];exact hn370_0)|exact hn370_0) (.int .i64 (wrap64 ((wrap64 (i*6364136223846793005))+1442695040888963407)))).trans a
  (try have s:=fun (n_:Nat)=>(show (((w.drewN n_).setCell ⟨g,2,none⟩ (.int .i64 (wrap64 ((wrap64 (i*6364136223846793005))+1442695040888963407))))).cell? _=some _ from a))
  clear hn370_0
  replace j:=eq_true j;replace k:=eq_true k
  go_enter Tryz.func104,Tryz.ntmps104
  go_wp2
  repeat (go_quiet (fail);try go_wp2)
  go_ret
  exact an_ ⟨by repeat (first|(with_reducible first|exact c.1|apply IsS102.alloc|apply IsS102.drewN|apply IsS102.drew|apply IsS102.set_1|apply IsS102.set_2)|exact c.1),by repeat (first|(with_reducible first|exact n.1|apply ba_|apply bn_|apply bd_|refine below_set ?_ (IsS102.ge c.1))|exact n.1),by repeat (first|(with_reducible first|exact HK.1|apply KeepBut.set_|apply keep_drewN|apply keep_drew|apply keep_alloc)|exact HK.1)⟩
 have q:decide (b<(d.length:Int))=false:=decide_eq_false o
 clear o
 simp only[Option.some.injEq,Prod.mk.injEq] at H
 obtain⟨rfl,rfl,rfl⟩:=H
 obtain⟨ASz5_0,cSz5_0,HGz5,hgz5,HSz5_0⟩:=c.1
 have D:=cellS102_0 HGz5
 have E:=cellS102_1 HGz5
 have F:=cellS102_2 HGz5
 have G:=blk_frozen HGz5 1
 have I:=blk_frozen HGz5 2
 clear HGz5 hgz5
 go_enter Tryz.func104,Tryz.ntmps104
 go_wp2
 repeat (go_quiet (fail);try go_wp2)
 go_ret
 exact an_ ⟨by repeat (first|(with_reducible first|exact c.1|apply IsS102.alloc|apply IsS102.drewN|apply IsS102.drew|apply IsS102.set_1|apply IsS102.set_2)|exact c.1),by repeat (first|(with_reducible first|exact n.1|apply ba_|apply bn_|apply bd_|refine below_set ?_ (IsS102.ge c.1))|exact n.1),by repeat (first|(with_reducible first|exact HK.1|apply KeepBut.set_|apply keep_drewN|apply keep_drew|apply keep_alloc)|exact HK.1)⟩
def spec_l1Below.f (e:List Int) (g:Int) (h:Int) (i:Int):Option (Int×Int×Int):=if i≤0 then (some (0,g,h)) else (if i≤256 then ((spec_l1Byte.f e g h).bind fun a=>(if i=0 then (none) else (some (Int.tmod a.1 i,a.2.1,a.2.2)))) else ((spec_l1Byte.f e g h).bind fun b=>((spec_l1Byte.f e b.2.1 b.2.2).bind fun c=>((spec_l1Byte.f e c.2.1 c.2.2).bind fun d=>(if i=0 then (none) else (some (Int.tmod (wrap64 ((wrap64 ((wrap64 (b.1*65536))+(wrap64 (c.1*256))))+d.1)) i,d.2.1,d.2.2)))))))
theorem spec_l1Below.calls (g:Nat) (a:List Int) (c:Int) (d:Int) (k:Int) (G:Int) (I:Int) (J:Int) (j w:World) (hI:IsS102 j w g a c d) (hB:Below j.heap.size j w) (h:spec_l1Below.f a c d k=some (G,I,J)) :
  Calls Tryz.prog 69 #[.pointer (some ⟨g,0,none⟩),.int .i64 k] w fun e w'=>e=.returned (.int .i64 G)∧IsS102 j w' g a I J∧Below j.heap.size j w'∧KeepBut w w' g none:=by
 have b:=M_ hI
 have HK:=M_ (KeepBut.refl w g none)
 have HL:=M_ hB.size
 clear hI
 have N:=M_ hB.size
 have i:=M_ hB
 clear hB
 unfold spec_l1Below.f at h
 have H:=h;clear h
 replace H:=ie_ H;rcases H with⟨p,H⟩|⟨p,H⟩
 ·
  have q:=decide_eq_true p
  clear p
  simp only[Option.some.injEq,Prod.mk.injEq] at H
  obtain⟨rfl,rfl,rfl⟩:=H
  go_enter Tryz.func69,Tryz.ntmps69
  go_wp2
  go_ret
  exact an_ ⟨IsS102.pk_ b.1,hs_ i.1,ku_ HK.1⟩
 have q:decide (k≤0)=false:=decide_eq_false p
 clear p
 replace H:=ie_ H;rcases H with⟨r,H⟩|⟨r,H⟩
 ·
  have s:=decide_eq_true r
  clear r
  replace H:=bi_ H;obtain⟨⟨t,u,v⟩,O,H⟩:=H;(try dsimp only at H)
  replace H:=io_ H;obtain⟨K,H⟩:=H
  have L:(k==0)=false:=beq_eq_false_iff_ne.mpr K
  have M:(k !=0)=true:=bne_iff_ne.mpr K
  simp only[Option.some.injEq,Prod.mk.injEq] at H
  obtain⟨rfl,rfl,rfl⟩:=H
  go_enter Tryz.func69,Tryz.ntmps69
  go_wp2_with (first|((with_reducible refine gate_callee (f:=104) rfl ?_);refine gl_ (some 13) Tryz.func104 #[.pointer (some ⟨g,0,none⟩)] ?_;(with_reducible refine(spec_l1Byte.calls g a c d t u v j _ ?_ ?_ O.1).mono ?_);exact IsS102.pk_ b.1;exact hs_ i.1;rintro e U ⟨rfl,hi,hb,hk⟩;refine⟨_,rfl,?_⟩;replace HK:=kh_ HK hk;replace i:=M_ (hb);replace b:=M_ (hi);(try clear hb hk hi)))
  go_ret
  exact an_ ⟨IsS102.pk_ b.1,hs_ i.1,ku_ HK.1⟩
 have s:decide (k≤256)=false:=decide_eq_false r
 clear r
 replace H:=bi_ H;obtain⟨⟨x,l,m⟩,P,H⟩:=H;(try dsimp only at H)
 replace H:=bi_ H;obtain⟨⟨y,n,o⟩,Q,H⟩:=H;(try dsimp only at H)
 replace H:=bi_ H;obtain⟨⟨z,A,B⟩,D,H⟩:=H;(try dsimp only at H)
 replace H:=io_ H;obtain⟨C,H⟩:=H
 have E:(k==0)=false:=beq_eq_false_iff_ne.mpr C
 have F:(k !=0)=true:=bne_iff_ne.mpr C
 simp only[Option.some.injEq,Prod.mk.injEq] at H
 obtain⟨rfl,rfl,rfl⟩:=H
 go_enter Tryz.func69,Tryz.ntmps69
 go_wp2_with (first|((with_reducible refine gate_callee (f:=104) rfl ?_);refine gl_ (some 17) Tryz.func104 #[.pointer (some ⟨g,0,none⟩)] ?_;(with_reducible refine(spec_l1Byte.calls g a c d x l m j _ ?_ ?_ P.1).mono ?_);exact IsS102.pk_ b.1;exact hs_ i.1;rintro e R ⟨rfl,hi,hb,hk⟩;refine⟨_,rfl,?_⟩;replace HK:=kh_ HK hk;replace i:=M_ (hb);replace b:=M_ (hi);(try clear hb hk hi))|((with_reducible refine gate_callee (f:=104) rfl ?_);refine gl_ (some 19) Tryz.func104 #[.pointer (some ⟨g,0,none⟩)] ?_;(with_reducible refine(spec_l1Byte.calls g a l m y n o j _ ?_ ?_ Q.1).mono ?_);exact IsS102.pk_ b.1;exact hs_ i.1;rintro e S ⟨rfl,hi,hb,hk⟩;refine⟨_,rfl,?_⟩;replace HK:=kh_ HK hk;replace i:=M_ (hb);replace b:=M_ (hi);(try clear hb hk hi))|((with_reducible refine gate_callee (f:=104) rfl ?_);refine gl_ (some 21) Tryz.func104 #[.pointer (some ⟨g,0,none⟩)] ?_;(with_reducible refine(spec_l1Byte.calls g a n o z A B j _ ?_ ?_ D.1).mono ?_);exact IsS102.pk_ b.1;exact hs_ i.1;rintro e T ⟨rfl,hi,hb,hk⟩;refine⟨_,rfl,?_⟩;replace HK:=kh_ HK hk;replace i:=M_ (hb);replace b:=M_ (hi);(try clear hb hk hi)))
 go_ret
 exact an_ ⟨IsS102.pk_ b.1,hs_ i.1,ku_ HK.1⟩
def spec_l1Int.f (b:List Int) (c:Int) (d:Int) (e:List Int):Option (Int×Int×Int):=(spec_l1Below.f b c d (e.length:Int)).bind fun a=>(if 0≤a.1 then (if a.1<(e.length:Int) then (some (rd e a.1,a.2.1,a.2.2)) else (none)) else (none))
theorem spec_l1Int.calls (g:Nat) (b:List Int) (d:Int) (i:Int) (u:Option Addr) (y:Nat) (l:List Int) (z:Int) (A:Int) (B:Int) (m w:World) (hI:IsS102 m w g b d i) (hB:Below m.heap.size m w) (p:Kd.C (Kd.int .i64) w u l.length l) (q:l.length≤y) (hf1:∀ad,u=some ad→0<l.length→ad.block≠g) (h:spec_l1Int.f b d i l=some (z,A,B)) :
  Calls Tryz.prog 66 #[.pointer (some ⟨g,0,none⟩),.slice u l.length y] w fun e w'=>e=.returned (.int .i64 z)∧IsS102 m w' g b A B∧Below m.heap.size m w'∧KeepBut w w' g none:=by
 have v:=M_ p
 have F:=M_ q
 clear p q
 have n:=M_ hI
 have HK:=M_ (KeepBut.refl w g none)
 have HL:=M_ hB.size
 clear hI
 have G:=M_ hB.size
 have x:=M_ hB
 clear hB
 unfold spec_l1Int.f at h
 have H:=h;clear h
 replace H:=bi_ H;obtain⟨⟨c,r,s⟩,I,H⟩:=H;(try dsimp only at H)
 replace H:=i2_ H;obtain⟨D,E,H⟩:=H
 simp only[Option.some.injEq,Prod.mk.injEq] at H
 obtain⟨rfl,rfl,rfl⟩:=H
 go_enter Tryz.func66,Tryz.ntmps66
 go_wp2_with (first|((with_reducible refine gate_callee (f:=69) rfl ?_);refine gl_ (some 9) Tryz.func69 #[.pointer (some ⟨g,0,none⟩),.int .i64 (l.length:Int)] ?_;(with_reducible refine(spec_l1Below.calls g b d i (l.length:Int) c r s m _ ?_ ?_ I.1).mono ?_);exact IsS102.pk_ n.1;exact hs_ x.1;rintro e J ⟨rfl,hi,hb,hk⟩;refine⟨_,rfl,?_⟩;replace HK:=kh_ HK hk;replace x:=M_ (hb);replace n:=M_ (hi);(try clear hb hk hi);have j:0≤(c:Int):=of_decide_eq_true (by with_reducible assumption);have k:c<(l.length:Int):=of_decide_eq_true (by with_reducible assumption);obtain⟨o,t,a⟩:=Kd.at_int v.1 c j k;cases t;replace a:=keep_cell HK.1 a (by first|(rw[add_block];exact hf1 _ rfl (by omega))|exact hf1 _ rfl (by omega)|exact hf1 o rfl (by omega));replace j:=eq_true j;replace k:=eq_true k))
 go_ret
 exact an_ ⟨IsS102.pk_ n.1,hs_ x.1,ku_ HK.1⟩
def spec_l1Once.f (b:List Int) (c:Int) (d:Int) (e:Int):Option (Bool×Int×Int):=(spec_l1Below.f b c d e).bind fun a=>(some ((a.1==0),a.2.1,a.2.2))
theorem spec_l1Once.calls (g:Nat) (a:List Int) (b:Int) (c:Int) (m:Int) (o:Bool) (p:Int) (q:Int) (d w:World) (hI:IsS102 d w g a b c) (hB:Below d.heap.size d w) (h:spec_l1Once.f a b c m=some (o,p,q)) :
  Calls Tryz.prog 70 #[.pointer (some ⟨g,0,none⟩),.int .i64 m] w fun e w'=>e=.returned (.bool o)∧IsS102 d w' g a p q∧Below d.heap.size d w'∧KeepBut w w' g none:=by
 have i:=M_ hI
 have HK:=M_ (KeepBut.refl w g none)
 have HL:=M_ hB.size
 clear hI
 have r:=M_ hB.size
 have n:=M_ hB
 clear hB
 unfold spec_l1Once.f at h
 have H:=h;clear h
 replace H:=bi_ H;obtain⟨⟨j,k,l⟩,s,H⟩:=H;(try dsimp only at H)
 simp only[Option.some.injEq,Prod.mk.injEq] at H
 obtain⟨rfl,rfl,rfl⟩:=H
 go_enter Tryz.func70,Tryz.ntmps70
 go_wp2_with (first|((with_reducible refine gate_callee (f:=69) rfl ?_);refine gl_ (some 7) Tryz.func69 #[.pointer (some ⟨g,0,none⟩),.int .i64 m] ?_;(with_reducible refine(spec_l1Below.calls g a b c m j k l d _ ?_ ?_ s.1).mono ?_);exact IsS102.pk_ i.1;exact hs_ n.1;rintro e t ⟨rfl,hi,hb,hk⟩;refine⟨_,rfl,?_⟩;replace HK:=kh_ HK hk;replace n:=M_ (hb);replace i:=M_ (hi);(try clear hb hk hi)))
 go_ret
 exact an_ ⟨IsS102.pk_ i.1,hs_ n.1,ku_ HK.1⟩
def spec_l1Str.f (b:List Int) (c:Int) (d:Int) (e:List ByteArray):Option (ByteArray×Int×Int):=(spec_l1Below.f b c d (e.length:Int)).bind fun a=>(if 0≤a.1 then (if a.1<(e.length:Int) then (some (rdOf ByteArray.empty e a.1,a.2.1,a.2.2)) else (none)) else (none))
theorem spec_l1Str.calls (g:Nat) (b:List Int) (d:Int) (i:Int) (u:Option Addr) (y:Nat) (l:List ByteArray) (z:ByteArray) (A:Int) (B:Int) (m w:World) (hI:IsS102 m w g b d i) (hB:Below m.heap.size m w) (p:Kd.C Kd.string w u l.length l) (q:l.length≤y) (hf1:∀ad,u=some ad→0<l.length→ad.block≠g) (h:spec_l1Str.f b d i l=some (z,A,B)) :
  Calls Tryz.prog 112 #[.pointer (some ⟨g,0,none⟩),.slice u l.length y] w fun e w'=>e=.returned (.string z)∧IsS102 m w' g b A B∧Below m.heap.size m w'∧KeepBut w w' g none:=by
 have v:=M_ p
 have F:=M_ q
 clear p q
 have n:=M_ hI
 have HK:=M_ (KeepBut.refl w g none)
 have HL:=M_ hB.size
 clear hI
 have G:=M_ hB.size
 have x:=M_ hB
 clear hB
 unfold spec_l1Str.f at h
 have H:=h;clear h
 replace H:=bi_ H;obtain⟨⟨c,r,s⟩,I,H⟩:=H;(try dsimp only at H)
 replace H:=i2_ H;obtain⟨D,E,H⟩:=H
 simp only[Option.some.injEq,Prod.mk.injEq] at H
 obtain⟨rfl,rfl,rfl⟩:=H
 go_enter Tryz.func112,Tryz.ntmps112
 go_wp2_with (first|((with_reducible refine gate_callee (f:=69) rfl ?_);refine gl_ (some 9) Tryz.func69 #[.pointer (some ⟨g,0,none⟩),.int .i64 (l.length:Int)] ?_;(with_reducible refine(spec_l1Below.calls g b d i (l.length:Int) c r s m _ ?_ ?_ I.1).mono ?_);exact IsS102.pk_ n.1;exact hs_ x.1;rintro e J ⟨rfl,hi,hb,hk⟩;refine⟨_,rfl,?_⟩;replace HK:=kh_ HK hk;replace x:=M_ (hb);replace n:=M_ (hi);(try clear hb hk hi);have j:0≤(c:Int):=of_decide_eq_true (by with_reducible assumption);have k:c<(l.length:Int):=of_decide_eq_true (by with_reducible assumption);obtain⟨o,t,a⟩:=Kd.at_string v.1 c j k;cases t;replace a:=keep_cell HK.1 a (by first|(rw[add_block];exact hf1 _ rfl (by omega))|exact hf1 _ rfl (by omega)|exact hf1 o rfl (by omega));replace j:=eq_true j;replace k:=eq_true k))
 go_ret
 exact an_ ⟨IsS102.pk_ n.1,hs_ x.1,ku_ HK.1⟩
def spec_l2Draw.l0:Nat→List S99→List ByteArray→Int→Int→List Int→Int→Int→Option ((List S99)×Int×Int)
 | 0,_,_,_,_,_,_,_=>none
 | k+1,j,h,i,d,b,e,g=>if d<i then (if 0≤d then (if d<(h.length:Int) then ((spec_l1Once.f b e g 4).bind fun a=>(if a.1=true then ((spec_l1Str.f b a.2.1 a.2.2 (([(⟨#[49]⟩:ByteArray),(⟨#[50]⟩:ByteArray)]:List ByteArray))).bind fun c=>(if j.length<4398046511104 then (spec_l2Draw.l0 k (j++[(⟨rdOf ByteArray.empty h d,c.1⟩:S99)]) h i (wrap64 (d+1)) b c.2.1 c.2.2) else (none))) else (spec_l2Draw.l0 k j h i (wrap64 (d+1)) b a.2.1 a.2.2))) else (none)) else (none)) else (some (j,e,g))
def spec_l2Draw.f (k:Nat) (b:List Int) (d:Int) (e:Int):Option ((List S99)×Int×Int):=(spec_l1Str.f b d e (([(⟨#[97]⟩:ByteArray),(⟨#[98]⟩:ByteArray),(⟨#[99]⟩:ByteArray)]:List ByteArray))).bind fun a=>((some (([(⟨#[104,111,115,116]⟩:ByteArray),(⟨#[115,101,118]⟩:ByteArray),(⟨#[122,111,110,101]⟩:ByteArray)]:List ByteArray):List ByteArray)).bind fun c=>(spec_l2Draw.l0 k (([(⟨(⟨#[97,112,112]⟩:ByteArray),a.1⟩:S99)]:List S99)) c (c.length:Int) 0 b a.2.1 a.2.2))
theorem spec_l2Draw.calls (k:Nat) (g:Nat) (j:List Int) (A:Int) (B:Int) (r1:List S99) (r2:Int) (r3:Int) (G w:World) (hI:IsS102 G w g j A B) (hB:Below G.heap.size G w) (h:spec_l2Draw.f k j A B=some (r1,r2,r3)) :
  Calls Tryz.prog 88 #[.pointer (some ⟨g,0,none⟩)] w fun e w'=>∃v0_:Value,e=.returned (v0_)∧Kd.R k99 99 w' w.heap.size (fun _=>True) v0_ r1∧IsS102 G w' g j r2 r3∧Below G.heap.size G w'∧KeepBut w w' g none:=by
 have hu99:=Tryz.underlying99
 have d:=M_ hI
 have HK:=M_ (KeepBut.refl w g none)
 have HL:=M_ hB.size
 clear hI
 have Ka:=M_ hB.size
 have s:=M_ hB
 clear hB
 unfold spec_l2Draw.f at h
 have H:=h;clear h
 obtain⟨I,hy_⟩:∃y_:List ByteArray,y_=(([(⟨#[97]⟩:ByteArray),(⟨#[98]⟩:ByteArray),(⟨#[99]⟩:ByteArray)]:List ByteArray)):=⟨_,rfl⟩
 replace H:((spec_l1Str.f j A B I).bind fun x=>((some (([(⟨#[104,111,115,116]⟩:ByteArray),(⟨#[115,101,118]⟩:ByteArray),(⟨#[122,111,110,101]⟩:ByteArray)]:List ByteArray):List ByteArray)).bind fun a=>(spec_l2Draw.l0 k (([(⟨(⟨#[97,112,112]⟩:ByteArray),x.1⟩:S99)]:List S99)) a (a.length:Int) 0 j x.2.1 x.2.2)))=some (r1,r2,r3):=hm_
 have J:=M_ hy_;clear hy_
 replace H:=bi_ H;obtain⟨⟨r,C,D⟩,A2,H⟩:=H;(try dsimp only at H)
 obtain⟨K,hy_⟩:∃y_:List S99,y_=(([(⟨(⟨#[97,112,112]⟩:ByteArray),r⟩:S99)]:List S99)):=⟨_,rfl⟩
 replace H:((some (([(⟨#[104,111,115,116]⟩:ByteArray),(⟨#[115,101,118]⟩:ByteArray),(⟨#[122,111,110,101]⟩:ByteArray)]:List ByteArray):List ByteArray)).bind fun a=>(spec_l2Draw.l0 k K a (a.length:Int) 0 j C D))=some (r1,r2,r3):=hm_
 have L:=M_ hy_;clear hy_
 obtain⟨a,hy_⟩:∃y_:List ByteArray,y_=(([(⟨#[104,111,115,116]⟩:ByteArray),(⟨#[115,101,118]⟩:ByteArray),(⟨#[122,111,110,101]⟩:ByteArray)]:List ByteArray)):=⟨_,rfl⟩
 replace H:(spec_l2Draw.l0 k K a (a.length:Int) 0 j C D)=some (r1,r2,r3):=hm_
 have O:=M_ hy_;clear hy_
 have H':=M_ H
 clear H
 go_enter Tryz.func88,Tryz.ntmps88
 go_wp2_with (first|((with_reducible refine gd_ 7 rfl ?_);refine Kd.R_lit Kd.string _ 9 ?hg (N:=7) ?hd (xs:=([(⟨#[97]⟩:ByteArray),(⟨#[98]⟩:ByteArray),(⟨#[99]⟩:ByteArray)]:List ByteArray)) (inner:=[.string (⟨#[97]⟩:ByteArray),.string (⟨#[98]⟩:ByteArray),.string (⟨#[99]⟩:ByteArray)]) (ok:=fun _=>True) (okp:=fun _=>True) ?hr ?hp (fun _ hk=>hk) trivial (Below.refl _ _) (Nat.le_refl _) (by simp) ?_;(case hd=>rfl);(case hg=>rfl);(case hr=>first|(go_simp;done)|(go_simp;rfl));(case hp=>exact(Reps.one (show Kd.M Kd.string _ _ _ (⟨#[97]⟩:ByteArray) [.string (⟨#[97]⟩:ByteArray)] from rfl) (Reps.one (show Kd.M Kd.string _ _ _ (⟨#[98]⟩:ByteArray) [.string (⟨#[98]⟩:ByteArray)] from rfl) (Reps.one (show Kd.M Kd.string _ _ _ (⟨#[99]⟩:ByteArray) [.string (⟨#[99]⟩:ByteArray)] from rfl) (Reps.none _ _)))));intro Fa w3 P hb hg_ hnew_;clear hg_ hnew_;(first|rw[←J.1] at P|(simp only[Int.reduceToNat] at P;rw[←J.1] at P));have l:=rl_ P HK;have ja:=IsS102.bk_ d hb;have n2_:=kt_ HK hb;have ka:=st_ s hb;clear d HK s;have d:=ja;have HK:=n2_;have s:=ka;clear ja n2_ ka;clear hb P;obtain⟨va,wa,xa⟩:=Kd.R_slice l.1;subst xa)|((with_reducible refine gate_callee (f:=112) rfl ?_);refine gl_ (some 8) Tryz.func112 #[.pointer (some ⟨g,0,none⟩),.slice va I.length wa] ?_;(with_reducible refine(spec_l1Str.calls g j A B _ _ I r C D G _ ?_ ?_ ?_ ?_ ?_ A2.1).mono ?_);exact IsS102.pk_ d.1;exact hs_ s.1;exact cp_ ((Kd.R_reads' l.1).2.2);exact(Kd.R_reads' l.1).2.1;exact far_slice (IsS102.own_ne d.1 l.1 (by decide));rintro e w6 ⟨rfl,hi,hb,hk⟩;refine⟨_,rfl,?_⟩;replace l:=IsS102.rk_ d l hk;replace HK:=kh_ HK hk;replace s:=M_ (hb);replace d:=M_ (hi);(try clear hb hk hi))|((with_reducible refine gd_ 10 rfl ?_);refine Kd.R_lit k99 _ 99 ?hg (N:=10) ?hd (xs:=([(⟨(⟨#[97,112,112]⟩:ByteArray),r⟩:S99)]:List S99)) (inner:=[.string (⟨#[97,112,112]⟩:ByteArray),.string r]) (ok:=fun _=>True) (okp:=fun _=>True) ?hr ?hp (fun _ hk=>hk) trivial (Below.refl _ _) (Nat.le_refl _) (by simp) ?_;(case hd=>rfl);(case hg=>rfl);(case hr=>first|(go_simp;done)|(go_simp;rfl));(case hp=>exact(Reps.c2 (show Kd.M k99 _ _ _ (⟨(⟨#[97,112,112]⟩:ByteArray),r⟩:S99) [.string (⟨#[97,112,112]⟩:ByteArray),.string r] from (k99_mkM _ _ _ (⟨(⟨#[97,112,112]⟩:ByteArray),r⟩:S99))) (Reps.none _ _)));intro Ga w7 Q hb hg_ hnew_;clear hg_ hnew_;(first|rw[←L.1] at Q|(simp only[Int.reduceToNat] at Q;rw[←L.1] at Q));replace l:=rb_ l hb;have y:=rl_ Q HK;replace d:=IsS102.bk_ d hb;replace HK:=kt_ HK hb;replace s:=st_ s hb;clear hb Q)|((with_reducible refine gd_ 11 rfl ?_);refine Kd.R_lit Kd.string _ 9 ?hg (N:=11) ?hd (xs:=([(⟨#[104,111,115,116]⟩:ByteArray),(⟨#[115,101,118]⟩:ByteArray),(⟨#[122,111,110,101]⟩:ByteArray)]:List ByteArray)) (inner:=[.string (⟨#[104,111,115,116]⟩:ByteArray),.string (⟨#[115,101,118]⟩:ByteArray),.string (⟨#[122,111,110,101]⟩:ByteArray)]) (ok:=fun _=>True) (okp:=fun _=>True) ?hr ?hp (fun _ hk=>hk) trivial (Below.refl _ _) (Nat.le_refl _) (by simp) ?_;(case hd=>rfl);(case hg=>rfl);(case hr=>first|(go_simp;done)|(go_simp;rfl));(case hp=>exact(Reps.one (show Kd.M Kd.string _ _ _ (⟨#[104,111,115,116]⟩:ByteArray) [.string (⟨#[104,111,115,116]⟩:ByteArray)] from rfl) (Reps.one (show Kd.M Kd.string _ _ _ (⟨#[115,101,118]⟩:ByteArray) [.string (⟨#[115,101,118]⟩:ByteArray)] from rfl) (Reps.one (show Kd.M Kd.string _ _ _ (⟨#[122,111,110,101]⟩:ByteArray) [.string (⟨#[122,111,110,101]⟩:ByteArray)] from rfl) (Reps.none _ _)))));intro Ha w9 t hb hg_ hnew_;clear hg_ hnew_;(first|rw[←O.1] at t|(simp only[Int.reduceToNat] at t;rw[←O.1] at t));replace y:=rb_ y hb;have S:=M_ (Kd.R_lower (Kd.R_new' t (Kd.R_lt (rp_ l.1))) (ks_ HK));replace l:=M_ (Kd.R_elder' (rp_ l.1) (Kd.R_base t) hb);replace d:=IsS102.bk_ d hb;replace HK:=kt_ HK hb;replace s:=st_ s hb;clear hb t;obtain⟨la,ma,na⟩:=Kd.R_slice S.1;subst na))
 go_loopg [3,13] k (fun kq v3 ya w'=>∃(q:List S99) (c:Int) (o:Int) (p:Int),ya=.int .i64 c∧Aside0 (spec_l2Draw.l0 kq q a (a.length:Int) c j o p=some (r1,r2,r3))∧Aside0 (kq≤k)∧Aside0 (Kd.R k99 99 w' w.heap.size (fun _=>True) v3 q)∧Aside0 (Kd.R Kd.string 9 w' w.heap.size (fun _=>True) (.slice la a.length ma) a)∧Aside0 (IsS102 G w' g j o p)∧Aside0 (KeepBut w w' g none)∧Aside0 (Below G.heap.size G w'))
 case atStart=>exact⟨(K),(0),(C),(D),rs_,H',⟨Nat.le_refl _⟩,⟨rp_ y.1⟩,⟨Kd.R_mono (rp_ S.1) (fun _ hk=>trivial)⟩,⟨IsS102.pk_ d.1⟩,⟨ku_ HK.1⟩,⟨hs_ s.1⟩⟩
 case round=>
  clear H'
  obtain⟨q,c,o,p,rfl,HA,aa,m,i,d,HK,s⟩:=hrel
  cases gk with
  | zero=>exact absurd HA.1 (by simp[spec_l2Draw.l0])
  | succ k1=>
   have H:=HA.1
   clear HA
   simp only[spec_l2Draw.l0] at H
   replace H:=ie_ H;rcases H with⟨T,H⟩|⟨T,H⟩
   ·
    have fa:=decide_eq_true T
    clear T
    replace H:=i2_ H;obtain⟨Aa,Ba,H⟩:=H
    replace H:=bi_ H;obtain⟨⟨oa,E,F⟩,Ca,H⟩:=H;(try dsimp only at H)
    have AHz_:=M_ H
    clear H
    obtain⟨U,V⟩:0≤(c:Int)∧c<(a.length:Int):=pq_
    obtain⟨Da,pa,qa⟩:=Kd.at_string (Kd.R_reads' i.1).2.2 c U V
    cases pa
    replace U:=eq_true U;replace V:=eq_true V
    go_wp2_with (first|(((with_reducible refine gate_callee (f:=70) rfl ?_);refine gl_ (some 18) Tryz.func70 #[.pointer (some ⟨g,0,none⟩),.int .i64 4] ?_;(with_reducible refine(spec_l1Once.calls g j o p 4 oa E F G _ ?_ ?_ Ca.1).mono ?_);exact IsS102.pk_ d.1;exact hs_ s.1;rintro e Na ⟨rfl,hi,hb,hk⟩;refine⟨_,rfl,?_⟩;replace m:=IsS102.rk_ d m hk;replace i:=IsS102.rk_ d i hk;replace HK:=kh_ HK hk;replace s:=M_ (hb);replace d:=M_ (hi);(try clear hb hk hi));refine Aside0.out ?_))
    have H:=AHz_.1
    clear AHz_
    replace H:=ib_ H;rcases H with⟨rfl,H⟩|⟨rfl,H⟩
    ·
     obtain⟨W,hy_⟩:∃y_:List ByteArray,y_=(([(⟨#[49]⟩:ByteArray),(⟨#[50]⟩:ByteArray)]:List ByteArray)):=⟨_,rfl⟩
     replace H:((spec_l1Str.f j E F W).bind fun z=>(if q.length<4398046511104 then (spec_l2Draw.l0 k1 (q++[(⟨rdOf ByteArray.empty a c,z.1⟩:S99)]) a (a.length:Int) (wrap64 (c+1)) j z.2.1 z.2.2) else (none)))=some (r1,r2,r3):=hm_
     have X:=M_ hy_;clear hy_
     replace H:=bi_ H;obtain⟨⟨v,Y,Z⟩,Ea,H⟩:=H;(try dsimp only at H)
     replace H:=im_ H;obtain⟨ga,H⟩:=H
     obtain⟨ea,hy_⟩:∃y_:List S99,y_=(q++[(⟨rdOf ByteArray.empty a c,v⟩:S99)]):=⟨_,rfl⟩
     replace H:(spec_l2Draw.l0 k1 ea a (a.length:Int) (wrap64 (c+1)) j Y Z)=some (r1,r2,r3):=hm_
     have ha:=M_ hy_;clear hy_
     have H':=M_ H
     clear H
     refine⟨?_⟩
     go_wp2_with (first|((with_reducible refine gd_ 22 rfl ?_);refine Kd.R_lit Kd.string _ 9 ?hg (N:=22) ?hd (xs:=([(⟨#[49]⟩:ByteArray),(⟨#[50]⟩:ByteArray)]:List ByteArray)) (inner:=[.string (⟨#[49]⟩:ByteArray),.string (⟨#[50]⟩:ByteArray)]) (ok:=fun _=>True) (okp:=fun _=>True) ?hr ?hp (fun _ hk=>hk) trivial (Below.refl _ _) (Nat.le_refl _) (by simp) ?_;(case hd=>rfl);(case hg=>rfl);(case hr=>first|(go_simp;done)|(go_simp;rfl));(case hp=>exact(Reps.one (show Kd.M Kd.string _ _ _ (⟨#[49]⟩:ByteArray) [.string (⟨#[49]⟩:ByteArray)] from rfl) (Reps.one (show Kd.M Kd.string _ _ _ (⟨#[50]⟩:ByteArray) [.string (⟨#[50]⟩:ByteArray)] from rfl) (Reps.none _ _))));intro Ia Oa u hb hg_ hnew_;clear hg_ hnew_;(first|rw[←X.1] at u|(simp only[Int.reduceToNat] at u;rw[←X.1] at u));replace m:=rb_ m hb;have n:=M_ (Kd.R_lower (Kd.R_new' u (Kd.R_lt (rp_ i.1))) (ks_ HK));replace i:=M_ (Kd.R_elder' (rp_ i.1) (Kd.R_base u) hb);replace d:=IsS102.bk_ d hb;replace HK:=kt_ HK hb;replace s:=st_ s hb;clear hb u;obtain⟨ra,sa,ta⟩:=Kd.R_slice n.1;subst ta)|((with_reducible refine gate_callee (f:=112) rfl ?_);refine gl_ (some 23) Tryz.func112 #[.pointer (some ⟨g,0,none⟩),.slice ra W.length sa] ?_;(with_reducible refine(spec_l1Str.calls g j E F _ _ W v Y Z G _ ?_ ?_ ?_ ?_ ?_ Ea.1).mono ?_);exact IsS102.pk_ d.1;exact hs_ s.1;exact cp_ ((Kd.R_reads' n.1).2.2);exact(Kd.R_reads' n.1).2.1;exact far_slice (IsS102.own_ne d.1 n.1 (by decide));rintro e Pa ⟨rfl,hi,hb,hk⟩;refine⟨_,rfl,?_⟩;replace m:=IsS102.rk_ d m hk;replace i:=IsS102.rk_ d i hk;replace n:=IsS102.rk_ d n hk;replace HK:=kh_ HK hk;replace s:=M_ (hb);replace d:=M_ (hi);(try clear hb hk hi))|((with_reducible refine gate_builtin (b:=.append) (xs:=#[.tmp 19,.tmp 25]) rfl ?_);at_builtin;refine Kd.R_append k99 w.heap.size rfl (.tmp 19) (.tmp 25) 27 99 (.agg #[(.string ⟨#[]⟩),(.string ⟨#[]⟩)]) 32 rfl Tryz.underlying27 info99 rfl (by decide) (by omega) u3 q (⟨rdOf ByteArray.empty a c,v⟩:S99) [.string (rdOf ByteArray.empty a c),.string v] (fun _=>True) (fun _=>False) rfl rfl ?aP (fun _ hk=>hk.elim) ?aF ?aO (Below.refl _ _) ?aS ?aL ?_;(case aP=>exact k99_mkM _ _ _ (⟨rdOf ByteArray.empty a c,v⟩:S99));(case aF=>exact(fun _ _=>trivial));(case aO=>exact(rp_ m.1));(case aS=>exact(ks_ HK));(case aL=>have:=ga.1;omega);intro Ja Qa ho hb hg hat;rw[←ha.1] at ho;replace i:=M_ (Kd.R_over' (rp_ i.1) (Kd.R_typed (rp_ m.1)) (by decide) hg);replace d:=M_ (IsS102.grown (IsS102.pk_ d.1) hg (IsS102.own_ne d.1 m.1 (by decide)));replace n:=M_ (Kd.R_over' (rp_ n.1) (Kd.R_typed (rp_ m.1)) (by decide) hg);replace s:=M_ (below_weaken (hs_ s.1) HL.out hb);replace HK:=M_ (KeepBut.trans (ku_ HK.1) (KeepBut.of_grown hg g) (Kd.R_base2 m.1));have ia:=M_ (ho);clear m;clear ho hb hg hat))
     go_roundg k1
     case measure=>have:=aa.1;omega
     case rel=>exact⟨(ea),(wrap64 (c+1)),(Y),(Z),rs_,H',⟨by have:=aa.1;omega⟩,⟨rp_ ia.1⟩,⟨Kd.R_mono (rp_ i.1) (fun _ hk=>trivial)⟩,⟨IsS102.pk_ d.1⟩,⟨ku_ HK.1⟩,⟨hs_ s.1⟩⟩
    have H':=M_ H
    clear H
    refine⟨?_⟩
    go_wp2
    go_roundg k1
    case measure=>have:=aa.1;omega
    case rel=>exact⟨(q),(wrap64 (c+1)),(E),(F),rs_,H',⟨by have:=aa.1;omega⟩,⟨rp_ m.1⟩,⟨rp_ i.1⟩,⟨IsS102.pk_ d.1⟩,⟨ku_ HK.1⟩,⟨hs_ s.1⟩⟩
   have fa:decide (c<(a.length:Int))=false:=decide_eq_false T
   clear T
   simp only[Option.some.injEq,Prod.mk.injEq] at H
   obtain⟨rfl,rfl,rfl⟩:=H
   go_wp2
   go_ret
   exact⟨_,rr_,rp_ m.1,IsS102.pk_ d.1,hs_ s.1,ku_ HK.1⟩
def spec_l1Plain.f (b:List Int) (c:Int) (d:Int):Option (ByteArray×Int×Int):=(spec_l1Str.f b c d (([(⟨#[97]⟩:ByteArray),(⟨#[98]⟩:ByteArray),(⟨#[120,32,121]⟩:ByteArray),(⟨#[]⟩:ByteArray),(⟨#[99,114,105,116]⟩:ByteArray),(⟨#[125,45]⟩:ByteArray)]:List ByteArray))).bind fun a=>(some (a.1,a.2.1,a.2.2))
theorem spec_l1Plain.calls (g:Nat) (b:List Int) (i:Int) (j:Int) (u:ByteArray) (v:Int) (x:Int) (n w:World) (hI:IsS102 n w g b i j) (hB:Below n.heap.size n w) (h:spec_l1Plain.f b i j=some (u,v,x)) :
  Calls Tryz.prog 93 #[.pointer (some ⟨g,0,none⟩)] w fun e w'=>e=.returned (.string u)∧IsS102 n w' g b v x∧Below n.heap.size n w'∧KeepBut w w' g none:=by
 have c:=M_ hI
 have HK:=M_ (KeepBut.refl w g none)
 have HL:=M_ hB.size
 clear hI
 have C:=M_ hB.size
 have o:=M_ hB
 clear hB
 unfold spec_l1Plain.f at h
 have H:=h;clear h
 obtain⟨k,hy_⟩:∃y_:List ByteArray,y_=(([(⟨#[97]⟩:ByteArray),(⟨#[98]⟩:ByteArray),(⟨#[120,32,121]⟩:ByteArray),(⟨#[]⟩:ByteArray),(⟨#[99,114,105,116]⟩:ByteArray),(⟨#[125,45]⟩:ByteArray)]:List ByteArray)):=⟨_,rfl⟩
 replace H:((spec_l1Str.f b i j k).bind fun d=>(some (d.1,d.2.1,d.2.2)))=some (u,v,x):=hm_
 have l:=M_ hy_;clear hy_
 replace H:=bi_ H;obtain⟨⟨p,q,r⟩,D,H⟩:=H;(try dsimp only at H)
 simp only[Option.some.injEq,Prod.mk.injEq] at H
 obtain⟨rfl,rfl,rfl⟩:=H
 go_enter Tryz.func93,Tryz.ntmps93
 go_wp2_with (first|((with_reducible refine gd_ 4 rfl ?_);refine Kd.R_lit Kd.string _ 9 ?hg (N:=4) ?hd (xs:=([(⟨#[97]⟩:ByteArray),(⟨#[98]⟩:ByteArray),(⟨#[120,32,121]⟩:ByteArray),(⟨#[]⟩:ByteArray),(⟨#[99,114,105,116]⟩:ByteArray),(⟨#[125,45]⟩:ByteArray)]:List ByteArray)) (inner:=[.string (⟨#[97]⟩:ByteArray),.string (⟨#[98]⟩:ByteArray),.string (⟨#[120,32,121]⟩:ByteArray),.string (⟨#[]⟩:ByteArray),.string (⟨#[99,114,105,116]⟩:ByteArray),.string (⟨#[125,45]⟩:ByteArray)]) (ok:=fun _=>True) (okp:=fun _=>True) ?hr ?hp (fun _ hk=>hk) trivial (Below.refl _ _) (Nat.le_refl _) (by simp) ?_;(case hd=>rfl);(case hg=>rfl);(case hr=>first|(go_simp;done)|(go_simp;rfl));(case hp=>exact(Reps.one (show Kd.M Kd.string _ _ _ (⟨#[97]⟩:ByteArray) [.string (⟨#[97]⟩:ByteArray)] from rfl) (Reps.one (show Kd.M Kd.string _ _ _ (⟨#[98]⟩:ByteArray) [.string (⟨#[98]⟩:ByteArray)] from rfl) (Reps.one (show Kd.M Kd.string _ _ _ (⟨#[120,32,121]⟩:ByteArray) [.string (⟨#[120,32,121]⟩:ByteArray)] from rfl) (Reps.one (show Kd.M Kd.string _ _ _ (⟨#[]⟩:ByteArray) [.string (⟨#[]⟩:ByteArray)] from rfl) (Reps.one (show Kd.M Kd.string _ _ _ (⟨#[99,114,105,116]⟩:ByteArray) [.string (⟨#[99,114,105,116]⟩:ByteArray)] from rfl) (Reps.one (show Kd.M Kd.string _ _ _ (⟨#[125,45]⟩:ByteArray) [.string (⟨#[125,45]⟩:ByteArray)] from rfl) (Reps.none _ _))))))));intro B E m hb hg_ hnew_;clear hg_ hnew_;(first|rw[←l.1] at m|(simp only[Int.reduceToNat] at m;rw[←l.1] at m));have a:=rl_ m HK;have s:=IsS102.bk_ c hb;have n2_:=kt_ HK hb;have t:=st_ o hb;clear c HK o;have c:=s;have HK:=n2_;have o:=t;clear s n2_ t;clear hb m;obtain⟨y,z,A⟩:=Kd.R_slice a.1;subst A)|((with_reducible refine gate_callee (f:=112) rfl ?_);refine gl_ (some 5) Tryz.func112 #[.pointer (some ⟨g,0,none⟩),.slice y k.length z] ?_;(with_reducible refine(spec_l1Str.calls g b i j _ _ k p q r n _ ?_ ?_ ?_ ?_ ?_ D.1).mono ?_);exact IsS102.pk_ c.1;exact hs_ o.1;exact cp_ ((Kd.R_reads' a.1).2.2);exact(Kd.R_reads' a.1).2.1;exact far_slice (IsS102.own_ne c.1 a.1 (by decide));rintro e F ⟨rfl,hi,hb,hk⟩;refine⟨_,rfl,?_⟩;replace a:=IsS102.rk_ c a hk;replace HK:=kh_ HK hk;replace o:=M_ (hb);replace c:=M_ (hi);(try clear hb hk hi)))
 go_ret
 exact an_ ⟨IsS102.pk_ c.1,hs_ o.1,ku_ HK.1⟩
def spec_l4Draw.f (k:Nat) (e:List Int) (g:Int) (h:Int):Option ((List S99)×Int×Int×ByteArray×Int×Int):=(spec_l2Draw.f k e g h).bind fun b=>((spec_l1Below.f e b.2.1 b.2.2 8).bind fun a=>((spec_l1Plain.f e a.2.1 a.2.2).bind fun c=>((spec_l1Int.f e c.2.1 c.2.2 (([0,2,5,20,60]:List Int))).bind fun d=>(some (b.1,a.1,wrap64 (a.1+d.1),c.1,d.2.1,d.2.2)))))
def spec_l4Draw.T2:Bool×List (List Nat×List Nat):=(true,[([],[]),([0],[0]),([],[]),([],[]),([2,3],[2,3]),([1,4],[1,4]),([0,1,2,3,4,5],[]),([6,5,4,0,1,2,3,4,5],[5,6])])
def spec_l4Draw.B2:List Nat:=[0,1,0,0,12,31,63,127]
theorem spec_l4Draw.tab2:rtab .any (opsOf Tryz.f52 2)=spec_l4Draw.T2:=by kernel_rfl
theorem spec_l4Draw.bits2:waitsOk spec_l4Draw.T2.2 spec_l4Draw.B2=true:=by kernel_rfl
theorem spec_l4Draw.calls (k:Nat) (g:Nat) (j:List Int) (E:Int) (F:Int) (r1:List S99) (r2:Int) (r3:Int) (r4:ByteArray) (r5:Int) (r6:Int) (G w:World) (hI:IsS102 G w g j E F) (hB:Below G.heap.size G w) (h:spec_l4Draw.f k j E F=some (r1,r2,r3,r4,r5,r6)) :
  Calls Tryz.prog 52 #[.pointer (some ⟨g,0,none⟩)] w fun e w'=>∃v0_:Value,e=.returned (.agg #[v0_,.int .i64 r2,.int .i64 r3,.string r4])∧Kd.R k99 99 w' w.heap.size (fun _=>True) v0_ r1∧IsS102 G w' g j r5 r6∧Below G.heap.size G w'∧KeepBut w w' g none:=by
 have hu29:=Tryz.underlying29
 have d:=M_ hI
 have HK:=M_ (KeepBut.refl w g none)
 have HL:=M_ hB.size
 clear hI
 have da:=M_ hB.size
 have q:=M_ hB
 clear hB
 unfold spec_l4Draw.f at h
 have H:=h;clear h
 replace H:=bi_ H;obtain⟨⟨r,U,V⟩,A2,H⟩:=H;(try dsimp only at H)
 replace H:=bi_ H;obtain⟨⟨l,W,X⟩,A3,H⟩:=H;(try dsimp only at H)
 replace H:=bi_ H;obtain⟨⟨s,A,B⟩,A4,H⟩:=H;(try dsimp only at H)
 obtain⟨I,hy_⟩:∃y_:List Int,y_=(([0,2,5,20,60]:List Int)):=⟨_,rfl⟩
 replace H:((spec_l1Int.f j A B I).bind fun x=>(some (r,l,wrap64 (l+x.1),s,x.2.1,x.2.2)))=some (r1,r2,r3,r4,r5,r6):=hm_
 have J:=M_ hy_;clear hy_
 replace H:=bi_ H;obtain⟨⟨L,ea,fa⟩,A5,H⟩:=H;(try dsimp only at H)
 simp only[Option.some.injEq,Prod.mk.injEq] at H
 obtain⟨rfl,rfl,rfl,rfl,rfl,rfl⟩:=H
 go_enter Tryz.func52,Tryz.ntmps52
 try go_wp2_with (first|((with_reducible refine gd_ 2 rfl ?_);refine bV_ 2 #[.slice none 0 0,.int .i64 0,.int .i64 0,.string (⟨#[]⟩:ByteArray)] 29 ?_;intro y hg w6 a hb;replace q:=st_ q hb;have Z:=Ge_.mk ((by rw[hg];exact(ks_ HK):w.heap.size≤y));replace HK:=kt_ HK hb;have va:=gt_ da Z;have O:=IsS102.nl_ d hg;replace d:=IsS102.bk_ d hb;have P:=ns_ O;clear hb hg)|((with_reducible refine gate_callee (f:=88) rfl ?_);refine gl_ (some 5) Tryz.func88 #[.pointer (some ⟨g,0,none⟩)] ?_;(with_reducible refine(spec_l2Draw.calls k g j E F r U V G _ ?_ ?_ A2.1).mono ?_);exact IsS102.pk_ d.1;exact hs_ q.1;rintro e w7 ⟨cb,rfl,ga,hi,hb,hk⟩;refine⟨_,rfl,?_⟩;replace a:=kb_ hk a;have b:=rl_ ga HK;replace HK:=kh_ HK hk;replace q:=M_ (hb);replace d:=M_ (hi);(try clear hb hk hi ga))|((with_reducible refine gate_callee (f:=69) rfl ?_);refine gl_ (some 7) Tryz.func69 #[.pointer (some ⟨g,0,none⟩),.int .i64 8] ?_;(with_reducible refine(spec_l1Below.calls g j U V 8 l W X G _ ?_ ?_ A3.1).mono ?_);exact IsS102.pk_ d.1;exact hs_ q.1;rintro e w8 ⟨rfl,hi,hb,hk⟩;refine⟨_,rfl,?_⟩;replace a:=kb_ hk a;replace b:=IsS102.rk_ d b hk;replace HK:=kh_ HK hk;replace q:=M_ (hb);replace d:=M_ (hi);(try clear hb hk hi))|((with_reducible refine gate_callee (f:=93) rfl ?_);refine gl_ (some 9) Tryz.func93 #[.pointer (some ⟨g,0,none⟩)] ?_;(with_reducible refine(spec_l1Plain.calls g j W X s A B G _ ?_ ?_ A4.1).mono ?_);exact IsS102.pk_ d.1;exact hs_ q.1;rintro e w9 ⟨rfl,hi,hb,hk⟩;refine⟨_,rfl,?_⟩;replace a:=kb_ hk a;replace b:=IsS102.rk_ d b hk;replace HK:=kh_ HK hk;replace q:=M_ (hb);replace d:=M_ (hi);(try clear hb hk hi);obtain⟨C,D,ha⟩:=Kd.R_slice b.1;subst ha)|((with_reducible refine gd_ 3 rfl ?_);refine bV_ 3 #[.slice none 0 0,.int .i64 0,.int .i64 0,.string (⟨#[]⟩:ByteArray)] 29 ?_;intro i hg wa c hb;obtain⟨b,q⟩:=u2_ hb b q;have aa:=Ge_.mk ((by rw[hg];exact(ks_ HK):w.heap.size≤i));replace HK:=kt_ HK hb;have xa:=gt_ da aa;obtain⟨z,o,a⟩:=nb_ a hg hb;have Q:=IsS102.nl_ d hg;replace d:=IsS102.bk_ d hb;have T:=ns_ Q;clear hb hg;have ya:=n2_ o;have za:=n2_ T;obtain⟨Aa,Ba,Ca,Da,Ea,Fa,Ga,Ha⟩:=bc4_ c.1))
 generalize hw_:((((wa.setCell ⟨i,0,none⟩ (.slice C r.length D)).setCell ⟨i,1,none⟩ (.int .i64 l)).setCell ⟨i,2,none⟩ (.int .i64 0)).setCell ⟨i,3,none⟩ (.string s))=ba
 have ia:=wr_ hw_ (Kd.R_mono (ok':=(fun _=>True)) (ry_ b.1 c.1) (fun _ hk=>trivial))
 have ja:Aside0 (IsS102 G ba g j A B):=⟨by rw[←hw_];exact(IsS102.pk_ d.1)⟩
 have ka:Aside0 (KeepBut w ba g none):=⟨by rw[←hw_];exact(ku_ HK.1)⟩
 replace a:=wq_ hw_ a
 replace c:=wp_ hw_ #[.slice C r.length D,.int .i64 l,.int .i64 0,.string s] c
 replace q:=wb_ hw_ q
 clear hw_
 (try clear b d HK)
 have b:=ia
 have d:=ja
 have HK:=ka
 clear ia ja ka
 obtain⟨b,a,c⟩:=y3_ b a c
 replace d:=M_ (IsS102.drew d.1)
 replace HK:=M_ (keep_drew HK.1)
 replace q:=db_ q
 refine start_ (n:=8) (S:=fun w'=>c_ w' i 0 (.slice C r.length D)∧c_ w' i 1 (.int .i64 l)∧c_ w' i 2 (.int .i64 0)∧c_ w' i 3 (.string s)) (ds:=[7]) (b_ 0 8) (by kernel_rfl) rfl rfl (e4_ c.1) (fun t=>?_);refine with_tabW spec_l4Draw.tab2 spec_l4Draw.bits2 (fun u Ia=>?_)
 generalize ba.drew=kb at b a c d HK q t ⊢
 refine p_ u ?_
 refine qw_ 2 (m_ 8 5) u ?_
 refine qt_ 1 (b_ 3 5) u Ia t ?_
 refine o1_ 3 (b_ 4 4) u (fun K hK=>?_)
 refine Kd.R_lit_step (Kd.int .i64) _ 3 ?hg (N:=14) ?hd (xs:=([0,2,5,20,60]:List Int)) (inner:=[.int .i64 0,.int .i64 2,.int .i64 5,.int .i64 20,.int .i64 60]) (ok:=fun _=>True) (okp:=fun _=>True) ?hr ?hp (fun _ hk=>hk) trivial (Below.refl _ _) (Nat.le_refl _) (by simp) ?_;(case hd=>rfl);(case hg=>rfl);(case hr=>first|(go_simp;done)|(go_simp;rfl));(case hp=>exact(Reps.one (show Kd.M (Kd.int .i64) _ _ _ 0 [.int .i64 0] from rfl) (Reps.one (show Kd.M (Kd.int .i64) _ _ _ 2 [.int .i64 2] from rfl) (Reps.one (show Kd.M (Kd.int .i64) _ _ _ 5 [.int .i64 5] from rfl) (Reps.one (show Kd.M (Kd.int .i64) _ _ _ 20 [.int .i64 20] from rfl) (Reps.one (show Kd.M (Kd.int .i64) _ _ _ 60 [.int .i64 60] from rfl) (Reps.none _ _)))))))
 intro db lb v hb hg_ hnew_
 clear hg_ hnew_
 (first|rw[←J.1] at v|(simp only[Int.reduceToNat] at v;rw[←J.1] at v))
 replace b:=rb_ b hb
 have m:=rl_ v HK
 replace d:=IsS102.bk_ d hb
 obtain⟨a,c⟩:=u2_ hb a c
 replace HK:=kt_ HK hb
 replace q:=st_ q hb
 clear hb v
 obtain⟨la,ma,Y⟩:=Kd.R_slice m.1
 (first|subst Y|(obtain⟨rfl,rfl⟩:=si_ Y))
 refine ho_ hK (e4_ c.1) (fun t=>?_)
 refine o1_ 4 (b_ 5 3) u (fun K hK=>?_)
 refine gs_ Tryz.func66 #[.pointer (some ⟨g,0,none⟩),.slice la I.length ma] ?_
 with_reducible refine(spec_l1Int.calls g j A B _ _ I L ea fa G _ ?_ ?_ ?_ ?_ ?_ A5.1).mono ?_
 exact IsS102.pk_ d.1
 exact hs_ q.1
 exact cp_ ((Kd.R_reads' m.1).2.2)
 exact(Kd.R_reads' m.1).2.1
 exact far_slice (IsS102.own_ne d.1 m.1 (by decide))
 rintro e Ja ⟨rfl,hi,hb,hk⟩
 refine⟨_,rfl,?_⟩
 replace a:=kb_ hk a
 replace b:=IsS102.rk_ d b hk
 replace c:=kb_ hk c
 replace m:=IsS102.rk_ d m hk
 replace HK:=kh_ HK hk
 replace q:=M_ (hb)
 replace d:=M_ (hi)
 (try clear hb hk hi)
 refine ho_ hK (e4_ c.1) (fun t=>?_)
 iterate 2 refine p_ u ?_
 refine l1_ 7 (b_ 8 0) u (fun K hK=>?_)
 have eb:Ja.cell? ⟨i,2,none⟩=some (.int .i64 0):=bx_ c.1 2
 have Ka:=blk_frozen c.1 2
 have na:=z.1
 have oa:=o.1
 refine skip_ (w1:=?_) (by rfl) rfl ?_ ?_
 rotate_left
 ·
  go_simp
  rfl
 refine hK.out _ _ ?_
 clear hK K
 refine done_ (done_of u.1 (by kernel_rfl)) ?_
 obtain⟨La,Ma,Na,Oa,Pa,Qa,Ra,Sa⟩:=bc4_ c.1
 have Ta:=n2_ P
 obtain⟨Ua,Va,Wa,Xa,Ya,Za,ab,bb⟩:=bc4_ a.1
 try go_wp2
 refine bodyPost_ret (results_cell_row rfl _ _ y 29 #[.slice C r.length D,.int .i64 l,.int .i64 (wrap64 (l+L)),.string s] (0,0) _ rfl (bp_ a.1) Tryz.underlying29 rfl (by kernel_rfl)) rfl ?_
 exact⟨_,rr_,Kd.R_mono (rf_ y (Kd.R_far (p:=⟨i,2,none⟩) (Kd.R_types (Kd.R_types b.1 c.1 (by decide)) a.1 (by decide)) (fun _ hk=>hk.1.2) (.int .i64 (wrap64 (l+L)))) (fun _ hk=>hk.2)) (fun _ hk=>trivial),IsS102.pk_ d.1,hs_ q.1,ku_ HK.1⟩
def spec_l7Draw.l0:Nat→Int→Int→Int→List Int→Int→Int→Int→Int→List S80→Option (Int×Int×(List S80)×Int×Int)
 | 0,_,_,_,_,_,_,_,_,_=>none
 | k+1,m,n,o,e,h,i,b,c,d=>if o>0 then ((spec_l4Draw.f k e h i).bind fun a=>((spec_Finger.f k a.1).bind fun j=>((spec_PartOf.f j n).bind fun l=>(if l=m then ((spec_PutIn.f k b c d a.1 a.2.1 a.2.2.1 a.2.2.2.1).bind fun g=>(spec_l7Draw.l0 k m n (wrap64 (o-1)) e a.2.2.2.2.1 a.2.2.2.2.2 g.1 g.2.1 g.2.2.1)) else (spec_l7Draw.l0 k m n (wrap64 (o-1)) e a.2.2.2.2.1 a.2.2.2.2.2 b c d))))) else (some (b,c,d,h,i))
def spec_l7Draw.f (k:Nat) (b:List Int) (c:Int) (d:Int) (e:Int) (g:Int):Option (Int×Int×(List S80)×Int×Int):=(spec_l1Below.f b c d 8).bind fun a=>(spec_l7Draw.l0 k e g a.1 b a.2.1 a.2.2 (-1) 0 ([]:List S80))
theorem spec_l7Draw.calls (k:Nat) (g:Nat) (u:List Int) (V:Int) (W:Int) (a1:Int) (a2:Int) (r1:Int) (r2:Int) (r3:List S80) (r4:Int) (r5:Int) (N w:World) (hI:IsS102 N w g u V W) (hB:Below N.heap.size N w) (h:spec_l7Draw.f k u V W a1 a2=some (r1,r2,r3,r4,r5)) :
  Calls Tryz.prog 90 #[.pointer (some ⟨g,0,none⟩),.int .i64 a1,.int .i64 a2] w fun e w'=>∃v2_:Value,e=.returned (.agg #[.int .i64 r1,.int .i64 r2,v2_])∧Kd.S k80 80 w' w.heap.size (fun _=>True) v2_ r3∧IsS102 N w' g u r4 r5∧Below N.heap.size N w'∧KeepBut w w' g none:=by
 have hu26:=Tryz.underlying26
 have hu29:=Tryz.underlying29
 have o:=M_ hI
 have HK:=M_ (KeepBut.refl w g none)
 have HL:=M_ hB.size
 clear hI
 have na:=M_ hB.size
 have D:=M_ hB
 clear hB
 unfold spec_l7Draw.f at h
 have H:=h;clear h
 replace H:=bi_ H;obtain⟨⟨ga,ha,ia⟩,A4,H⟩:=H;(try dsimp only at H)
 have H':=M_ H
 clear H
 go_enter Tryz.func90,Tryz.ntmps90
 go_wp2_with (first|((with_reducible refine gd_ 6 rfl ?_);refine bV_ 6 #[.int .i64 0,.int .i64 0,.slice none 0 0] 26 ?_;intro J hg w5 b hb;replace D:=st_ D hb;have oa:=Ge_.mk ((by rw[hg];exact(ks_ HK):w.heap.size≤J));replace HK:=kt_ HK hb;have Pa:=gt_ na oa;have X:=IsS102.nl_ o hg;replace o:=IsS102.bk_ o hb;have Y:=ns_ X;clear hb hg)|((with_reducible refine gd_ 7 rfl ?_);refine bV_ 7 #[.int .i64 0,.int .i64 0,.slice none 0 0] 26 ?_;intro O hg w6 d hb;replace D:=st_ D hb;have pa:=Ge_.mk ((by rw[hg];exact(ks_ HK):w.heap.size≤O));replace HK:=kt_ HK hb;have Qa:=gt_ na pa;obtain⟨qa,t,b⟩:=nb_ b hg hb;have Z:=IsS102.nl_ o hg;replace o:=IsS102.bk_ o hb;have z:=ns_ Z;clear hb hg;have Ub:=n2_ t;have Vb:=n2_ z;obtain⟨Wb,Xb,Yb,Zb,ac,bc⟩:=bc3_ d.1)|((with_reducible refine gate_callee (f:=69) rfl ?_);refine gl_ (some 12) Tryz.func69 #[.pointer (some ⟨g,0,none⟩),.int .i64 8] ?_;(with_reducible refine(spec_l1Below.calls g u V W 8 ga ha ia N _ ?_ ?_ A4.1).mono ?_);exact IsS102.pk_ o.1;exact hs_ D.1;rintro e fc ⟨rfl,hi,hb,hk⟩;refine⟨_,rfl,?_⟩;replace b:=kc_ hk b #[.int .i64 0,.int .i64 0,.slice none 0 0];replace d:=kc_ hk d #[.int .i64 (-1),.int .i64 0,.slice none 0 0];replace HK:=kh_ HK hk;replace D:=M_ (hb);replace o:=M_ (hi);(try clear hb hk hi)))
 go_loopg [8] k (fun kq v8 w'=>∃(A:Int) (v:Int) (x:Int) (i:Int) (j:Int) (l:List S80) (q:Value),v8=.int .i64 A∧Aside0 (spec_l7Draw.l0 kq a1 a2 A u v x i j l=some (r1,r2,r3,r4,r5))∧Aside0 (kq≤k)∧Aside0 (Kd.S k80 80 w' w.heap.size (fun _=>True) q l)∧Aside0 (w'.heap[J]?=some (.cells #[.int .i64 0,.int .i64 0,(.slice none 0 0)] 26 (0,0)))∧Aside0 (w'.heap[O]?=some (.cells #[.int .i64 i,.int .i64 j,q] 26 (0,0)))∧Aside0 (IsS102 N w' g u v x)∧Aside0 (KeepBut w w' g none)∧Aside0 (Below N.heap.size N w'))
 case atStart=>exact⟨(ga),(ha),(ia),((-1)),(0),(([]:List S80)),(.slice none 0 0),rs_,H',⟨Nat.le_refl _⟩,⟨ni_⟩,⟨bq_ b.1⟩,⟨bq_ d.1⟩,⟨IsS102.pk_ o.1⟩,⟨ku_ HK.1⟩,⟨hs_ D.1⟩⟩
 case round=>
  clear H'
  obtain⟨A,v,x,i,j,l,q,rfl,HA,fa,a,b,d,o,HK,D⟩:=hrel
  cases gk with
  | zero=>exact absurd HA.1 (by simp[spec_l7Draw.l0])
  | succ k1=>
   have H:=HA.1
   clear HA
   simp only[spec_l7Draw.l0] at H
   replace H:=ie_ H;rcases H with⟨aa,H⟩|⟨aa,H⟩
   ·
    have ra:decide (0<A)=true:=decide_eq_true aa
    clear aa
    replace H:=bi_ H;obtain⟨⟨r,E,F,G,K,L⟩,Sa,H⟩:=H;(try dsimp only at H)
    replace H:=bi_ H;obtain⟨M,Ta,H⟩:=H
    replace H:=bi_ H;obtain⟨I,ya,H⟩:=H
    have AHz_:=M_ H
    clear H
    go_wp2_with (first|((with_reducible refine gate_callee (f:=52) rfl ?_);refine gl_ (some 18) Tryz.func52 #[.pointer (some ⟨g,0,none⟩)] ?_;(with_reducible refine(spec_l4Draw.calls k1 g u v x r E F G K L N _ ?_ ?_ Sa.1).mono ?_);exact IsS102.pk_ o.1;exact hs_ D.1;rintro e hc ⟨cc,rfl,P,hi,hb,hk⟩;refine⟨_,rfl,?_⟩;replace a:=M_ (Kd.S_mono (Kd.S_told (Kd.S_oldK (IsS102.apartS (IsS102.pk_ o.1) (sp_ a.1) (by decide)) hk) (Kd.R_base P)) (fun _ h_=>h_.1));replace b:=kb_ hk b;replace d:=kb_ hk d;have m:=rl_ P HK;replace HK:=kh_ HK hk;replace D:=M_ (hb);replace o:=M_ (hi);(try clear hb hk hi P))|((with_reducible refine gd_ 9 rfl ?_);refine bV_ 9 #[.slice none 0 0,.int .i64 0,.int .i64 0,.string (⟨#[]⟩:ByteArray)] 29 ?_;intro s hg Ua p hb;replace a:=se_ a hg hb;obtain⟨m,D⟩:=u2_ hb m D;have sa:=Ge_.mk ((by rw[hg];exact(ks_ HK):w.heap.size≤s));replace HK:=kt_ HK hb;have Va:=gt_ na sa;obtain⟨ta,Q,b⟩:=nb_ b hg hb;obtain⟨ua,T,d⟩:=nb_ d hg hb;have ba:=IsS102.nl_ o hg;replace o:=IsS102.bk_ o hb;have ca:=ns_ ba;clear hb hg;obtain⟨B,y,za⟩:=Kd.R_slice m.1;subst za;have Wa:=n2_ Q;have Xa:=n2_ T;have Ya:=n2_ ca;obtain⟨Za,ab,bb,cb,db,eb,fb,gb⟩:=bc4_ p.1)|(((with_reducible refine gate_callee (f:=60) rfl ?_);refine gl_ (some 21) Tryz.func60 #[.slice B r.length y] ?_;(with_reducible refine(spec_Finger.calls k1 _ _ r M _ ?side1 ?side2 Ta.1).mono ?_);(case side1=>refine(Kd.R_reads' (e:=99) (base:=w.heap.size) (ok:=fun k_=>True) (n:=r.length) (c:=y) ?_).2.2;exact(ry_ m.1 p.1));(case side2=>exact(Kd.R_reads' m.1).2.1);rintro e C ⟨rfl,hb⟩;refine⟨_,rfl,?_⟩;replace a:=M_ (Kd.S_below (sf_ s a.1 (fun _ hk=>hk.2)) hb);replace m:=M_ (Kd.R_below (ry_ m.1 p.1) hb);obtain⟨b,d⟩:=u2_ hb b d;replace o:=M_ (IsS102.below (show IsS102 N ((((Ua.setCell ⟨s,0,none⟩ (.slice B r.length y)).setCell ⟨s,1,none⟩ (.int .i64 E)).setCell ⟨s,2,none⟩ (.int .i64 F)).setCell ⟨s,3,none⟩ (.string G)) g u K L from IsS102.pk_ o.1) hb);replace p:=by_ p #[.slice B r.length y,.int .i64 E,.int .i64 F,.string G] hb;replace HK:=kt_ HK hb;replace D:=st_ D hb;(try clear hb));refine Aside0.out ?_))
    have H:=AHz_.1
    clear AHz_
    replace H:=ie_ H;rcases H with⟨U,H⟩|⟨U,H⟩
    ·
     have va:(I==a1)=true:=beq_iff_eq.mpr U
     have wa:(I !=a1)=false:=bne_eq_false_iff_eq.mpr U
     clear U
     replace H:=bi_ H;obtain⟨⟨ja,ka,da,Aa⟩,ib,H⟩:=H;(try dsimp only at H)
     have H':=M_ H
     clear H
     refine⟨?_⟩
     go_wp2_with (first|((with_reducible refine gate_callee (f:=77) rfl ?_);refine gl_ (some 23) Tryz.func77 #[.int .i64 M,.int .i64 a2] ?_;(with_reducible refine(spec_PartOf.calls M a2 I _ ya.1).mono ?_);rintro e w' ⟨rfl,⟨nd,rfl⟩⟩;refine⟨_,rfl,?_⟩;(try (rw[drewN_self C];generalize hq_:World.drewN C _=C;replace m:Aside0 (Kd.R k99 99 C w.heap.size (fun _=>True) (.slice B r.length y) r):=⟨by rw[←hq_];exact(rp_ m.1)⟩;replace a:Aside0 (Kd.S k80 80 C w.heap.size (fun k_=>some k_≠(.slice B r.length y:Value).ownBlock∧k_≠s) q l):=⟨by rw[←hq_];exact(Kd.S_mono (sp_ a.1) (fun _ hk=>⟨hk.1.2,hk.2⟩))⟩;replace b:Aside0 (C.heap[J]?=some (.cells #[.int .i64 0,.int .i64 0,.slice none 0 0] 26 (0,0))):=⟨by rw[←hq_];exact(pb_ b.1)⟩;replace d:Aside0 (C.heap[O]?=some (.cells #[.int .i64 i,.int .i64 j,q] 26 (0,0))):=⟨by rw[←hq_];exact(pb_ d.1)⟩;replace p:Aside0 (C.heap[s]?=some (.cells #[.slice B r.length y,.int .i64 E,.int .i64 F,.string G] 29 (0,0))):=⟨by rw[←hq_];exact(pb_ p.1)⟩;replace o:Aside0 (IsS102 N C g u K L):=⟨by rw[←hq_];exact(IsS102.pk_ o.1)⟩;replace HK:Aside0 (KeepBut w C g none):=⟨by rw[←hq_];exact(ku_ HK.1)⟩;replace D:Aside0 (Below N.heap.size N C):=⟨by rw[←hq_];exact(hs_ D.1)⟩;clear hq_));have jb:=n2_ t;have kb:=n2_ z;obtain⟨lb,mb,nb,ob,pb,qb⟩:=bc3_ d.1;obtain⟨rb,sb,tb,ub,vb,wb,xb,yb⟩:=bc4_ p.1;obtain⟨Ba,Ca,Da⟩:=Kd.S_slice a.1;subst Da)|((with_reducible refine gate_callee (f:=9) rfl ?_);refine gl_ (some 29) Tryz.func9 #[.agg #[.int .i64 i,.int .i64 j,.slice Ba l.length Ca],.agg #[.slice B r.length y,.int .i64 E,.int .i64 F,.string G]] ?_;(with_reducible refine(spec_PutIn.calls k1 i j _ _ l _ _ r E F G ja ka da Aa _ ?_ ?_ ?_ ?_ ib.1).mono ?_);exact cp_ ((Kd.S_reads' a.1).2.2);exact(Kd.S_reads' a.1).2.1;exact cp_ ((Kd.R_reads' m.1).2.2);exact(Kd.R_reads' m.1).2.1;rintro e jc ⟨dc,rfl,P,hb⟩;refine⟨_,rfl,?_⟩;have ea:=M_ (Kd.S_lower (Kd.S_newB (Kd.S_new' (Kd.S_new' P (Kd.S_lt (sp_ a.1))) (Kd.R_lt (rp_ m.1))) (pb_ p.1)) (ks_ HK));replace a:=M_ (Kd.S_elder' (sp_ a.1) (Kd.S_base P) hb);obtain⟨m,b,d⟩:=u3_ hb m b d;replace o:=IsS102.bk_ o hb;replace p:=bk2_ p hb;replace HK:=kt_ HK hb;replace D:=st_ D hb;(try clear hb P);obtain⟨zb,Ab,Bb,Cb,Db,Eb⟩:=bc3_ d.1;obtain⟨Ea,Fa,Ga⟩:=Kd.S_slice ea.1;subst Ga))
     go_roundg k1
     case measure=>have:=fa.1;omega
     case rel=>exact⟨(wrap64 (A-1)),(K),(L),(ja),(ka),(da),(.slice Ea da.length Fa),rs_,H',⟨by have:=fa.1;omega⟩,⟨Kd.S_mono (sy_ ea.1 d.1) (fun _ hk=>trivial)⟩,⟨bq_ b.1⟩,⟨bp_ d.1⟩,⟨IsS102.pk_ o.1⟩,⟨ku_ HK.1⟩,⟨hs_ D.1⟩⟩
    have va:(I==a1)=false:=beq_eq_false_iff_ne.mpr U
    have wa:(I !=a1)=true:=bne_iff_ne.mpr U
    have H':=M_ H
    clear H
    refine⟨?_⟩
    go_wp2_with (first|((with_reducible refine gate_callee (f:=77) rfl ?_);refine gl_ (some 23) Tryz.func77 #[.int .i64 M,.int .i64 a2] ?_;(with_reducible refine(spec_PartOf.calls M a2 I _ ya.1).mono ?_);rintro e w' ⟨rfl,⟨nd,rfl⟩⟩;refine⟨_,rfl,?_⟩))
    go_roundg k1
    case measure=>have:=fa.1;omega
    case rel=>exact⟨(wrap64 (A-1)),(K),(L),(i),(j),(l),(q),rs_,H',⟨by have:=fa.1;omega⟩,⟨Kd.S_mono (sp_ a.1) (fun _ hk=>trivial)⟩,⟨bq_ b.1⟩,⟨bq_ d.1⟩,⟨IsS102.pk_ o.1⟩,⟨ku_ HK.1⟩,⟨hs_ D.1⟩⟩
   have ra:decide (0<A)=false:=decide_eq_false aa
   clear aa
   simp only[Option.some.injEq,Prod.mk.injEq] at H
   obtain⟨rfl,rfl,rfl,rfl,rfl⟩:=H
   have Fb:=n2_ t
   have Gb:=n2_ z
   obtain⟨Hb,Ib,Jb,Kb,Lb,Mb⟩:=bc3_ d.1
   have Nb:=n2_ Y
   obtain⟨Ob,Pb,Qb,Rb,Sb,Tb⟩:=bc3_ b.1
   obtain⟨Ha,Ia,Ja⟩:=Kd.S_slice a.1
   subst Ja
   go_wp2
   refine bodyPost_ret (results_cell_row rfl _ _ J 26 #[.int .i64 i,.int .i64 j,.slice Ha l.length Ia] (0,0) _ rfl (bp_ b.1) Tryz.underlying26 rfl (by kernel_rfl)) rfl ?_
   exact⟨_,rr_,Kd.S_mono (sy_ a.1 b.1) (fun _ hk=>trivial),IsS102.pk_ o.1,hs_ D.1,ku_ HK.1⟩
end Go.Proofs.YtanfohlpkppeiaaGreat.Print
end
