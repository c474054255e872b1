import Derived.Test.YtanfohlpkppeiaaGreatMFnStoresBent1
import Derived.Sort.LotA
import Derived.Shelf.GgSortMore.Stable
import Derived.Shelf.GgSortFunc.SmallK
import Derived.Shelf.GgSortFunc.SW
import Derived.Laws.Cover1
section
namespace Go.Proofs.YtanfohlpkppeiaaGreat.Print
open Go.RowKit Go.Proofs.YtanfohlpkppeiaaGreatV.PrintWords Go.Proofs.YtanfohlpkppeiaaGreatV.PrintLast Go.Proofs.YtanfohlpkppeiaaGreatV.PrintMore
attribute [local go_sem] max2_int min2_int max_two min_two max_three min_three max_four min_four
set_option linter.unusedVariables false
set_option linter.unusedSimpArgs false
set_option maxHeartbeats 80000000
set_option maxRecDepth 100000
def impl_PutAlarm.f (k:Nat) (e:List S26) (d:List S99) (g:Int) (h:Int) (i:ByteArray):Option ((List S26)×Bool):=(impl_copyStore.f k e).bind fun c=>(if (e.length:Int)=0 then (some (c,false)) else ((impl_HomeOf.f k e d).bind fun a=>(if 0≤a then (if a<(e.length:Int) then ((impl_PutIn.f k ((rd_T26 e a).f0) ((rd_T26 e a).f1) ((rd_T26 e a).f2) d g h i).bind fun b=>(if a<(c.length:Int) then (some ((c.set (a:Int).toNat (⟨b.1,b.2.1,b.2.2.1⟩:S26)),b.2.2.2)) else (none))) else (none)) else (none))))
def impl_PutAlarm.T5:Bool×List (List Nat×List Nat):=(true,[([],[]),([],[]),([0,1],[0,1]),([2],[2]),([],[]),([3,4],[3,4]),([5],[5]),([6],[6]),([6],[6]),([],[]),([9,7,5,0,1,2,3,4,5,6,7,9],[7,9]),([8,10,0,1,2,3,4,5,6,7,8,9,10],[8])])
def impl_PutAlarm.B5:List Nat:=[0,0,3,7,0,31,63,127,127,0,767,2047]
theorem impl_PutAlarm.tab5:rtab .any (opsOf Tryz.f29 5)=impl_PutAlarm.T5:=by kernel_rfl
theorem impl_PutAlarm.bits5:waitsOk impl_PutAlarm.T5.2 impl_PutAlarm.B5=true:=by kernel_rfl
theorem impl_PutAlarm.calls (k:Nat) (A0:Option Addr) (c0:Nat) (G:List S26) (O:Option Addr) (P:Nat) (z:List S99) (I:Int) (J:Int) (L:ByteArray) (r1:List S26) (r2:Bool) (w:World) (Ra:Kd.C k26 w A0 G.length G) (Sa:G.length≤c0) (sa:Kd.C k99 w O z.length z) (ta:z.length≤P) (h:impl_PutAlarm.f k G z I J L=some (r1,r2)) :
  Calls Tryz.prog 29 #[.slice A0 G.length c0,.agg #[.slice O z.length P,.int .i64 I,.int .i64 J,.string L]] w fun e w'=>∃v0_:Value,e=.returned (.tuple #[v0_,.bool r2])∧Kd.R k26 26 w' w.heap.size (fun _=>True) v0_ r1∧Below w.heap.size w w':=by
 have hu29:=Tryz.underlying29
 have hu26:=Tryz.underlying26
 have za:=M_ Ra
 have Ja:=M_ Sa
 clear Ra Sa
 have na:=M_ sa
 have oa:=M_ ta
 clear sa ta
 have x:=M_ (Below.refl w.heap.size w)
 unfold impl_PutAlarm.f at h
 have H:=h;clear h
 replace H:=bi_ H;obtain⟨D,A3,H⟩:=H
 have AHz_:=M_ H
 clear H
 go_enter Tryz.func29,Tryz.ntmps29
 go_wp2_with (first|(((with_reducible refine gd_ 3 rfl ?_);refine bV_ 3 #[.slice O z.length P,.int .i64 I,.int .i64 J,.string L] 29 ?_;intro d hg w5 a hb;have xb:=gq_ hg x;replace x:=st_ x hb;clear hb hg);refine Aside0.out ?_))
 have H:=AHz_.1
 clear AHz_
 replace H:=ie_ H;rcases H with⟨c4,H⟩|⟨c4,H⟩
 ·
  have Ta:((G.length:Int)==0)=true:=beq_iff_eq.mpr c4
  have Ua:((G.length:Int) !=0)=false:=bne_eq_false_iff_eq.mpr c4
  clear c4
  simp only[Option.some.injEq,Prod.mk.injEq] at H
  obtain⟨rfl,rfl⟩:=H
  refine⟨?_⟩
  go_wp2_with (first|((with_reducible refine gate_callee (f:=84) rfl ?_);refine gl_ (some 11) Tryz.func84 #[.slice A0 G.length c0] ?_;(with_reducible refine(impl_copyStore.calls k _ _ G D _ ?_ ?_ A3.1).mono ?_);exact cp_ ((Kd.C_below za.1 x.1));exact Ja.1;rintro e w6 ⟨ua,rfl,V,hb⟩;refine⟨_,rfl,?_⟩;obtain⟨aa,pa⟩:=Kd.R_name V;have c:=M_ (Kd.R_lower (Kd.R_newB (Kd.R_gez pa V) (pb_ a.1)) (below_size (hs_ x.1)));obtain⟨a,x⟩:=u2_ hb a x;(try clear hb V)))
  go_ret2
  exact⟨_,rr_,Kd.R_mono (rp_ c.1) (fun _ hk=>trivial),hs_ x.1⟩
 have Ta:((G.length:Int)==0)=false:=beq_eq_false_iff_ne.mpr c4
 have Ua:((G.length:Int) !=0)=true:=bne_iff_ne.mpr c4
 have Xb:¬(G=[]):=fun h_=>c4 (by rw[h_];rfl)
 replace H:=bi_ H;obtain⟨b,A7,H⟩:=H
 replace H:=i2_ H;obtain⟨Yb,Zb,H⟩:=H
 replace H:=bi_ H;obtain⟨⟨M,N,Q,ea⟩,Va,H⟩:=H;(try dsimp only at H)
 replace H:=id_ H;obtain⟨yb,H⟩:=H
 obtain⟨Ea,hy_⟩:∃y_:List S26,y_=(D.set (b:Int).toNat (⟨M,N,Q⟩:S26)):=⟨_,rfl⟩
 replace H:(some (Ea,ea))=some (r1,r2):=hm_
 have La:=M_ hy_;clear hy_
 simp only[Option.some.injEq,Prod.mk.injEq] at H
 obtain⟨rfl,rfl⟩:=H
 refine⟨?_⟩
 try go_wp2_with (first|((with_reducible refine gate_callee (f:=84) rfl ?_);refine gl_ (some 11) Tryz.func84 #[.slice A0 G.length c0] ?_;(with_reducible refine(impl_copyStore.calls k _ _ G D _ ?_ ?_ A3.1).mono ?_);exact cp_ ((Kd.C_below za.1 x.1));exact Ja.1;rintro e gc ⟨ua,rfl,V,hb⟩;refine⟨_,rfl,?_⟩;obtain⟨aa,pa⟩:=Kd.R_name V;have c:=M_ (Kd.R_lower (Kd.R_newB (Kd.R_gez pa V) (pb_ a.1)) (below_size (hs_ x.1)));obtain⟨a,x⟩:=u2_ hb a x;(try clear hb V);obtain⟨zb,Ab,Bb,Cb,Db,Eb,Fb,Gb⟩:=bc4_ a.1)|((with_reducible refine gate_callee (f:=47) rfl ?_);refine gl_ (some 19) Tryz.func47 #[.slice A0 G.length c0,.slice O z.length P] ?_;(with_reducible refine(impl_HomeOf.calls k _ _ G _ _ z b _ ?_ ?_ ?_ ?_ A7.1).mono ?_);exact cp_ ((Kd.C_below za.1 x.1));exact Ja.1;exact cp_ ((Kd.C_below na.1 x.1));exact oa.1;rintro e Hb ⟨rfl,hb⟩;refine⟨_,rfl,?_⟩;obtain⟨c,a,x⟩:=u3_ hb c a x;(try clear hb)))
 obtain⟨c,a,x⟩:=y3_ c a x
 obtain⟨va,wa⟩:0≤(b:Int)∧b<(G.length:Int):=pq_
 obtain⟨F,W,X,Wa,E,T,Y,ia,ja⟩:=at_T26 za.1 b va wa
 have g:=Y
 have l:=T
 have m:=E
 cases Wa
 replace E:=c2_ x E T;clear T;obtain⟨E,T⟩:=E
 replace Y:=cl_ x.1 Y
 have ba:=M_ ja
 have ka:=M_ ia
 clear ja ia
 replace va:=eq_true va;replace wa:=eq_true wa
 refine start_ (n:=12) (S:=fun w'=>c_ w' d 0 (.slice O z.length P)∧c_ w' d 1 (.int .i64 I)∧c_ w' d 2 (.int .i64 J)∧c_ w' d 3 (.string L)∧w'.cell? (F.add ((b).toNat*3))=some (.int .i64 ((rd_T26 G b).f0))∧d_ w' (F.add ((b).toNat*3)) 1 (.int .i64 ((rd_T26 G b).f1))∧d_ w' (F.add ((b).toNat*3)) 2 (.slice W ((rd_T26 G b).f2).length X)) (ds:=[]) (b_ 0 12) (by kernel_rfl) rfl rfl ⟨bx_ a.1 0,bx_ a.1 1,bx_ a.1 2,bx_ a.1 3,((x.1.cell (World.block_lt_of_cell? w _ m)).trans m),((x.1.cell (World.block_lt_of_cell? w _ l)).trans l),((x.1.cell (World.block_lt_of_cell? w _ g)).trans g)⟩ (fun r=>?_);refine with_tabW impl_PutAlarm.tab5 impl_PutAlarm.bits5 (fun Z Ib=>?_)
 generalize Hb.drew=hc at c a x ba E T Y r ⊢
 iterate 3 refine p_ Z ?_
 iterate 2 refine t0_ Z Ib r ?_
 refine join_ (σ:=Value×Nat×Nat) 2 (b_ 10 2) (fun s_=>[(26,.tuple #[.agg #[.int .i64 M,.int .i64 N,s_.1],.bool ea]),(8,.pointer (some ⟨s_.2.2,0,none⟩)),(20,.tuple #[.agg #[.int .i64 M,.int .i64 N,s_.1],.bool ea]),(27,.agg #[.int .i64 M,.int .i64 N,s_.1]),(28,.bool ea)]) (fun s_ w'=>(c_ w' d 0 (.slice O z.length P)∧c_ w' d 1 (.int .i64 I)∧c_ w' d 2 (.int .i64 J)∧c_ w' d 3 (.string L)∧w'.cell? (F.add ((b).toNat*3))=some (.int .i64 ((rd_T26 G b).f0))∧d_ w' (F.add ((b).toNat*3)) 1 (.int .i64 ((rd_T26 G b).f1))∧d_ w' (F.add ((b).toNat*3)) 2 (.slice W ((rd_T26 G b).f2).length X))∧(Kd.R k26 26 w' w.heap.size (fun k_=>k_≠d∧k_≠s_.2.2∧aa≤k_∧k_<s_.2.1) ua D)∧(Kd.S k80 80 w' w.heap.size (fun k_=>k_≠d∧s_.2.1≤k_) s_.1 Q)∧(w'.heap[d]?=some (.cells #[.slice O z.length P,.int .i64 I,.int .i64 J,.string L] 29 (0,0)))∧(w'.heap[s_.2.2]?=some (.cells #[.int .i64 0,.int .i64 0,.slice none 0 0] 26 (0,0)))∧(w.heap.size≤s_.2.2)∧(w.heap.size≤s_.2.2)∧(d≠s_.2.2)∧(s_.2.2≠d)∧(Below w.heap.size w w')) ?_ ?_
 rotate_left
 ·
  intro xa
  refine two_ (i:=5) (j:=9) (Ni:=some 26) (Nj:=some 8) (b_ 6 6) (m_ 12 543) rfl rfl rfl rfl (two_of Z.1 (by kernel_rfl)) (by decide) (by decide) (fun K hK=>?_) (fun K hK=>?_)
  ·
   skip
   refine gs_ Tryz.func8 #[.agg #[.int .i64 ((rd_T26 G b).f0),.int .i64 ((rd_T26 G b).f1),.slice W ((rd_T26 G b).f2).length X],.agg #[.slice O z.length P,.int .i64 I,.int .i64 J,.string L]] ?_
   with_reducible refine(impl_PutIn.calls k ((rd_T26 G b).f0) ((rd_T26 G b).f1) _ _ ((rd_T26 G b).f2) _ _ z I J L M N Q ea _ ?_ ?_ ?_ ?_ Va.1).mono ?_
   exact cp_ ((Kd.C_below ba.1 x.1))
   exact ka.1
   exact cp_ ((Kd.C_below na.1 x.1))
   exact oa.1
   rintro e Jb ⟨la,rfl,V,hb⟩
   refine⟨_,rfl,?_⟩
   obtain⟨B,ca⟩:=Kd.S_name V
   replace c:=ru_ ca (rp_ c.1) hb
   have A:=M_ (Kd.S_lower (Kd.S_newB (Kd.S_gez ca V) (pb_ a.1)) (below_size (hs_ x.1)))
   obtain⟨a,x⟩:=u2_ hb a x
   (try clear hb V)
   refine ho_ hK ⟨bx_ a.1 0,bx_ a.1 1,bx_ a.1 2,bx_ a.1 3,((x.1.cell (World.block_lt_of_cell? w _ m)).trans m),((x.1.cell (World.block_lt_of_cell? w _ l)).trans l),((x.1.cell (World.block_lt_of_cell? w _ g)).trans g)⟩ (fun r=>?_)
   iterate 3 refine p_ Z ?_
   refine o1_ 9 (b_ 10 2) Z (fun K hK=>?_)
   refine bs1_ 8 #[.int .i64 0,.int .i64 0,.slice none 0 0] 26 ?_
   intro q hg Kb ma hb
   replace c:=M_ (Kd.R_below (Kd.R_elderB (rp_ c.1) q (Nat.le_of_eq hg.symm)) hb)
   replace A:=sb_ A hb
   have o:=M_ (ma)
   have y:=gq_ hg x
   have fa:=gq_ hg x
   replace x:=st_ x hb
   have u:=nk_ a hg
   have s:=Ne_.mk (ng_ a.1 hg)
   replace a:=bk2_ a hb
   clear hb ma hg
   refine ho_ hK ⟨bx_ a.1 0,bx_ a.1 1,bx_ a.1 2,bx_ a.1 3,((x.1.cell (World.block_lt_of_cell? w _ m)).trans m),((x.1.cell (World.block_lt_of_cell? w _ l)).trans l),((x.1.cell (World.block_lt_of_cell? w _ g)).trans g)⟩ (fun r=>?_)
   exact norm_ (by simp only[putAll,fr_]) (xa (la,B,q) _ ⟨r,(Kd.R_mono (rp_ c.1) (fun _ hk=>⟨hk.1.1.2,⟨hk.2,⟨hk.1.1.1.2,hk.1.2⟩⟩⟩)),(Kd.S_mono (sp_ A.1) (fun _ hk=>⟨hk.2,hk.1.2⟩)),(pb_ a.1),(pb_ o.1),y.1,fa.1,u.1,s.1,(hs_ x.1)⟩)
  skip
  refine bs1_ 8 #[.int .i64 0,.int .i64 0,.slice none 0 0] 26 ?_
  intro q hg Jb ma hb
  replace c:=M_ (Kd.R_below (Kd.R_elderB (rp_ c.1) q (Nat.le_of_eq hg.symm)) hb)
  have o:=M_ (ma)
  have y:=gq_ hg x
  have fa:=gq_ hg x
  replace x:=st_ x hb
  have u:=nk_ a hg
  have s:=Ne_.mk (ng_ a.1 hg)
  replace a:=bk2_ a hb
  clear hb ma hg
  refine ho_ hK ⟨bx_ a.1 0,bx_ a.1 1,bx_ a.1 2,bx_ a.1 3,((x.1.cell (World.block_lt_of_cell? w _ m)).trans m),((x.1.cell (World.block_lt_of_cell? w _ l)).trans l),((x.1.cell (World.block_lt_of_cell? w _ g)).trans g)⟩ (fun r=>?_)
  refine o1_ 5 (m_ 12 575) Z (fun K hK=>?_)
  refine gs_ Tryz.func8 #[.agg #[.int .i64 ((rd_T26 G b).f0),.int .i64 ((rd_T26 G b).f1),.slice W ((rd_T26 G b).f2).length X],.agg #[.slice O z.length P,.int .i64 I,.int .i64 J,.string L]] ?_
  with_reducible refine(impl_PutIn.calls k ((rd_T26 G b).f0) ((rd_T26 G b).f1) _ _ ((rd_T26 G b).f2) _ _ z I J L M N Q ea _ ?_ ?_ ?_ ?_ Va.1).mono ?_
  exact cp_ ((Kd.C_below ba.1 x.1))
  exact ka.1
  exact cp_ ((Kd.C_below na.1 x.1))
  exact oa.1
  rintro e Kb ⟨la,rfl,V,hb⟩
  refine⟨_,rfl,?_⟩
  obtain⟨B,ca⟩:=Kd.S_name V
  replace c:=ru_ ca (rp_ c.1) hb
  have A:=M_ (Kd.S_lower (Kd.S_newB (Kd.S_gez ca V) (pb_ a.1)) (below_size (hs_ x.1)))
  obtain⟨a,o,x⟩:=u3_ hb a o x
  (try clear hb V)
  refine ho_ hK ⟨bx_ a.1 0,bx_ a.1 1,bx_ a.1 2,bx_ a.1 3,((x.1.cell (World.block_lt_of_cell? w _ m)).trans m),((x.1.cell (World.block_lt_of_cell? w _ l)).trans l),((x.1.cell (World.block_lt_of_cell? w _ g)).trans g)⟩ (fun r=>?_)
  refine qw_ 6 (m_ 12 639) Z ?_
  refine qw_ 7 (m_ 12 767) Z ?_
  refine qw_ 8 (b_ 10 2) Z ?_
  exact norm_ (by simp only[putAll,fr_]) (xa (la,B,q) _ ⟨r,(Kd.R_mono (rp_ c.1) (fun _ hk=>⟨hk.1.1.2,⟨hk.1.2,⟨hk.1.1.1.2,hk.2⟩⟩⟩)),(Kd.S_mono (sp_ A.1) (fun _ hk=>⟨hk.2,hk.1.2⟩)),(pb_ a.1),(pb_ o.1),y.1,fa.1,u.1,s.1,(hs_ x.1)⟩)
 rintro ⟨la,B,q⟩ U ⟨Lb,Xa,Ya,Za,ab,bb,cb,db,eb,fb⟩
 replace c:Aside0 (Kd.R k26 26 U w.heap.size (fun k_=>k_≠d∧k_≠q∧aa≤k_∧k_<B) ua D):=⟨Xa⟩
 have A:Aside0 (Kd.S k80 80 U w.heap.size (fun k_=>k_≠d∧B≤k_) la Q):=⟨Ya⟩
 replace a:Aside0 (U.heap[d]?=some (.cells #[.slice O z.length P,.int .i64 I,.int .i64 J,.string L] 29 (0,0))):=⟨Za⟩
 have o:Aside0 (U.heap[q]?=some (.cells #[.int .i64 0,.int .i64 0,.slice none 0 0] 26 (0,0))):=⟨ab⟩
 have y:=Ge_.mk bb
 have fa:=Ge_.mk cb
 have u:=Ne_.mk db
 have s:=Ne_.mk eb
 replace x:Aside0 (Below w.heap.size w U):=⟨fb⟩
 clear Xa Ya Za ab bb cb db eb fb
 have r:c_ U d 0 (.slice O z.length P)∧c_ U d 1 (.int .i64 I)∧c_ U d 2 (.int .i64 J)∧c_ U d 3 (.string L)∧U.cell? (F.add ((b).toNat*3))=some (.int .i64 ((rd_T26 G b).f0))∧d_ U (F.add ((b).toNat*3)) 1 (.int .i64 ((rd_T26 G b).f1))∧d_ U (F.add ((b).toNat*3)) 2 (.slice W ((rd_T26 G b).f2).length X):=Lb
 obtain⟨qa,ra,Fa⟩:=Kd.S_slice A.1
 (first|subst Fa|(obtain⟨rfl,rfl⟩:=si_ Fa))
 refine nm_ ?_
 refine o1_ 10 (b_ 11 1) Z (fun K hK=>?_)
 have ac:U.cell? ⟨q,0,none⟩=some (.int .i64 0):=bx_ o.1 0
 have Mb:=blk_frozen o.1 0
 have gb:=u.1
 have ib:=s.1
 have bc:U.cell? ⟨q,1,none⟩=some (.int .i64 0):=bx_ o.1 1
 have Nb:=blk_frozen o.1 1
 have jb:=u.1
 have kb:=s.1
 have cc:U.cell? ⟨q,2,none⟩=some (.slice none 0 0):=bx_ o.1 2
 have Ob:=blk_frozen o.1 2
 have lb:=u.1
 have mb:=s.1
 refine skip_ (w1:=?_) (by rfl) rfl ?_ ?_
 rotate_left
 ·
  go_simp
  rfl
 refine hK.out _ _ ⟨(cg_ (r.1)),(cg_ (r.2.1)),(cg_ (r.2.2.1)),(cg_ (r.2.2.2.1)),(ce_ m y.1 ((ce_ m y.1 ((ce_ m y.1 (r.2.2.2.2.1)))))),(ce_ l y.1 ((ce_ l y.1 ((ce_ l y.1 (r.2.2.2.2.2.1)))))),(ce_ g y.1 ((ce_ g y.1 ((ce_ g y.1 (r.2.2.2.2.2.2))))))⟩ (fun r=>?_)
 clear hK K
 refine p_ Z ?_
 refine done_ (done_of Z.1 (by kernel_rfl)) ?_
 generalize hw_:(((U.setCell ⟨q,0,none⟩ (.int .i64 M)).setCell ⟨q,1,none⟩ (.int .i64 N)).setCell ⟨q,2,none⟩ (.slice qa Q.length ra))=ga
 have nb:=wr_ hw_ (Kd.R_mono (ok':=(fun k_=>k_≠d∧k_≠q∧aa≤k_∧k_<B)) (rf_ q c.1 (fun _ hk=>hk.2.1)) (fun _ hk=>⟨hk.1,⟨hk.2.1,⟨hk.2.2.1,hk.2.2.2⟩⟩⟩))
 have ob:=ws_ hw_ (Kd.S_mono (ok':=(fun k_=>k_≠d∧B≤k_)) (sy_ A.1 o.1) (fun _ hk=>⟨hk.1,hk.2⟩))
 replace a:=wq_ hw_ a
 replace o:=wp_ hw_ #[.int .i64 M,.int .i64 N,.slice qa Q.length ra] o
 replace x:=wb_ hw_ x
 clear hw_
 (try clear c A)
 have c:=nb
 have A:=ob
 clear nb ob
 have Pb:=n2_ s
 obtain⟨Qb,Rb,Sb,Tb,Ub,Vb⟩:=bc3_ o.1
 obtain⟨Ma,Na⟩:0≤(b:Int)∧(b:Int)<((D.length:Int):Int):=pq_
 obtain⟨go12,Ga,Ha,Ia,gl12,cl12,HG12⟩:=Kd.R_form c.1 (by omega)
 (first|cases Ha|(injection Ha with ea_ en_ ec_;(first|subst ea_|(injection ea_ with ea_;subst ea_));subst ec_;clear en_))
 have GB12:=M_ Ia
 have GG12:=M_ HG12
 clear Ia gl12 HG12
 obtain⟨dc,hcl12,hM12,ha,hfr12⟩:=Kd.R_elem c.1 z26 (b:Int) Ma Na
 obtain⟨Aa,rfl,pb⟩:=k26_openM hM12
 have qb:ga.cell? ⟨go12,(b:Int).toNat*3,none⟩=some (.int .i64 ((rd_T26 D b).f0)):=ha 0 _ rfl
 have rb:ga.cell? ⟨go12,(b:Int).toNat*3+1,none⟩=some (.int .i64 ((rd_T26 D b).f1)):=ha 1 _ rfl
 have sb:ga.cell? ⟨go12,(b:Int).toNat*3+2,none⟩=some (Aa):=ha 2 _ rfl
 have hf12_0:ga.frozen? ⟨go12,(b:Int).toNat*3,none⟩=false:=hfr12 0
 have hf12_1:ga.frozen? ⟨go12,(b:Int).toNat*3+1,none⟩=false:=hfr12 1
 have hf12_2:ga.frozen? ⟨go12,(b:Int).toNat*3+2,none⟩=false:=hfr12 2
 clear hcl12 ha hfr12 hM12
 replace Ma:=eq_true Ma;replace Na:=eq_true Na
 have HX28:=M_ (show Kd.R k26 26 ga w.heap.size (fun k_=>k_≠d∧k_≠q) (.slice (some ⟨go12,0,none⟩) D.length Ga) D from (Kd.R_mono (rp_ c.1) (fun _ hk=>⟨hk.1,hk.2.1⟩)))
 obtain⟨ec,hcl28,hM28,da,hfr28⟩:=Kd.R_elem HX28.out z26 (b:Int) (of_decide_eq_true (by with_reducible assumption)) (by have h_:(b:Int)<((D.length:Int):Int):=of_decide_eq_true (by with_reducible assumption);first|exact h_|(have e_:=(Kd.R_reads' c.1).1;omega)|simpa using h_)
 obtain⟨tb,rfl,ub⟩:=k26_openM hM28
 have HP28:=Kd.R_seg HX28.out (b:Int) (of_decide_eq_true (by with_reducible assumption)) (by have h_:(b:Int)<((D.length:Int):Int):=of_decide_eq_true (by with_reducible assumption);first|exact h_|(have e_:=(Kd.R_reads' c.1).1;omega)|simpa using h_) (seg:=[.int .i64 M,.int .i64 N,.slice qa Q.length ra]) (j:=0) hcl28 da (show 3≤3 from by decide) (x':=(⟨M,N,Q⟩:S26)) (k26_mkM _ _ _ (⟨M,N,Q⟩:S26) (Kd.S_mono (Kd.S_types (Kd.S_apart' (A.1) (Kd.R_typed c.1) (by decide)) o.1 (by decide)) (fun k_ hk=>⟨⟨hk.1.1.1,hk.2⟩,fun e_=>(hk.1.2) (by rw[e_];rfl)⟩))) (fun _ hk=>hk)
 have Ba:=da 0 _ rfl
 (try simp only[show (k26).sz=3 from rfl,Nat.mul_one,Nat.add_zero] at Ba)
 have hf28_0:=hfr28 0
 (try simp only[show (k26).sz=3 from rfl,Nat.mul_one,Nat.add_zero] at hf28_0)
 have Ca:=da 1 _ rfl
 (try simp only[show (k26).sz=3 from rfl,Nat.mul_one,Nat.add_zero] at Ca)
 have hf28_1:=hfr28 1
 (try simp only[show (k26).sz=3 from rfl,Nat.mul_one,Nat.add_zero] at hf28_1)
 have Da:=da 2 _ rfl
 (try simp only[show (k26).sz=3 from rfl,Nat.mul_one,Nat.add_zero] at Da)
 have hf28_2:=hfr28 2
 (try simp only[show (k26).sz=3 from rfl,Nat.mul_one,Nat.add_zero] at hf28_2)
 clear hcl28 da hfr28 hM28
 try go_wp2_with (first|((with_reducible refine gate_store (t:=26) (p:=32) rfl ?_);refine store_event (t:=26) (p:=32) (v:=?vo_w29) (w1:=(((ga.setCell ⟨go12,(b:Int).toNat*3,none⟩ (.int .i64 M)).setCell ⟨go12,(b:Int).toNat*3+1,none⟩ (.int .i64 N)).setCell ⟨go12,(b:Int).toNat*3+2,none⟩ (.slice qa Q.length ra))) ?hg ?ho ?hn ?hr ?_;(case ho=>rfl);(case hg=>rfl);(case hn=>rfl);(case hr=>first|(go_simp;done)|(go_simp;rfl));intro Oa hw;have hg:ga.grownBy Oa (some go12):=(by rw[hw];exact HP28.2);have hp_:Kd.R k26 26 Oa w.heap.size (fun k_=>k_≠d∧k_≠q) (.slice (some ⟨go12,0,none⟩) D.length Ga) Ea:=(by rw[hw,La.1];exact HP28.1);clear HP28;replace a:=M_ (blk_grown (bq_ a.1) hg (Kd.R_ne c.1 a.1 (by decide)));replace o:=M_ (blk_grown (bq_ o.1) hg (Kd.R_away c.1 (fun _ hk=>hk.2.1)));replace c:=M_ (hp_);replace x:=M_ ((by rw[hw];exact below_set (below_set (below_set (x.1) GB12.out) GB12.out) GB12.out:Below w.heap.size w Oa));clear A;clear hg hw hp_))
 go_ret2
 exact⟨_,rr_,Kd.R_mono (rp_ c.1) (fun _ hk=>trivial),hs_ x.1⟩
def impl_FindIn.f (k:Nat) (e:Int) (g:Int) (b:List S80) (i:List S99):Option ((List S99)×Int×Int×ByteArray×Bool):=(impl_Finger.f k i).bind fun h=>((impl_chainOf.f k e g b h).bind fun a=>(if a<0 then (some (([]:List S99),0,0,(⟨#[]⟩:ByteArray),false)) else (if 0≤a then (if a<(b.length:Int) then ((impl_InChain.f k ((rd_T80 b a).f0) ((rd_T80 b a).f1) i).bind fun c=>(if c<0 then (some (([]:List S99),0,0,(⟨#[]⟩:ByteArray),false)) else (if 0≤c then (if c<(((rd_T80 b a).f1).length:Int) then ((impl_copyAlarm.f ((rd_T29 ((rd_T80 b a).f1) c).f0) ((rd_T29 ((rd_T80 b a).f1) c).f1) ((rd_T29 ((rd_T80 b a).f1) c).f2) ((rd_T29 ((rd_T80 b a).f1) c).f3)).bind fun d=>(some (d.1,d.2.1,d.2.2.1,d.2.2.2,true))) else (none)) else (none)))) else (none)) else (none))))
theorem impl_FindIn.calls (k:Nat) (p:Int) (q:Int) (x:Option Addr) (y:Nat) (b:List S80) (A1:Option Addr) (c1:Nat) (T:List S99) (r1:List S99) (r2:Int) (r3:Int) (r4:ByteArray) (r5:Bool) (w:World) (U:Kd.C k80 w x b.length b) (V:b.length≤y) (Da:Kd.C k99 w A1 T.length T) (Ea:T.length≤c1) (h:impl_FindIn.f k p q b T=some (r1,r2,r3,r4,r5)) :
  Calls Tryz.prog 11 #[.agg #[.int .i64 p,.int .i64 q,.slice x b.length y],.slice A1 T.length c1] w fun e w'=>∃v0_:Value,e=.returned (.tuple #[.agg #[v0_,.int .i64 r2,.int .i64 r3,.string r4],.bool r5])∧Kd.R k99 99 w' w.heap.size (fun _=>True) v0_ r1∧Below w.heap.size w w':=by
 have hu26:=Tryz.underlying26
 have hu29:=Tryz.underlying29
 have hu80:=Tryz.underlying80
 have r:=M_ U
 have ra:=M_ V
 clear U V
 have sa:=M_ Da
 have ta:=M_ Ea
 clear Da Ea
 have j:=M_ (Below.refl w.heap.size w)
 unfold impl_FindIn.f at h
 have H:=h;clear h
 replace H:=bi_ H;obtain⟨W,A3,H⟩:=H
 replace H:=bi_ H;obtain⟨d,A4,H⟩:=H
 have AHz_:=M_ H
 clear H
 go_enter Tryz.func11,Tryz.ntmps11
 try go_wp2_with (first|((with_reducible refine gd_ 2 rfl ?_);refine bV_ 2 #[.int .i64 p,.int .i64 q,.slice x b.length y] 26 ?_;intro M hg w6 a hb;have Sa:=gq_ hg j;replace j:=st_ j hb;clear hb hg)|((with_reducible refine gd_ 4 rfl ?_);refine bV_ 4 #[.slice none 0 0,.int .i64 0,.int .i64 0,.string (⟨#[]⟩:ByteArray)] 29 ?_;intro O hg w7 c hb;have Ta:=gq_ hg j;replace j:=st_ j hb;obtain⟨l,P,a⟩:=nb_ a hg hb;clear hb hg))
 obtain⟨a,c,j⟩:=y3_ a c j
 refine start_ (n:=5) (S:=fun w'=>c_ w' M 0 (.int .i64 p)∧c_ w' M 1 (.int .i64 q)∧c_ w' M 2 (.slice x b.length y)) (ds:=[]) (b_ 0 5) (by kernel_rfl) rfl rfl (e3_ a.1) (fun s=>?_)
 generalize w7.drew=w8 at a c j s ⊢
 refine pure_ (i:=1) (N:=some 9) (v:=?_) (a':=?_) #[f_,t_,f_,f_,f_] rfl rfl (by kernel_rfl) (fun _ _ _ h=>h) (Or.inl ⟨by rfl,?_⟩) ?_ ?_
 rotate_left
 ·
  intro w'
  go_simp
  with_reducible rfl
 rotate_left
 ·
  simp only[fr_]
  rfl
 refine take_ (i:=0) (N:=some 8) (v:=?_) (a':=?_) (b_ 2 3) rfl rfl (by kernel_rfl) (fun _ _ _ h=>h) (Or.inl ⟨by rfl,?_⟩) s ?_ ?_
 rotate_left
 ·
  rintro w' ⟨s0,s1,s2⟩
  go_simp
  with_reducible rfl
 rotate_left
 ·
  simp only[fr_]
  rfl
 refine one_ (i:=2) (N:=some 10) (b_ 3 2) rfl rfl (by kernel_rfl) (by decide) (fun K hK=>?_)
 refine gs_ Tryz.func55 #[.slice A1 T.length c1] ?_
 with_reducible refine(impl_Finger.calls k _ _ T W _ ?_ ?_ A3.1).mono ?_
 exact cp_ ((Kd.C_below sa.1 j.1))
 exact ta.1
 rintro e w9 ⟨rfl,hb⟩
 refine⟨_,rfl,?_⟩
 obtain⟨a,c,j⟩:=u3_ hb a c j
 (try clear hb)
 refine ho_ hK (e3_ a.1) (fun s=>?_)
 refine one_ (i:=3) (N:=some 11) (b_ 4 1) rfl rfl (by kernel_rfl) (by decide) (fun K hK=>?_)
 refine gs_ Tryz.func56 #[.agg #[.int .i64 p,.int .i64 q,.slice x b.length y],.int .i64 W] ?_
 with_reducible refine(impl_chainOf.calls k p q _ _ b W d _ ?_ ?_ A4.1).mono ?_
 exact cp_ ((Kd.C_below r.1 j.1))
 exact ra.1
 rintro e ac ⟨rfl,hb⟩
 refine⟨_,rfl,?_⟩
 obtain⟨a,c,j⟩:=u3_ hb a c j
 (try clear hb)
 refine ho_ hK (e3_ a.1) (fun s=>?_)
 refine pure_ (i:=4) (N:=some 6) (v:=?_) (a':=?_) #[t_,t_,t_,t_,t_] rfl rfl (by kernel_rfl) (fun _ _ _ h=>h) (Or.inl ⟨by rfl,?_⟩) ?_ ?_
 rotate_left
 ·
  intro w'
  go_simp
  with_reducible rfl
 rotate_left
 ·
  simp only[fr_]
  rfl
 have H:=AHz_.1
 clear AHz_
 replace H:=ie_ H;rcases H with⟨c5,H⟩|⟨c5,H⟩
 ·
  have X:=decide_eq_true c5
  clear c5
  simp only[Option.some.injEq,Prod.mk.injEq] at H
  obtain⟨rfl,rfl,rfl,rfl,rfl⟩:=H
  (try simp only[X])
  refine done_ (by kernel_rfl) ?_
  have Va:=n2_ P
  obtain⟨Wa,Xa,Ya,Za,ab,bb,cb,db⟩:=bc4_ c.1
  try go_wp2
  refine bodyPost_ret (results_ct rfl _ _ O 29 #[.slice none 0 0,.int .i64 0,.int .i64 0,.string (⟨#[]⟩:ByteArray)] (0,0) _ rfl (bp_ c.1) Tryz.underlying29 rfl (by kernel_rfl)) rfl ?_
  exact⟨_,rr_,by first|exact Kd.R_nil _ _ _ _ _|exact Kd.N_nil _ _ _ _ _|exact Kd.V_nil _ _ _ _ _|exact Kd.Q_nil _ _ _ _ _|exact Kd.S_nil _ _ _ _ _,hs_ j.1⟩
 have X:decide (d<0)=false:=decide_eq_false c5
 clear c5
 (try simp only[X])
 replace H:=id_ H;obtain⟨ua,H⟩:=H
 (try simp only[ua])
 replace H:=id_ H;obtain⟨va,H⟩:=H
 replace H:=bi_ H;obtain⟨g,Ga,H⟩:=H
 (try simp only[va])
 replace H:=ie_ H;rcases H with⟨Y,H⟩|⟨Y,H⟩
 ·
  have Q:=decide_eq_true Y
  clear Y
  simp only[Option.some.injEq,Prod.mk.injEq] at H
  obtain⟨rfl,rfl,rfl,rfl,rfl⟩:=H
  (try simp only[Q])
  refine done_ (by kernel_rfl) ?_
  have eb:=n2_ l
  obtain⟨fb,gb,ib,jb,kb,lb⟩:=bc3_ a.1
  obtain⟨Z,t,u,aa,ba,ca,m,o,Ha,Ia⟩:=au_T80 r.1 j d
  cases aa
  try go_wp2_with (first|((with_reducible refine gate_callee (f:=64) rfl ?_);refine gl_ (some 21) Tryz.func64 #[.agg #[.int .i64 ((rd_T80 b d).f0),.slice t ((rd_T80 b d).f1).length u],.slice A1 T.length c1] ?_;(with_reducible refine(impl_InChain.calls k ((rd_T80 b d).f0) _ _ ((rd_T80 b d).f1) _ _ T g _ ?_ ?_ ?_ ?_ Ga.1).mono ?_);exact cp_ ((Kd.C_below o.1 j.1));exact m.1;exact cp_ ((Kd.C_below sa.1 j.1));exact ta.1;rintro e bc ⟨rfl,hb⟩;refine⟨_,rfl,?_⟩;obtain⟨a,c,j⟩:=u3_ hb a c j;(try clear hb);obtain⟨mb,nb,ob,pb,qb,rb,sb,tb⟩:=bc4_ c.1))
  refine bodyPost_ret (results_ct rfl _ _ O 29 #[.slice none 0 0,.int .i64 0,.int .i64 0,.string (⟨#[]⟩:ByteArray)] (0,0) _ rfl (bp_ c.1) Tryz.underlying29 rfl (by kernel_rfl)) rfl ?_
  exact⟨_,rr_,by first|exact Kd.R_nil _ _ _ _ _|exact Kd.N_nil _ _ _ _ _|exact Kd.V_nil _ _ _ _ _|exact Kd.Q_nil _ _ _ _ _|exact Kd.S_nil _ _ _ _ _,hs_ j.1⟩
 have Q:decide (g<0)=false:=decide_eq_false Y
 clear Y
 (try simp only[Q])
 replace H:=id_ H;obtain⟨wa,H⟩:=H
 (try simp only[wa])
 replace H:=id_ H;obtain⟨xa,H⟩:=H
 replace H:=bi_ H;obtain⟨⟨na,oa,pa,qa⟩,ub,H⟩:=H;(try dsimp only at H)
 simp only[Option.some.injEq,Prod.mk.injEq] at H
 obtain⟨rfl,rfl,rfl,rfl,rfl⟩:=H
 (try simp only[xa])
 refine done_ (by kernel_rfl) ?_
 have vb:=n2_ l
 obtain⟨wb,xb,yb,zb,Ab,Bb⟩:=bc3_ a.1
 obtain⟨Z,t,u,aa,ba,ca,m,o,Ha,Ia⟩:=au_T80 r.1 j d
 cases aa
 try go_wp2_with (first|((with_reducible refine gate_callee (f:=64) rfl ?_);refine gl_ (some 21) Tryz.func64 #[.agg #[.int .i64 ((rd_T80 b d).f0),.slice t ((rd_T80 b d).f1).length u],.slice A1 T.length c1] ?_;(with_reducible refine(impl_InChain.calls k ((rd_T80 b d).f0) _ _ ((rd_T80 b d).f1) _ _ T g _ ?_ ?_ ?_ ?_ Ga.1).mono ?_);exact cp_ ((Kd.C_below o.1 j.1));exact m.1;exact cp_ ((Kd.C_below sa.1 j.1));exact ta.1;rintro e cc ⟨rfl,hb⟩;refine⟨_,rfl,?_⟩;obtain⟨a,c,j⟩:=u3_ hb a c j;(try clear hb);obtain⟨Cb,Db,Eb,Fb,Gb,Hb⟩:=bc3_ a.1;have da:0≤(d:Int):=of_decide_eq_true (by with_reducible assumption);have ea:d<(b.length:Int):=of_decide_eq_true (by with_reducible assumption);obtain⟨ya,Pa,Qa,Ja,z,A,B,D⟩:=at_T80 r.1 d da ea;obtain rfl:Z=ya:=(by injection Ja);replace z:=cl_ j.1 z;replace A:=cl_ j.1 A;have fa:=M_ D;have Ka:=M_ B;clear D B;replace da:=eq_true da;replace ea:=eq_true ea;have ga:0≤(g:Int):=of_decide_eq_true (by with_reducible assumption);have ha:g<(((rd_T80 b d).f1).length:Int):=of_decide_eq_true (by with_reducible assumption);obtain⟨Ib,la,ma,La,E,F,G,I,J,L⟩:=at_T29 fa.1 g ga ha;cases La;replace E:=cl_ j.1 E;replace F:=cl_ j.1 F;replace G:=cl_ j.1 G;replace I:=cl_ j.1 I;have ia:=M_ L;have ja:=M_ J;clear L J;replace ga:=eq_true ga;replace ha:=eq_true ha)|((with_reducible refine gate_callee (f:=58) rfl ?_);refine gl_ (some 34) Tryz.func58 #[.agg #[.slice la ((rd_T29 ((rd_T80 b d).f1) g).f0).length ma,.int .i64 ((rd_T29 ((rd_T80 b d).f1) g).f1),.int .i64 ((rd_T29 ((rd_T80 b d).f1) g).f2),.string ((rd_T29 ((rd_T80 b d).f1) g).f3)]] ?_;(with_reducible refine(impl_copyAlarm.calls _ _ ((rd_T29 ((rd_T80 b d).f1) g).f0) ((rd_T29 ((rd_T80 b d).f1) g).f1) ((rd_T29 ((rd_T80 b d).f1) g).f2) ((rd_T29 ((rd_T80 b d).f1) g).f3) na oa pa qa _ ?_ ?_ ub.1).mono ?_);exact cp_ ((Kd.C_below ia.1 j.1));exact ja.1;rintro e dc ⟨Wb,rfl,za,hb⟩;refine⟨_,rfl,?_⟩;obtain⟨Ra,Aa⟩:=Kd.R_name za;have ka:=rg_ Aa za j;obtain⟨a,c,j⟩:=u3_ hb a c j;(try clear hb za);obtain⟨Ma,Na,Oa⟩:=Kd.R_slice ka.1;subst Oa;obtain⟨Jb,Kb,Lb,Mb,Nb,Ob,Pb,Qb⟩:=bc4_ c.1))
 refine bodyPost_ret (results_ct rfl _ _ O 29 #[.slice Ma na.length Na,.int .i64 oa,.int .i64 pa,.string qa] (0,0) _ rfl (bp_ c.1) Tryz.underlying29 rfl (by kernel_rfl)) rfl ?_
 exact⟨_,rr_,Kd.R_mono (ry_ ka.1 c.1) (fun _ hk=>trivial),hs_ j.1⟩
def impl_FindAlarm.f (k:Nat) (c:List S26) (d:List S99):Option ((List S99)×Int×Int×ByteArray×Bool):=if (c.length:Int)=0 then (some (([]:List S99),0,0,(⟨#[]⟩:ByteArray),false)) else ((impl_HomeOf.f k c d).bind fun b=>(if 0≤b then (if b<(c.length:Int) then ((impl_FindIn.f k ((rd_T26 c b).f0) ((rd_T26 c b).f1) ((rd_T26 c b).f2) d).bind fun a=>(some (a.1,a.2.1,a.2.2.1,a.2.2.2.1,a.2.2.2.2))) else (none)) else (none)))
theorem impl_FindAlarm.calls (k:Nat) (Z:Option Addr) (c0:Nat) (d:List S26) (W:Option Addr) (X:Nat) (t:List S99) (r1:List S99) (r2:Int) (r3:Int) (r4:ByteArray) (r5:Bool) (w:World) (G:Kd.C k26 w Z d.length d) (I:d.length≤c0) (J:Kd.C k99 w W t.length t) (K:t.length≤X) (h:impl_FindAlarm.f k d t=some (r1,r2,r3,r4,r5)) :
  Calls Tryz.prog 30 #[.slice Z d.length c0,.slice W t.length X] w fun e w'=>∃v0_:Value,e=.returned (.tuple #[.agg #[v0_,.int .i64 r2,.int .i64 r3,.string r4],.bool r5])∧Kd.R k99 99 w' w.heap.size (fun _=>True) v0_ r1∧Below w.heap.size w w':=by
 have hu29:=Tryz.underlying29
 have hu26:=Tryz.underlying26
 have L:=M_ G
 have ba:=M_ I
 clear G I
 have M:=M_ J
 have N:=M_ K
 clear J K
 have c:=M_ (Below.refl w.heap.size w)
 unfold impl_FindAlarm.f at h
 have H:=h;clear h
 replace H:=ie_ H;rcases H with⟨B,H⟩|⟨B,H⟩
 ·
  have O:((d.length:Int)==0)=true:=beq_iff_eq.mpr B
  have P:((d.length:Int) !=0)=false:=bne_eq_false_iff_eq.mpr B
  clear B
  simp only[Option.some.injEq,Prod.mk.injEq] at H
  obtain⟨rfl,rfl,rfl,rfl,rfl⟩:=H
  go_enter Tryz.func30,Tryz.ntmps30
  go_wp2_with (first|((with_reducible refine gd_ 4 rfl ?_);refine bV_ 4 #[.slice none 0 0,.int .i64 0,.int .i64 0,.string (⟨#[]⟩:ByteArray)] 29 ?_;intro n hg w4 a hb;have D:=gq_ hg c;replace c:=st_ c hb;clear hb hg;obtain⟨qa,ra,sa,ta,ua,va,wa,xa⟩:=bc4_ a.1))
  refine bodyPost_ret (results_ct rfl _ _ n 29 #[.slice none 0 0,.int .i64 0,.int .i64 0,.string (⟨#[]⟩:ByteArray)] (0,0) _ rfl (bp_ a.1) Tryz.underlying29 rfl (by kernel_rfl)) rfl ?_
  exact⟨_,rr_,by first|exact Kd.R_nil _ _ _ _ _|exact Kd.N_nil _ _ _ _ _|exact Kd.V_nil _ _ _ _ _|exact Kd.Q_nil _ _ _ _ _|exact Kd.S_nil _ _ _ _ _,hs_ c.1⟩
 have O:((d.length:Int)==0)=false:=beq_eq_false_iff_ne.mpr B
 have P:((d.length:Int) !=0)=true:=bne_iff_ne.mpr B
 have ya:¬(d=[]):=fun h_=>B (by rw[h_];rfl)
 replace H:=bi_ H;obtain⟨b,A6,H⟩:=H
 replace H:=i2_ H;obtain⟨za,Aa,H⟩:=H
 replace H:=bi_ H;obtain⟨⟨x,y,z,A,Q⟩,A9,H⟩:=H;(try dsimp only at H)
 simp only[Option.some.injEq,Prod.mk.injEq] at H
 obtain⟨rfl,rfl,rfl,rfl,rfl⟩:=H
 go_enter Tryz.func30,Tryz.ntmps30
 go_wp2_with (first|((with_reducible refine gd_ 4 rfl ?_);refine bV_ 4 #[.slice none 0 0,.int .i64 0,.int .i64 0,.string (⟨#[]⟩:ByteArray)] 29 ?_;intro n hg Ea a hb;have D:=gq_ hg c;replace c:=st_ c hb;clear hb hg)|((with_reducible refine gate_callee (f:=47) rfl ?_);refine gl_ (some 13) Tryz.func47 #[.slice Z d.length c0,.slice W t.length X] ?_;(with_reducible refine(impl_HomeOf.calls k _ _ d _ _ t b _ ?_ ?_ ?_ ?_ A6.1).mono ?_);exact cp_ ((Kd.C_below L.1 c.1));exact ba.1;exact cp_ ((Kd.C_below M.1 c.1));exact N.1;rintro e Fa ⟨rfl,hb⟩;refine⟨_,rfl,?_⟩;obtain⟨a,c⟩:=u2_ hb a c;(try clear hb);have o:0≤(b:Int):=of_decide_eq_true (by with_reducible assumption);have p:b<(d.length:Int):=of_decide_eq_true (by with_reducible assumption);obtain⟨ca,u,v,S,g,i,j,l,m⟩:=at_T26 L.1 b o p;cases S;replace g:=cl_ c.1 g;replace i:=cl_ c.1 i;replace j:=cl_ c.1 j;have q:=M_ m;have r:=M_ l;clear m l;replace o:=eq_true o;replace p:=eq_true p)|((with_reducible refine gate_callee (f:=11) rfl ?_);refine gl_ (some 17) Tryz.func11 #[.agg #[.int .i64 ((rd_T26 d b).f0),.int .i64 ((rd_T26 d b).f1),.slice u ((rd_T26 d b).f2).length v],.slice W t.length X] ?_;(with_reducible refine(impl_FindIn.calls k ((rd_T26 d b).f0) ((rd_T26 d b).f1) _ _ ((rd_T26 d b).f2) _ _ t x y z A Q _ ?_ ?_ ?_ ?_ A9.1).mono ?_);exact cp_ ((Kd.C_below q.1 c.1));exact r.1;exact cp_ ((Kd.C_below M.1 c.1));exact N.1;rintro e Ga ⟨Ba,rfl,E,hb⟩;refine⟨_,rfl,?_⟩;obtain⟨Y,F⟩:=Kd.R_name E;have s:=rg_ F E c;obtain⟨a,c⟩:=u2_ hb a c;(try clear hb E);obtain⟨T,U,V⟩:=Kd.R_slice s.1;subst V;obtain⟨da,ea,fa,ga,ha,ia,ja,ka⟩:=bc4_ a.1))
 refine bodyPost_ret (results_ct rfl _ _ n 29 #[.slice T x.length U,.int .i64 y,.int .i64 z,.string A] (0,0) _ rfl (bp_ a.1) Tryz.underlying29 rfl (by kernel_rfl)) rfl ?_
 exact⟨_,rr_,Kd.R_mono (ry_ s.1 a.1) (fun _ hk=>trivial),hs_ c.1⟩
def impl_AlarmsIn.l0:Nat→List S29→List S80→Int→Int→Option ((List S29))
 | 0,_,_,_,_=>none
 | k+1,c,d,e,b=>if b<e then (if 0≤b then (if b<(d.length:Int) then ((impl_copyAlarms.f k ((rd_T80 d b).f1)).bind fun a=>(if c.length+a.length<2513169434916 then (impl_AlarmsIn.l0 k (c++a) d e (wrap64 (b+1))) else (none))) else (none)) else (none)) else (some c)
def impl_AlarmsIn.f (k:Nat) (b:Int) (c:Int) (a:List S80):Option ((List S29)):=impl_AlarmsIn.l0 k ([]:List S29) a (a.length:Int) 0
theorem impl_AlarmsIn.calls (k:Nat) (o:Int) (p:Int) (q:Option Addr) (s:Nat) (a:List S80) (r:List S29) (w:World) (x:Kd.C k80 w q a.length a) (y:a.length≤s) (h:impl_AlarmsIn.f k o p a=some r) :
  Calls Tryz.prog 25 #[.agg #[.int .i64 o,.int .i64 p,.slice q a.length s]] w fun e w'=>∃v0_:Value,e=.returned (v0_)∧Kd.S k29 29 w' w.heap.size (fun _=>True) v0_ r∧Below w.heap.size w w':=by
 have hu26:=Tryz.underlying26
 have hu80:=Tryz.underlying80
 have G:=M_ x
 have Y:=M_ y
 clear x y
 have j:=M_ (Below.refl w.heap.size w)
 unfold impl_AlarmsIn.f at h
 have H:=h;clear h
 have H':=M_ H
 clear H
 go_enter Tryz.func25,Tryz.ntmps25
 go_wp2_with (first|((with_reducible refine gd_ 1 rfl ?_);refine bV_ 1 #[.int .i64 o,.int .i64 p,.slice q a.length s] 26 ?_;intro I hg w2 c hb;have Z:=gq_ hg j;replace j:=st_ j hb;clear hb hg;obtain⟨ka,la,ma,na,oa,pa⟩:=bc3_ c.1))
 go_loopg [3,9] k (fun kq v3 v9 w'=>∃(l:List S29) (d:Int),v9=.int .i64 d∧Aside0 (impl_AlarmsIn.l0 kq l a (a.length:Int) d=some r)∧Aside0 (kq≤k)∧Aside0 (Kd.S k29 29 w' w.heap.size (fun _=>True) v3 l)∧Aside0 (w'.heap[I]?=some (.cells #[.int .i64 o,.int .i64 p,(.slice q a.length s)] 26 (0,0)))∧Aside0 (Below w.heap.size w w'))
 case atStart=>exact⟨(([]:List S29)),(0),rs_,H',⟨Nat.le_refl _⟩,⟨ni_⟩,⟨bq_ c.1⟩,⟨hs_ j.1⟩⟩
 case round=>
  clear H'
  obtain⟨l,d,rfl,HA,O,g,c,j⟩:=hrel
  cases gk with
  | zero=>exact absurd HA.1 (by simp[impl_AlarmsIn.l0])
  | succ k1=>
   have H:=HA.1
   clear HA
   simp only[impl_AlarmsIn.l0] at H
   replace H:=ie_ H;rcases H with⟨P,H⟩|⟨P,H⟩
   ·
    have Q:=decide_eq_true P
    clear P
    replace H:=i2_ H;obtain⟨qa,ra,H⟩:=H
    replace H:=bi_ H;obtain⟨z,A7,H⟩:=H
    replace H:=im_ H;obtain⟨R,H⟩:=H
    obtain⟨F,hy_⟩:∃y_:List S29,y_=(l++z):=⟨_,rfl⟩
    replace H:(impl_AlarmsIn.l0 k1 F a (a.length:Int) (wrap64 (d+1)))=some r:=hm_
    have J:=M_ hy_;clear hy_
    have H':=M_ H
    clear H
    obtain⟨ca,t,u,T,U,V,A,B,sa,ta⟩:=au_T80 G.1 j d
    cases T
    go_wp2_with (first|((with_reducible refine gd_ 5 rfl ?_);refine bV_ 5 #[.int .i64 0,.slice none 0 0] 80 ?_;intro da hg w9 i hb;replace g:=sb_ g hb;have ea:=gq_ hg j;replace j:=st_ j hb;obtain⟨K,m,c⟩:=nb_ c hg hb;clear hb hg;have fa:=n2_ m;obtain⟨ga,ha,ia,ja⟩:=bc2_ i.1)|((with_reducible refine gate_callee (f:=81) rfl ?_);refine gl_ (some 16) Tryz.func81 #[.slice t ((rd_T80 a d).f1).length u] ?_;(with_reducible refine(impl_copyAlarms.calls k1 _ _ ((rd_T80 a d).f1) z _ ?_ ?_ A7.1).mono ?_);exact Kd.C_below B.1 (hs_ j.1);exact A.1;rintro e Ba ⟨ua,rfl,L,hb⟩;refine⟨_,rfl,?_⟩;obtain⟨X,D⟩:=Kd.S_name L;replace g:=su_ D (sy_ g.1 i.1) hb;have n:=sg_ D L j;replace c:=bk2_ c hb;replace i:=by_ i #[.int .i64 ((rd_T80 a d).f0),.slice t ((rd_T80 a d).f1).length u] hb;replace j:=st_ j hb;(try clear hb L);obtain⟨va,wa,W⟩:=Kd.S_slice n.1;subst W;obtain⟨M,E,v⟩:=Kd.S_fp ((Kd.S_mono n.1 (fun k_ hk=>(⟨hk,fun ez_=>Nat.lt_irrefl _ (Nat.lt_of_lt_of_le ((Kd.S_R g.1).1 _ ez_.symm).2 hk.2)⟩:_∧some k_≠(u3:Value).ownBlock)))))|((with_reducible refine gate_builtin (b:=.append) (xs:=#[.tmp 13,.tmp 16]) rfl ?_);at_builtin;refine Kd.S_append_rows k29 (w0:=w) w.heap.size rfl (.tmp 13) (.tmp 16) 40 29 (.agg #[(.slice none 0 0),(.int .i64 0),(.int .i64 0),(.string ⟨#[]⟩)]) 56 rfl Tryz.underlying40 info29 rfl (by decide) (by omega) u3 l z _ _ _ (fun _=>True) M rfl rfl ?aR (fun k_ hk_=>⟨trivial,(v k_ hk_).1.2⟩) ?aF ?aO ?aB ?aS ?aL ?_;(case aR=>exact E);(case aB=>exact(hs_ j.1));(case aF=>exact(fun _ _=>trivial));(case aO=>exact(Kd.S_mono (sp_ g.1) (fun k_ hk=>⟨trivial,fun e_=>(fun ez_=>Nat.lt_irrefl _ (Nat.lt_of_lt_of_le hk.2 (v _ ez_).1.1.2)) e_⟩)));(case aS=>exact(below_size (hs_ j.1)));(case aL=>have:=R.1;omega);intro xa Da ho hb hg hat;rw[←J.1] at ho;replace c:=bg_ c hg g;replace i:=bg_ i hg g;replace j:=M_ (hb);have N:=M_ (ho);clear g n;clear ho hb hg hat))
    go_roundg k1
    case measure=>have:=O.1;omega
    case rel=>exact⟨(F),(wrap64 (d+1)),rs_,H',⟨by have:=O.1;omega⟩,⟨sp_ N.1⟩,⟨bq_ c.1⟩,⟨hs_ j.1⟩⟩
   have Q:decide (d<(a.length:Int))=false:=decide_eq_false P
   clear P
   obtain rfl:=Option.some.inj H
   go_wp2
   go_ret
   exact⟨_,rr_,sp_ g.1,hs_ j.1⟩
end Go.Proofs.YtanfohlpkppeiaaGreat.Print
end
section
namespace Go.Proofs.YtanfohlpkppeiaaGreat.Stable
open Go.Sort
variable {α:Type} [Inhabited α]

theorem ext_get2 {a b:Array α} (hs:a.size=b.size) (h:∀t,t<a.size→a[t]! = b[t]!):a=b:=
  Array.ext hs fun t h1 h2=>by have:=h t h1;rwa [getElem!_pos a t h1,getElem!_pos b t h2] at this

def ri (a m b t:Nat):Nat:=if a≤t∧t<a+(b-m) then t-a+m else if a+(b-m)≤t∧t<b then t-(b-m) else t
def rot (d:Array α) (a m b:Nat):Array α:=(Array.range d.size).map fun t=>d[ri a m b t]!
@[simp] theorem size_rot (d:Array α) (a m b:Nat):(rot d a m b).size=d.size:=by simp[rot]
theorem get_rot (d:Array α) (a m b t:Nat) (h:t<d.size):(rot d a m b)[t]! = d[ri a m b t]!:=by simp[rot,h]
theorem get_rot_out (d:Array α) (a m b t:Nat) (ham:a≤m) (hmb:m≤b) (h:t<a∨b≤t):(rot d a m b)[t]! = d[t]!:=by
  by_cases ht:t<d.size
  · rw[get_rot d a m b t ht];unfold ri;rw[if_neg (by omega),if_neg (by omega)]
  · rw[getElem!_neg _ t (by simpa using ht),getElem!_neg d t ht]

def swr (d:Array α) (a b:Nat):Nat→Array α
  | 0=>d
  | n+1=>swp (swr d a b n) (a+n) (b+n)
@[simp] theorem size_swr (d:Array α) (a b:Nat):∀n,(swr d a b n).size=d.size
  | 0=>rfl
  | n+1=>by rw[swr,size_swp,size_swr d a b n]
theorem get_swr (d:Array α) (a b t:Nat):∀n,a+n≤b→b+n≤d.size→(swr d a b n)[t]! = if a≤t∧t<a+n then d[t-a+b]! else if b≤t∧t<b+n then d[t-b+a]! else d[t]!
  | 0,_,_=>by rw[swr,if_neg (by omega),if_neg (by omega)]
  | n+1,h1,h2=>by
    rw[swr,swp_get _ (by simp;omega) (by simp;omega),get_swr d a b (a+n) n (by omega) (by omega),get_swr d a b (b+n) n (by omega) (by omega),get_swr d a b t n (by omega) (by omega)]
    rw[if_neg (show ¬(a≤a+n∧a+n<a+n) by omega),if_neg (show ¬(b≤a+n∧a+n<b+n) by omega),if_neg (show ¬(a≤b+n∧b+n<a+n) by omega),if_neg (show ¬(b≤b+n∧b+n<b+n) by omega)]
    by_cases c1:t=b+n
    · subst c1
      rw[if_pos rfl,if_neg (show ¬(a≤b+n∧b+n<a+(n+1)) by omega),if_pos (show b≤b+n∧b+n<b+(n+1) by omega)]
      congr 1;omega
    · rw[if_neg c1]
      by_cases c2:t=a+n
      · subst c2
        rw[if_pos rfl,if_pos (show a≤a+n∧a+n<a+(n+1) by omega)]
        congr 1;omega
      · rw[if_neg c2]
        by_cases c3:a≤t∧t<a+n
        · rw[if_pos c3,if_pos (show a≤t∧t<a+(n+1) by omega)]
        · rw[if_neg c3,if_neg (show ¬(a≤t∧t<a+(n+1)) by omega)]
          by_cases c4:b≤t∧t<b+n
          · rw[if_pos c4,if_pos (show b≤t∧t<b+(n+1) by omega)]
          · rw[if_neg c4,if_neg (show ¬(b≤t∧t<b+(n+1)) by omega)]

def si (a b n t:Nat):Nat:=if a≤t∧t<a+n then t-a+b else if b≤t∧t<b+n then t-b+a else t
theorem get_swr' (d:Array α) (a b t n:Nat) (h1:a+n≤b) (h2:b+n≤d.size):(swr d a b n)[t]! = d[si a b n t]!:=by
  rw[get_swr d a b t n h1 h2];unfold si
  split
  · rfl
  · split<;>rfl
theorem swr_rot_gt (d:Array α) (m i j:Nat) (hj:0<j) (hij:j<i) (him:i≤m) (hs:m+j≤d.size):rot (swr d (m-i) m j) (m-(i-j)) m (m+j)=rot d (m-i) m (m+j):=by
  refine ext_get2 (by simp) fun t ht=>?_
  simp only[size_rot,size_swr] at ht
  rw[get_rot _ _ _ _ t (by simpa using ht),get_rot _ _ _ _ t ht,get_swr' d _ _ _ j (by omega) hs]
  congr 1;unfold si ri
  (repeat' split)<;>omega

theorem swr_rot_lt (d:Array α) (m i j:Nat) (hi:0<i) (hij:i<j) (him:i≤m) (hs:m+j≤d.size):rot (swr d (m-i) (m+j-i) i) (m-i) m (m+(j-i))=rot d (m-i) m (m+j):=by
  refine ext_get2 (by simp) fun t ht=>?_
  simp only[size_rot,size_swr] at ht
  rw[get_rot _ _ _ _ t (by simpa using ht),get_rot _ _ _ _ t ht,get_swr' d _ _ _ i (by omega) (by omega)]
  congr 1;unfold si ri
  (repeat' split)<;>omega

theorem swr_rot_eq (d:Array α) (m i:Nat) (him:i≤m) (hs:m+i≤d.size):swr d (m-i) m i=rot d (m-i) m (m+i):=by
  refine ext_get2 (by simp) fun t ht=>?_
  simp only[size_swr] at ht
  rw[get_rot _ _ _ _ t ht,get_swr' d _ _ _ i (by omega) hs]
  congr 1;unfold si ri
  (repeat' split)<;>omega

theorem rot_self (d:Array α) (a m:Nat):rot d a m m=d:=by
  refine ext_get2 (by simp) fun t ht=>?_
  simp only[size_rot] at ht
  rw[get_rot _ _ _ _ t ht];unfold ri
  rw[if_neg (by omega)]
  split
  · congr 1;omega
  · rfl
theorem rot_self2 (d:Array α) (m b:Nat):rot d m m b=d:=by
  refine ext_get2 (by simp) fun t ht=>?_
  simp only[size_rot] at ht
  rw[get_rot _ _ _ _ t ht];unfold ri
  split
  · congr 1;omega
  · rw[if_neg (by omega)]
theorem rot_up (d:Array α) (a k:Nat) (hak:a≤k) (hk:k+1<d.size):swp (rot d a (a+1) (k+1)) k (k+1)=rot d a (a+1) (k+2):=by
  refine ext_get2 (by simp[size_swp]) fun t ht=>?_
  simp only[size_swp,size_rot] at ht
  rw[swp_get _ (by simp;omega) (by simp;omega),get_rot _ _ _ _ _ (by omega),get_rot _ _ _ _ _ hk,get_rot _ _ _ _ t ht,get_rot _ _ _ _ t ht]
  unfold ri
  by_cases c1:t=k+1
  · subst c1;rw[if_pos rfl];congr 1;repeat' split
    all_goals omega
  · rw[if_neg c1]
    by_cases c2:t=k
    · subst c2;rw[if_pos rfl];congr 1;repeat' split
      all_goals omega
    · rw[if_neg c2];congr 1;repeat' split
      all_goals omega
theorem rot_down (d:Array α) (k m:Nat) (hk:0<k) (hkm:k≤m) (hm:m<d.size):swp (rot d k m (m+1)) k (k-1)=rot d (k-1) m (m+1):=by
  refine ext_get2 (by simp[size_swp]) fun t ht=>?_
  simp only[size_swp,size_rot] at ht
  rw[swp_get _ (by simp;omega) (by simp;omega),get_rot _ _ _ _ _ (by omega),get_rot _ _ _ _ _ (by omega),get_rot _ _ _ _ t ht,get_rot _ _ _ _ t ht]
  unfold ri
  by_cases c1:t=k-1
  · subst c1;rw[if_pos rfl];congr 1;repeat' split
    all_goals omega
  · rw[if_neg c1]
    by_cases c2:t=k
    · subst c2;rw[if_pos rfl];congr 1;repeat' split
      all_goals omega
    · rw[if_neg c2];congr 1;repeat' split
      all_goals omega

def bs (q:Nat→Bool) (i j:Nat):Nat:=if i<j then (if q ((i+j) / 2) then bs q ((i+j) / 2+1) j else bs q i ((i+j) / 2)) else i
termination_by j-i
decreasing_by all_goals omega
theorem bs_spec (q:Nat→Bool) (I J:Nat) (hq:∀h k,I≤h→h<k→k<J→q k=true→q h=true):∀(n i j:Nat),j-i≤n→I≤i→i≤j→j≤J→(∀k,I≤k→k<i→q k=true)→(∀k,j≤k→k<J→q k=false) →
    i≤bs q i j∧bs q i j≤j∧(∀k,I≤k→k<bs q i j→q k=true)∧(∀k,bs q i j≤k→k<J→q k=false)
  | n,i,j,hn,hI,hij,hJ,h1,h2=>by
    rw[bs]
    split
    · rename_i hlt
      cases n with
      | zero=>omega
      | succ n=>
        split
        · rename_i hh
          have r:=bs_spec q I J hq n ((i+j) / 2+1) j (by omega) (by omega) (by omega) hJ (fun k a b=>by
            by_cases e:k=(i+j) / 2
            · rw[e];exact hh
            · exact hq k ((i+j) / 2) a (by omega) (by omega) hh) h2
          exact⟨by omega,r.2.1,r.2.2⟩
        · rename_i hh
          have hh:q ((i+j) / 2)=false:=by simpa using hh
          have r:=bs_spec q I J hq n i ((i+j) / 2) (by omega) hI (by omega) (by omega) h1 (fun k a b=>by
            by_cases e:k=(i+j) / 2
            · rw[e];exact hh
            · cases hk:q k with
              | false=>rfl
              | true=>rw[hq ((i+j) / 2) k (by omega) (by omega) b hk] at hh;exact absurd hh (by simp))
          exact⟨r.1,by omega,r.2.2⟩
    · obtain rfl:i=j:=by omega
      exact⟨Nat.le_refl _,Nat.le_refl _,h1,h2⟩
theorem bs_of (q:Nat→Bool) (I J:Nat) (hIJ:I≤J) (hq:∀h k,I≤h→h<k→k<J→q k=true→q h=true) :
    I≤bs q I J∧bs q I J≤J∧(∀k,I≤k→k<bs q I J→q k=true)∧(∀k,bs q I J≤k→k<J→q k=false):=
  bs_spec q I J hq (J-I) I J (Nat.le_refl _) (Nat.le_refl _) hIJ (Nat.le_refl _) (fun _ _ _=>by omega) (fun _ _ _=>by omega)
section
variable (lt:α→α→Bool)
def sm:Nat→Array α→Nat→Nat→Nat→Array α
  | 0,d,_,_,_=>d
  | f+1,d,a,m,b=>
    if m-a=1 then rot d a m (bs (fun h=>lt d[h]! d[a]!) m b)
    else if b-m=1 then rot d (bs (fun h=>!lt d[m]! d[h]!) a m) m b
    else
      let mid:=(a+b) / 2
      let n:=mid+m
      let s:=bs (fun c=>!lt d[n-1-c]! d[c]!) (if mid<m then n-b else a) (if mid<m then mid else m)
      let e:=n-s
      let d1:=if s<m∧m<e then rot d s m e else d
      let d2:=if a<s∧s<mid then sm f d1 a s mid else d1
      if mid<e∧e<b then sm f d2 mid e b else d2
def stBlocks (n a:Nat) (d:Array α):Array α:=if a+20≤n then stBlocks n (a+20) (insertionSort lt d a (a+20)) else insertionSort lt d a n
termination_by n-a
def stPass (n s a:Nat) (d:Array α):Array α:=if 0<s∧a+2*s≤n then stPass n s (a+2*s) (sm lt (2*s) d a (a+s) (a+2*s)) else if a+s<n then sm lt (n-a) d a (a+s) n else d
termination_by n-a
decreasing_by omega
def stOuter (n s:Nat) (d:Array α):Array α:=if 0<s∧s<n then stOuter n (2*s) (stPass lt n s 0 d) else d
termination_by n-s
decreasing_by omega
def stable (d:Array α) (n:Nat):Array α:=stOuter lt n 20 (stBlocks lt n 0 d)
end

def eqv (lt:α→α→Bool) (c x:α):Bool:=!lt c x&&!lt x c
def St (lt:α→α→Bool) (l l':List α):Prop:=∀c,l'.filter (eqv lt c)=l.filter (eqv lt c)
section
variable {lt:α→α→Bool}
omit [Inhabited α] in
theorem St.refl (l:List α):St lt l l:=fun _=>rfl
omit [Inhabited α] in
theorem St.trans {a b c:List α} (h:St lt a b) (g:St lt b c):St lt a c:=fun x=>(g x).trans (h x)
omit [Inhabited α] in
theorem St.append {a b c d:List α} (h:St lt a b) (g:St lt c d):St lt (a++c) (b++d):=fun x=>by rw[List.filter_append,List.filter_append,h x,g x]
omit [Inhabited α] in
theorem St.mem (hS:SWO lt) {a b:List α} (h:St lt a b) (x:α):x∈b↔x∈a:=by
  have e:eqv lt x x=true:=by simp[eqv,hS.irrefl]
  have k:∀l:List α,x∈l↔x∈l.filter (eqv lt x):=fun l=>by simp[List.mem_filter,e]
  rw[k b,k a,h x]
omit [Inhabited α] in
theorem eqv_no (hS:SWO lt) {c x y:α} (h:lt y x=true) (hx:eqv lt c x=true):eqv lt c y=false:=by
  simp only[eqv,Bool.and_eq_true,Bool.not_eq_true'] at hx
  cases hy:eqv lt c y with
  | false=>rfl
  | true=>
    simp only[eqv,Bool.and_eq_true,Bool.not_eq_true'] at hy
    have:=hS.ntrans _ _ _ hy.2 hx.1
    rw[h] at this;cases this
omit [Inhabited α] in
theorem St.swap (hS:SWO lt) (u v:List α) (h:∀x∈u,∀y∈v,lt y x=true):St lt (u++v) (v++u):=fun c=>by
  rw[List.filter_append,List.filter_append]
  by_cases hu:u.filter (eqv lt c)=[]
  · rw[hu];simp
  · obtain⟨x,hx⟩:=List.exists_mem_of_ne_nil _ hu
    rw[List.mem_filter] at hx
    have:v.filter (eqv lt c)=[]:=by
      rw[List.filter_eq_nil_iff]
      intro y hy
      rw[eqv_no hS (h x hx.1 y hy) hx.2];simp
    rw[this];simp

def seg (d:Array α) (a b:Nat):List α:=(List.range' a (b-a)).map (d[·]!)
theorem seg_append (d:Array α) {a b c:Nat} (h1:a≤b) (h2:b≤c):seg d a b++seg d b c=seg d a c:=by
  unfold seg;rw[←List.map_append]
  congr 1
  have h:=@List.range'_append_1 a (b-a) (c-b)
  rw[show a+(b-a)=b by omega,show (b-a)+(c-b)=c-a by omega] at h
  exact h
theorem seg_congr {d d':Array α} {a b:Nat} (h:∀t,a≤t→t<b→d'[t]! = d[t]!):seg d' a b=seg d a b:=by
  unfold seg
  refine List.map_congr_left fun t ht=>?_
  have:=List.mem_range'_1.1 ht
  exact h t this.1 (by omega)
theorem seg_shift {d d':Array α} {x y n:Nat} (h:∀t,t<n→d'[x+t]! = d[y+t]!):seg d' x (x+n)=seg d y (y+n):=by
  unfold seg
  rw[show x+n-x=n by omega,show y+n-y=n by omega,List.range'_eq_map_range,List.range'_eq_map_range,List.map_map,List.map_map]
  exact List.map_congr_left fun t ht=>h t (List.mem_range.1 ht)
theorem mem_seg {d:Array α} {a b:Nat} {x:α}:x∈seg d a b↔∃t,a≤t∧t<b∧d[t]! = x:=by
  unfold seg
  rw[List.mem_map]
  constructor
  · rintro ⟨t,ht,rfl⟩;have:=List.mem_range'_1.1 ht;exact⟨t,this.1,by omega,rfl⟩
  · rintro ⟨t,h1,h2,rfl⟩;exact⟨t,List.mem_range'_1.2 ⟨h1,by omega⟩,rfl⟩
theorem seg_rot (d:Array α) {a m b:Nat} (h1:a≤m) (h2:m≤b) (hb:b≤d.size):seg (rot d a m b) a b=seg d m b++seg d a m:=by
  rw[←seg_append (rot d a m b) (show a≤a+(b-m) by omega) (show a+(b-m)≤b by omega)]
  congr 1
  · have:=seg_shift (d:=d) (d':=rot d a m b) (x:=a) (y:=m) (n:=b-m) (fun t ht=>by
      rw[get_rot _ _ _ _ _ (by omega)];unfold ri;rw[if_pos (by omega)];congr 1;omega)
    rw[this,show m+(b-m)=b by omega]
  · have:=seg_shift (d:=d) (d':=rot d a m b) (x:=a+(b-m)) (y:=a) (n:=m-a) (fun t ht=>by
      rw[get_rot _ _ _ _ _ (by omega)];unfold ri;rw[if_neg (by omega),if_pos (by omega)];congr 1;omega)
    rw[show a+(b-m)+(m-a)=b by omega,show a+(m-a)=m by omega] at this
    exact this

structure Mg (lt:α→α→Bool) (a b:Nat) (d d':Array α):Prop where
  size:d'.size=d.size
  out:∀t,t<a∨b≤t→d'[t]! = d[t]!
  sorted:SortedIn lt a b d'
  st:St lt (seg d a b) (seg d' a b)
theorem Mg.id {a b:Nat} {d:Array α} (h:SortedIn lt a b d):Mg lt a b d d:=⟨rfl,fun _ _=>rfl,h,St.refl _⟩
theorem Mg.mem (hS:SWO lt) {a b:Nat} {d d':Array α} (h:Mg lt a b d d') {p:Nat} (h1:a≤p) (h2:p<b):∃t,a≤t∧t<b∧d[t]! = d'[p]!:=
  mem_seg.1 ((h.st.mem hS _).1 (mem_seg.2 ⟨p,h1,h2,rfl⟩))

theorem St.rot (hS:SWO lt) {d:Array α} {a s m e b:Nat} (h1:a≤s) (h2:s≤m) (h3:m≤e) (h4:e≤b) (hb:b≤d.size) (hc:∀i j,s≤i→i<m→m≤j→j<e→lt d[j]! d[i]! = true) :
    St lt (seg d a b) (seg (rot d s m e) a b):=by
  rw[←seg_append d (show a≤s from h1) (show s≤b by omega),←seg_append d (show s≤e by omega) h4,←seg_append d h2 h3,
    ←seg_append (Stable.rot d s m e) (show a≤s from h1) (show s≤b by omega),←seg_append (Stable.rot d s m e) (show s≤e by omega) h4,seg_rot d h2 h3 (by omega),
    seg_congr (d:=d) (d':=Stable.rot d s m e) (a:=a) (b:=s) (fun t _ ht=>get_rot_out _ _ _ _ _ h2 h3 (Or.inl ht)),seg_congr (d:=d) (d':=Stable.rot d s m e) (a:=e) (b:=b) (fun t ht _=>get_rot_out _ _ _ _ _ h2 h3 (Or.inr ht))]
  refine(St.refl _).append ((St.swap hS _ _ ?_).append (St.refl _))
  intro x hx y hy
  obtain⟨i,i1,i2,rfl⟩:=mem_seg.1 hx
  obtain⟨j,j1,j2,rfl⟩:=mem_seg.1 hy
  exact hc i j i1 i2 j1 j2

theorem sorted_rot (hS:SWO lt) {d:Array α} {a s m e b:Nat} (h1:a≤s) (h2:s≤m) (h3:m≤e) (h4:e≤b) (hb:b≤d.size) (hu:SortedIn lt a m d) (hv:SortedIn lt m b d)
    (hc:∀i j,s≤i→i<m→m≤j→j<e→lt d[j]! d[i]! = true) (g1:∀i j,a≤i→i<s→m≤j→j<b→lt d[j]! d[i]! = false) (g2:∀i j,s≤i→i<m→e≤j→j<b→lt d[j]! d[i]! = false) :
    SortedIn lt a b (rot d s m e):=by
  intro p q hp hpq hq
  rw[get_rot _ _ _ _ _ (by omega),get_rot _ _ _ _ _ (by omega)]
  unfold ri
  split
  · split
    · exact hv _ _ (by omega) (by omega) (by omega)
    · split
      · omega
      · exact g1 _ _ (by omega) (by omega) (by omega) (by omega)
  · split
    · split
      · exact hS.asymmA (hc _ _ (by omega) (by omega) (by omega) (by omega))
      · split
        · exact hu _ _ (by omega) (by omega) (by omega)
        · exact hu _ _ (by omega) (by omega) (by omega)
    · split
      · exact hv _ _ (by omega) (by omega) (by omega)
      · split
        · exact g2 _ _ (by omega) (by omega) (by omega) (by omega)
        · by_cases c:q<s
          · exact hu _ _ (by omega) (by omega) (by omega)
          · by_cases c':p<s
            · exact g1 _ _ (by omega) (by omega) (by omega) (by omega)
            · exact hv _ _ (by omega) (by omega) (by omega)

theorem SortedIn.le (hS:SWO lt) {a b:Nat} {d:Array α} (h:SortedIn lt a b d) {i j:Nat} (h1:a≤i) (h2:i≤j) (h3:j<b):lt d[j]! d[i]! = false:=by
  by_cases e:i=j
  · subst e;exact hS.irrefl _
  · exact h i j h1 (by omega) h3

theorem sm_spec (hS:SWO lt):∀(f:Nat) (d:Array α) (a m b:Nat),b-a≤f→a<m→m<b→b≤d.size→SortedIn lt a m d→SortedIn lt m b d→Mg lt a b d (sm lt f d a m b)
  | 0,_,_,_,_,hf,_,_,_,_,_=>by omega
  | f+1,d,a,m,b,hf,ham,hmb,hb,hu,hv=>by
    rw[sm]
    by_cases c1:m-a=1
    · rw[if_pos c1]
      obtain⟨r1,r2,r3,r4⟩:=bs_of (fun h=>lt d[h]! d[a]!) m b (by omega) (fun h k x1 x2 x3 hk=>by
        cases hh:lt d[h]! d[a]! with
        | true=>rfl
        | false=>
          have:=hS.ntrans _ _ _ (hv h k x1 x2 x3) hh
          rw[hk] at this;cases this)
      have hc:∀i j,a≤i→i<m→m≤j→j<bs (fun h=>lt d[h]! d[a]!) m b→lt d[j]! d[i]! = true:=fun i j x1 x2 x3 x4=>by
        obtain rfl:i=a:=by omega
        exact r3 j x3 x4
      refine⟨by simp,fun t ht=>get_rot_out _ _ _ _ _ (by omega) r1 (by omega),sorted_rot hS (Nat.le_refl _) (by omega) r1 r2 hb hu hv hc (fun i j _ _ _ _=>by omega) (fun i j x1 x2 x3 x4=>?_),St.rot hS (Nat.le_refl _) (by omega) r1 r2 hb hc⟩
      obtain rfl:i=a:=by omega
      exact r4 j x3 x4
    · rw[if_neg c1]
      by_cases c2:b-m=1
      · rw[if_pos c2]
        obtain⟨r1,r2,r3,r4⟩:=bs_of (fun h=>!lt d[m]! d[h]!) a m (by omega) (fun h k x1 x2 x3 hk=>by
          simp only[Bool.not_eq_true'] at hk ⊢
          exact hS.ntrans _ _ _ hk (hu h k x1 x2 x3))
        have hc:∀i j,bs (fun h=>!lt d[m]! d[h]!) a m≤i→i<m→m≤j→j<b→lt d[j]! d[i]! = true:=fun i j x1 x2 x3 x4=>by
          obtain rfl:j=m:=by omega
          have:=r4 i x1 x2
          simpa using this
        refine⟨by simp,fun t ht=>get_rot_out _ _ _ _ _ r2 (by omega) (by omega),sorted_rot hS r1 r2 (by omega) (Nat.le_refl _) hb hu hv hc (fun i j x1 x2 x3 x4=>?_) (fun i j _ _ _ _=>by omega),St.rot hS r1 r2 (by omega) (Nat.le_refl _) hb hc⟩
        obtain rfl:j=m:=by omega
        have:=r3 i x1 x2
        simpa using this
      · rw[if_neg c2]
        simp only
        generalize hmid:(a+b) / 2=mid
        generalize hS0:(if mid<m then mid+m-b else a)=S0
        generalize hR0:(if mid<m then mid else m)=R0
        have hS0':mid<m∧S0=mid+m-b∧R0=mid∨m≤mid∧S0=a∧R0=m:=by
          by_cases c:mid<m
          · rw[if_pos c] at hS0 hR0;omega
          · rw[if_neg c] at hS0 hR0;omega
        have hmid':a+b=2*mid∨a+b=2*mid+1:=by omega
        clear hS0 hR0 hmid
        obtain⟨r1,r2,r3,r4⟩:=bs_of (fun c=>!lt d[mid+m-1-c]! d[c]!) S0 R0 (by omega) (fun h k x1 x2 x3 hk=>by
          simp only[Bool.not_eq_true'] at hk ⊢
          exact hS.ntrans _ _ _ (hv (mid+m-1-k) (mid+m-1-h) (by omega) (by omega) (by omega)) (hS.ntrans _ _ _ hk (hu h k (by omega) x2 (by omega))))
        generalize hs:bs (fun c=>!lt d[mid+m-1-c]! d[c]!) S0 R0=s at r1 r2 r3 r4
        clear hs
        generalize he:mid+m-s=e
        have e1:s≤m:=by omega
        have e2:m≤e:=by omega
        have e3:e≤b:=by omega
        have e0:a≤s:=by omega
        have hc:∀i j,s≤i→i<m→m≤j→j<e→lt d[j]! d[i]! = true:=fun i j x1 x2 x3 x4=>by
          have q1:=r4 s (Nat.le_refl _) (by omega)
          simp only[Bool.not_eq_false'] at q1
          cases h:lt d[j]! d[i]! with
          | true=>rfl
          | false=>
            have:=hS.ntrans _ _ _ (SortedIn.le hS hv x3 (show j≤mid+m-1-s by omega) (by omega)) (hS.ntrans _ _ _ h (SortedIn.le hS hu (show a≤s from e0) x1 x2))
            rw[q1] at this;cases this
        have g:∀i j,a≤i→i<s→e≤j→j<b→lt d[j]! d[i]! = false:=fun i j x1 x2 x3 x4=>by
          have q1:=r3 (s-1) (by omega) (by omega)
          simp only[Bool.not_eq_true'] at q1
          rw[show mid+m-1-(s-1)=e by omega] at q1
          exact hS.ntrans _ _ _ (SortedIn.le hS hv e2 x3 x4) (hS.ntrans _ _ _ q1 (SortedIn.le hS hu x1 (show i≤s-1 by omega) (by omega)))
        have hd1:(if s<m∧m<e then rot d s m e else d)=rot d s m e:=by
          by_cases c:s<m∧m<e
          · rw[if_pos c]
          · rw[if_neg c]
            by_cases c':s=m
            · subst c';rw[rot_self2]
            · obtain rfl:m=e:=by omega
              rw[rot_self]
        rw[hd1]
        have st1:=St.rot hS e0 e1 e2 e3 hb hc
        have sz1:(rot d s m e).size=d.size:=by simp
        have o1:∀t,t<s∨e≤t→(rot d s m e)[t]! = d[t]!:=fun t ht=>get_rot_out _ _ _ _ _ e1 e2 ht
        have gr:∀t,t<b→(rot d s m e)[t]! = d[ri s m e t]!:=fun t ht=>get_rot _ _ _ _ _ (by omega)
        have A1:SortedIn lt a s (rot d s m e):=fun p q x1 x2 x3=>by rw[o1 _ (by omega),o1 _ (by omega)];exact hu _ _ x1 x2 (by omega)
        have A2:SortedIn lt s mid (rot d s m e):=fun p q x1 x2 x3=>by
          rw[gr _ (by omega),gr _ (by omega)];unfold ri;rw[if_pos (by omega),if_pos (by omega)];exact hv _ _ (by omega) (by omega) (by omega)
        have A3:SortedIn lt mid e (rot d s m e):=fun p q x1 x2 x3=>by
          rw[gr _ (by omega),gr _ (by omega)];unfold ri;rw[if_neg (by omega),if_pos (by omega),if_neg (by omega),if_pos (by omega)];exact hu _ _ (by omega) (by omega) (by omega)
        have A4:SortedIn lt e b (rot d s m e):=fun p q x1 x2 x3=>by rw[o1 _ (by omega),o1 _ (by omega)];exact hv _ _ (by omega) x2 x3
        have H:∀p q,a≤p→p<mid→mid≤q→q<b→lt (rot d s m e)[q]! (rot d s m e)[p]! = false:=fun p q x1 x2 x3 x4=>by
          rw[gr _ x4,gr _ (by omega)];unfold ri
          rw[if_neg (show ¬(s≤q∧q<s+(e-m)) by omega),if_neg (show ¬(s+(e-m)≤p∧p<e) by omega)]
          split
          · split
            · exact hS.asymmA (hc _ _ (by omega) (by omega) (by omega) (by omega))
            · exact hu _ _ (by omega) (by omega) (by omega)
          · split
            · exact hv _ _ (by omega) (by omega) (by omega)
            · exact g _ _ (by omega) (by omega) (by omega) (by omega)
        generalize rot d s m e=d1 at *
        clear gr hd1
        have M2:Mg lt a mid d1 (if a<s∧s<mid then sm lt f d1 a s mid else d1):=by
          by_cases c:a<s∧s<mid
          · rw[if_pos c];exact sm_spec hS f d1 a s mid (by omega) c.1 c.2 (by omega) A1 A2
          · rw[if_neg c]
            refine Mg.id ?_
            by_cases c':a=s
            · rw[c'];exact A2
            · obtain rfl:s=mid:=by omega
              exact A1
        generalize (if a<s∧s<mid then sm lt f d1 a s mid else d1)=d2 at M2
        have M3:Mg lt mid b d2 (if mid<e∧e<b then sm lt f d2 mid e b else d2):=by
          have B3:SortedIn lt mid e d2:=fun p q x1 x2 x3=>by rw[M2.out _ (by omega),M2.out _ (by omega)];exact A3 _ _ x1 x2 x3
          have B4:SortedIn lt e b d2:=fun p q x1 x2 x3=>by rw[M2.out _ (by omega),M2.out _ (by omega)];exact A4 _ _ x1 x2 x3
          by_cases c:mid<e∧e<b
          · rw[if_pos c];exact sm_spec hS f d2 mid e b (by omega) c.1 c.2 (by rw[M2.size];omega) B3 B4
          · rw[if_neg c]
            refine Mg.id ?_
            by_cases c':mid=e
            · rw[c'];exact B4
            · obtain rfl:e=b:=by omega
              exact B3
        generalize (if mid<e∧e<b then sm lt f d2 mid e b else d2)=d3 at M3
        refine⟨by rw[M3.size,M2.size,sz1],fun t ht=>by rw[M3.out _ (by omega),M2.out _ (by omega),o1 _ (by omega)],?_,?_⟩
        · intro p q x1 x2 x3
          by_cases c:q<mid
          · rw[M3.out _ (by omega),M3.out _ (by omega)];exact M2.sorted _ _ x1 x2 c
          · by_cases c':mid≤p
            · exact M3.sorted _ _ c' x2 x3
            · rw[M3.out p (by omega)]
              obtain⟨p',y1,y2,y3⟩:=M2.mem hS x1 (show p<mid by omega)
              obtain⟨q',z1,z2,z3⟩:=M3.mem hS (show mid≤q by omega) x3
              rw[←y3,←z3,M2.out q' (by omega)]
              exact H _ _ y1 y2 z1 z2
        · refine st1.trans ?_
          rw[←seg_append d1 (show a≤mid by omega) (show mid≤b by omega),←seg_append d3 (show a≤mid by omega) (show mid≤b by omega)]
          refine St.append ?_ ?_
          · rw[seg_congr (d:=d2) (d':=d3) (fun t _ ht=>M3.out _ (by omega))];exact M2.st
          · rw[←seg_congr (d:=d1) (d':=d2) (fun t ht _=>M2.out _ (by omega))];exact M3.st

theorem seg_swp (d:Array α) {a b j:Nat} (haj:a≤j) (hjb:j+2≤b) (hb:b≤d.size) (hS:SWO lt) (hl:lt d[j+1]! d[j]! = true):St lt (seg d a b) (seg (swp d (j+1) j) a b):=by
  have e:swp d (j+1) j=rot d j (j+1) (j+2):=by
    have:=rot_up d j j (Nat.le_refl _) (by omega)
    rw[←this,rot_self]
    refine ext_get2 (by simp[size_swp]) fun t _=>?_
    rw[swp_get _ (by omega) (by omega),swp_get _ (by omega) (by omega)]
    by_cases c1:t=j
    · subst c1;rw[if_pos rfl,if_neg (by omega),if_pos rfl]
    · rw[if_neg c1,if_neg c1]
  rw[e]
  refine St.rot hS haj (by omega) (by omega) hjb hb fun p q x1 x2 x3 x4=>?_
  obtain rfl:p=j:=by omega
  obtain rfl:q=p+1:=by omega
  exact hl
theorem insInner_st (hS:SWO lt) (a b:Nat):∀(j:Nat) (d:Array α),a≤j→j<b→b≤d.size→(insInner lt a j d).size=d.size∧St lt (seg d a b) (seg (insInner lt a j d) a b)
  | 0,d,_,_,_=>by rw[insInner];exact⟨rfl,St.refl _⟩
  | j+1,d,haj,hjb,hb=>by
    rw[insInner]
    split
    · rename_i hc
      simp only[Bool.and_eq_true,decide_eq_true_eq] at hc
      have ih:=insInner_st hS a b j (swp d (j+1) j) (by omega) (by omega) (by rw[size_swp];exact hb)
      exact⟨ih.1.trans (size_swp _ _ _),(seg_swp d (by omega) (by omega) hb hS hc.2).trans ih.2⟩
    · exact⟨rfl,St.refl _⟩
theorem insOuter_st (hS:SWO lt) (a b:Nat):∀(n i:Nat) (d:Array α),b-i=n→a≤i→b≤d.size→St lt (seg d a b) (seg (insOuter lt a b i d) a b)
  | 0,i,d,hn,_,_=>by rw[insOuter,if_neg (by omega)];exact St.refl _
  | n+1,i,d,hn,hai,hb=>by
    rw[insOuter,if_pos (by omega)]
    have h1:=insInner_st hS a b i d hai (by omega) hb
    exact h1.2.trans (insOuter_st hS a b n (i+1) _ (by omega) (by omega) (by rw[h1.1];exact hb))
theorem ins_Mg (hS:SWO lt) {a b:Nat} (d:Array α) (hab:a≤b) (hb:b≤d.size):Mg lt a b d (insertionSort lt d a b):=by
  have h:=insertionSort_holds hS d a b hab hb
  exact⟨h.1.1,fun t ht=>h.1.2.1 t ht,h.2,insOuter_st hS a b _ (a+1) d rfl (by omega) hb⟩

def Blk (lt:α→α→Bool) (s a n:Nat) (d:Array α):Prop:=∀k,SortedIn lt (a+k*s) (min (a+k*s+s) n) d
theorem stBlocks_spec (hS:SWO lt) (n:Nat):∀(r a:Nat) (d:Array α),n-a≤r→a≤n→n≤d.size →
    (stBlocks lt n a d).size=d.size∧(∀t,t<a∨n≤t→(stBlocks lt n a d)[t]! = d[t]!)∧St lt (seg d a n) (seg (stBlocks lt n a d) a n)∧Blk lt 20 a n (stBlocks lt n a d)
  | r,a,d,hr,han,hn=>by
    rw[stBlocks]
    split
    · rename_i h
      cases r with
      | zero=>omega
      | succ r=>
        have M:=ins_Mg hS d (show a≤a+20 by omega) (show a+20≤d.size by omega)
        generalize insertionSort lt d a (a+20)=d1 at M
        obtain⟨q1,q2,q3,q4⟩:=stBlocks_spec hS n r (a+20) d1 (by omega) h (by rw[M.size];exact hn)
        generalize stBlocks lt n (a+20) d1=d2 at *
        refine⟨q1.trans M.size,fun t ht=>by rw[q2 t (by omega),M.out t (by omega)],?_,?_⟩
        · rw[←seg_append d (show a≤a+20 by omega) h,←seg_append d2 (show a≤a+20 by omega) h]
          refine St.append ?_ ?_
          · rw[seg_congr (d:=d1) (d':=d2) (fun t _ ht=>q2 _ (by omega))];exact M.st
          · rw[←seg_congr (d:=d) (d':=d1) (fun t ht _=>M.out _ (by omega))];exact q3
        · intro k
          cases k with
          | zero=>
            intro i j x1 x2 x3
            rw[q2 _ (by omega),q2 _ (by omega)]
            exact M.sorted i j (by omega) x2 (by omega)
          | succ k=>
            have:=q4 k
            rw[show a+(k+1)*20=a+20+k*20 by omega];exact this
    · have M:=ins_Mg hS d han hn
      refine⟨M.size,M.out,M.st,fun k i j x1 x2 x3=>?_⟩
      exact M.sorted i j (by omega) x2 (by omega)
theorem stPass_spec (hS:SWO lt) (n s:Nat) (hs:0<s):∀(r a:Nat) (d:Array α),n-a≤r→a≤n→n≤d.size→Blk lt s a n d →
    (stPass lt n s a d).size=d.size∧(∀t,t<a∨n≤t→(stPass lt n s a d)[t]! = d[t]!)∧St lt (seg d a n) (seg (stPass lt n s a d) a n)∧Blk lt (2*s) a n (stPass lt n s a d)
  | r,a,d,hr,han,hn,hB=>by
    have B0:=hB 0
    have B1:=hB 1
    rw[Nat.zero_mul,Nat.add_zero] at B0
    rw[Nat.one_mul] at B1
    rw[stPass]
    split
    · rename_i h
      cases r with
      | zero=>omega
      | succ r=>
        have M:=sm_spec hS (2*s) d a (a+s) (a+2*s) (by omega) (by omega) (by omega) (by omega) (fun i j x1 x2 x3=>B0 i j x1 x2 (by omega)) (fun i j x1 x2 x3=>B1 i j x1 x2 (by omega))
        generalize sm lt (2*s) d a (a+s) (a+2*s)=d1 at M
        have hB1:Blk lt s (a+2*s) n d1:=fun k i j x1 x2 x3=>by
          have g:=hB (k+2)
          rw[show a+(k+2)*s=a+2*s+k*s by rw[Nat.add_mul];omega] at g
          rw[M.out _ (Or.inr (by omega)),M.out _ (Or.inr (by omega))]
          exact g i j x1 x2 x3
        obtain⟨q1,q2,q3,q4⟩:=stPass_spec hS n s hs r (a+2*s) d1 (by omega) h.2 (by rw[M.size];exact hn) hB1
        generalize stPass lt n s (a+2*s) d1=d2 at *
        refine⟨q1.trans M.size,fun t ht=>by rw[q2 t (by omega),M.out t (by omega)],?_,?_⟩
        · rw[←seg_append d (show a≤a+2*s by omega) h.2,←seg_append d2 (show a≤a+2*s by omega) h.2]
          refine St.append ?_ ?_
          · rw[seg_congr (d:=d1) (d':=d2) (fun t _ ht=>q2 _ (by omega))];exact M.st
          · rw[←seg_congr (d:=d) (d':=d1) (fun t ht _=>M.out _ (by omega))];exact q3
        · intro k
          cases k with
          | zero=>
            intro i j x1 x2 x3
            rw[q2 _ (by omega),q2 _ (by omega)]
            exact M.sorted i j (by omega) x2 (by omega)
          | succ k=>
            have:=q4 k
            rw[show a+(k+1)*(2*s)=a+2*s+k*(2*s) by rw[Nat.add_mul];omega];exact this
    · rename_i h
      have fin:∀d',Mg lt a n d d'→d'.size=d.size∧(∀t,t<a∨n≤t→d'[t]! = d[t]!)∧St lt (seg d a n) (seg d' a n)∧Blk lt (2*s) a n d':=fun d' M=>
        ⟨M.size,M.out,M.st,fun k i j x1 x2 x3=>M.sorted i j (by omega) x2 (by omega)⟩
      split
      · rename_i h2
        exact fin _ (sm_spec hS (n-a) d a (a+s) n (Nat.le_refl _) (by omega) h2 hn (fun i j x1 x2 x3=>B0 i j x1 x2 (by omega)) (fun i j x1 x2 x3=>B1 i j x1 x2 (by omega)))
      · exact fin _ (Mg.id fun i j x1 x2 x3=>B0 i j x1 x2 (by omega))
theorem stOuter_spec (hS:SWO lt) (n:Nat):∀(r s:Nat) (d:Array α),n-s≤r→0<s→n≤d.size→Blk lt s 0 n d →
    (stOuter lt n s d).size=d.size∧St lt (seg d 0 n) (seg (stOuter lt n s d) 0 n)∧SortedIn lt 0 n (stOuter lt n s d)
  | r,s,d,hr,hs,hn,hB=>by
    rw[stOuter]
    split
    · rename_i h
      cases r with
      | zero=>omega
      | succ r=>
        obtain⟨p1,_,p3,p4⟩:=stPass_spec hS n s hs n 0 d (by omega) (Nat.zero_le _) hn hB
        obtain⟨q1,q2,q3⟩:=stOuter_spec hS n r (2*s) _ (by omega) (by omega) (by rw[p1];exact hn) p4
        exact⟨q1.trans p1,p3.trans q2,q3⟩
    · have:=hB 0
      refine⟨rfl,St.refl _,fun i j x1 x2 x3=>this i j (by omega) x2 (by omega)⟩
theorem stable_spec (hS:SWO lt) (d:Array α):(stable lt d d.size).size=d.size∧St lt d.toList (stable lt d d.size).toList∧SortedIn lt 0 d.size (stable lt d d.size):=by
  have all:∀x:Array α,seg x 0 x.size=x.toList:=fun x=>by
    have:=extract_toList x 0 x.size (Nat.le_refl _)
    unfold seg;rw[←this];simp
  obtain⟨p1,_,p3,p4⟩:=stBlocks_spec hS d.size d.size 0 d (by omega) (Nat.zero_le _) (Nat.le_refl _)
  obtain⟨q1,q2,q3⟩:=stOuter_spec hS d.size d.size 20 (stBlocks lt d.size 0 d) (by omega) (by omega) (by omega) p4
  refine⟨q1.trans p1,?_,q3⟩
  have:=p3.trans q2
  rw[all] at this
  have h2:=all (stable lt d d.size)
  rw[show (stable lt d d.size).size=d.size from q1.trans p1] at h2
  rw[←h2];exact this

omit [Inhabited α] in
theorem St.unique (hS:SWO lt):∀{l l':List α},St lt l l'→l.Pairwise (fun x y=>lt y x=false)→l'.Pairwise (fun x y=>lt y x=false)→l'=l
  | [],[],_,_,_=>rfl
  | [],y::l',h,_,_=>by have:=(h.mem hS y).1 (by simp);simp at this
  | x::l,[],h,_,_=>by have:=(h.mem hS x).2 (by simp);simp at this
  | x::l,y::l',h,hl,hl'=>by
    have hx:x∈y::l':=(h.mem hS x).2 (by simp)
    have hy:y∈x::l:=(h.mem hS y).1 (by simp)
    have hxy:lt x y=false:=by
      rcases List.mem_cons.1 hx with e|e
      · rw[e];exact hS.irrefl _
      · exact(List.pairwise_cons.1 hl').1 x e
    have hyx:lt y x=false:=by
      rcases List.mem_cons.1 hy with e|e
      · rw[e];exact hS.irrefl _
      · exact(List.pairwise_cons.1 hl).1 y e
    have e1:=h x
    rw[List.filter_cons_of_pos (by simp[eqv,hxy,hyx]),List.filter_cons_of_pos (by simp[eqv,hS.irrefl])] at e1
    obtain⟨rfl,-⟩:=List.cons.inj e1
    have h':St lt l l':=fun c=>by
      have:=h c
      rw[List.filter_cons,List.filter_cons] at this
      split at this
      · exact(List.cons.inj this).2
      · exact this
    rw[St.unique hS h' (List.pairwise_cons.1 hl).2 (List.pairwise_cons.1 hl').2]
theorem stable_eq (hS:SWO lt) (d:Array α) (L:List α) (h:St lt d.toList L) (hp:L.Pairwise (fun x y=>lt y x=false)):(stable lt d d.size).toList=L:=by
  obtain⟨h1,h2,h3⟩:=stable_spec hS d
  have h4:St lt L (stable lt d d.size).toList:=fun c=>(h2 c).trans (h c).symm
  refine St.unique hS h4 hp ?_
  rw[List.pairwise_iff_getElem]
  intro i j hi hj hij
  simp only[Array.length_toList] at hi hj
  have:=h3 i j (Nat.zero_le _) hij (by omega)
  rw[getElem!_pos (stable lt d d.size) j hj,getElem!_pos (stable lt d d.size) i hi] at this
  simpa using this

def put (lt:α→α→Bool) (x:α) (l:List α):List α:=l.takeWhile (fun y=>!lt x y)++x::l.dropWhile (fun y=>!lt x y)
end
end Go.Proofs.YtanfohlpkppeiaaGreat.Stable
end
section
namespace Go.Proofs.YtanfohlpkppeiaaGreat.Stable
open Go.Shelf Go.RowKit Go.Lib Go.Sort
set_option linter.unusedVariables false
variable {P:Program} {ρ:Ren} {α:Type} [Inhabited α]

def SWK (enc:α→List Value) (k:Nat) (w0:World) (blk off:Nat) (dk:Array α) (W:World):Prop:=SW id w0 blk off (flatK enc k dk) W
section
variable {enc:α→List Value} {k:Nat} {w0 W:World} {blk off:Nat} {dk:Array α}
theorem SWK.start (h:HoldsK enc k w0 blk off dk):SWK enc k w0 blk off dk w0:=SW.start h
theorem SWK.drewN (h:SWK enc k w0 blk off dk W) (q:Nat):SWK enc k w0 blk off dk (W.drewN q):=SW.drewN h q
theorem SWK.alloc (h:SWK enc k w0 blk off dk W) (o:Obj):SWK enc k w0 blk off dk (W.alloc o):=SW.alloc h o
theorem SWK.le (h:SWK enc k w0 blk off dk W):w0.heap.size≤W.heap.size:=SW.le h
theorem SWK.holds (h:SWK enc k w0 blk off dk W) (hblk:blk<w0.heap.size) {d0:Array α} (h0:HoldsK enc k w0 blk off d0) (hs:dk.size=d0.size):HoldsK enc k W blk off dk:=
  SW.holds h hblk h0 (by simp[hs])
theorem SWK.on (h:SWK enc k w0 blk off dk W) (hblk:blk<w0.heap.size) (m:Nat) (dk':Array α) (os':Array Obj) (hs:dk'.size=dk.size):SWK enc k w0 blk off dk' (sortWorldK enc k W blk off m dk' os'):=
  SW.on h hblk m (flatK enc k dk') os' (by simp[hs])
theorem SWK.swap (hk:∀x,(enc x).length=k) (h:SWK enc k w0 blk off dk W) (hblk:blk<w0.heap.size) (i j:Nat) (hi:i<dk.size) (hj:j<dk.size) :
    SWK enc k w0 blk off (swp dk i j) ((W.setCells blk (off+i*k) (enc dk[j]!)).setCells blk (off+j*k) (enc dk[i]!)):=by
  obtain⟨n,os,rfl⟩:=h
  refine⟨n,os,?_⟩
  have b:∀x,x<dk.size→x*k+k≤dk.size*k:=fun x hx=>by
    have:=Nat.mul_le_mul_right k (show x+1≤dk.size from hx);rwa [Nat.add_mul,Nat.one_mul] at this
  unfold sortWorld
  rw[←putRow_grow id (Sort.ahead w0 n) os blk off _ hblk,setCells_putRow _ _ _ _ _ _ (by rw[hk,size_flatK];exact b i hi),setCells_putRow _ _ _ _ _ _ (by rw[hk,size_setMany,size_flatK];exact b j hj),
    setMany_swp enc k hk dk i j hi hj,putRow_grow id (Sort.ahead w0 n) os blk off _ hblk]
theorem SWK.less {g:Nat} {lb:Array Value} {lt:α→α→Bool} {size:Nat} (h:SWK enc k w0 blk off dk W) (hL:LessReadsK P g lb enc k lt blk off size w0) (hs:dk.size=size) (i j:Nat) (hi:i<size) (hj:j<size) :
    Calls P g (#[.int .i64 i,.int .i64 j]++lb) W fun e w'=>e=.returned (.bool (lt dk[i]! dk[j]!))∧∃q,w'=W.drewN q:=by
  obtain⟨n,os,rfl⟩:=h
  exact hL n os dk hs i j hi hj
theorem SWK.cell_swap (W:World) (blk o1 o2:Nat) (v1 v2:List Value) (b o:Nat) (h:b≠blk):((W.setCells blk o1 v1).setCells blk o2 v2).cell? ⟨b,o,none⟩=W.cell? ⟨b,o,none⟩:=by
  rw[World.cell?_setCells_out blk _ _ _ _ (fun e=>absurd e h),World.cell?_setCells_out blk _ _ _ _ (fun e=>absurd e h)]
end

def Keep (blk:Nat) (W W':World):Prop:=∀b o v,b≠blk→W.cell? ⟨b,o,none⟩=some v→W'.cell? ⟨b,o,none⟩=some v
theorem lt_of_cell {W:World} {b o:Nat} {v:Value} (h:W.cell? ⟨b,o,none⟩=some v):b<W.heap.size:=by
  by_cases hlt:b<W.heap.size
  · exact hlt
  · unfold World.cell? at h
    rw[Array.getElem?_eq_none (by simpa using hlt)] at h;simp at h
theorem Keep.refl (blk:Nat) (W:World):Keep blk W W:=fun _ _ _ _ h=>h
theorem Keep.trans {blk:Nat} {W W' W'':World} (h:Keep blk W W') (g:Keep blk W' W''):Keep blk W W'':=fun b o v hb hc=>g b o v hb (h b o v hb hc)
theorem Keep.alloc (blk:Nat) (W:World) (o:Obj):Keep blk W (W.alloc o):=fun b o' v _ hc=>by
  rw[alloc_eq_grow,cell?_grow _ _ _ (lt_of_cell hc)];exact hc
theorem Keep.drewN {blk:Nat} {W W':World} (h:Keep blk W W') (q:Nat):Keep blk W (W'.drewN q):=fun b o v hb hc=>h b o v hb hc

structure Data (P:Program) (enc:α→List Value) (k:Nat) (lt:α→α→Bool) (g:Nat) (lb:Array Value) (sf:Nat) (sb:Array Value) (blk off size:Nat) (w0:World):Prop where
  hk:∀x,(enc x).length=k
  eg:∀args w,(callFunc g args).run P w=.ok (.enter g args) w
  less:LessReadsK P g lb enc k lt blk off size w0
  swap:SwapSwapsK P sf sb enc k blk off size
  holds:∃d0:Array α,HoldsK enc k w0 blk off d0∧d0.size=size
  hblk:blk<w0.heap.size
  hsz:size<1152921504606846976

theorem Data.swaps {enc:α→List Value} {k:Nat} {lt:α→α→Bool} {g:Nat} {lb:Array Value} {sf:Nat} {sb:Array Value} {blk off size:Nat} {w0:World} (D:Data P enc k lt g lb sf sb blk off size w0)
    {dk:Array α} (hs:dk.size=size) {W:World} (h:SWK enc k w0 blk off dk W) (i j:Nat) (hi:i<size) (hj:j<size) :
    ∃F:Nat→World,(∀q,(callFunc sf (#[.int .i64 i,.int .i64 j]++sb)).run P (W.drewN q)=.ok (.value (.tuple #[])) (F q))∧(∀q,SWK enc k w0 blk off (swp dk i j) (F q))∧∀q,Keep blk W (F q):=by
  obtain⟨d0,h0,h1⟩:=D.holds
  refine⟨fun q=>((W.drewN q).setCells blk (off+i*k) (enc dk[j]!)).setCells blk (off+j*k) (enc dk[i]!),fun q=>D.swap (W.drewN q) dk ((h.drewN q).holds D.hblk h0 (hs.trans h1.symm)) hs i j hi hj,
    fun q=>(h.drewN q).swap D.hk D.hblk i j (hs▸hi) (hs▸hj),fun q b o v hb hc=>?_⟩
  rw[SWK.cell_swap _ _ _ _ _ _ _ _ hb];exact hc

set_option maxHeartbeats 2000000 in
set_option maxRecDepth 100000 in
theorem swapRange_cells (L:LaysGt.n49 P ρ) {enc:α→List Value} {k:Nat} {lt:α→α→Bool} {g:Nat} {lb:Array Value} {sf:Nat} {sb:Array Value} {blk off size:Nat} {w0:World} (D:Data P enc k lt g lb sf sb blk off size w0)
    (d:Array α) (hs:d.size=size) (W:World) (hW:SWK enc k w0 blk off d W) (a b n:Nat) (h1:a+n≤b) (h2:b+n≤size) :
    Calls P (ρ.f 49) #[.agg #[.func (.func g) #[] lb,.func (.func sf) #[] sb],.int .i64 a,.int .i64 b,.int .i64 n] W fun e w'=>e=.returned (.tuple #[])∧SWK enc k w0 blk off (swr d a b n) w'∧Keep blk W w':=by
  have mixed:=L.mixed;have t0:=L.t0;have a0:=L.a0;have z0:=L.z0;have v0:=L.v0;have t3:=L.t3;have a3:=L.a3;have z3:=L.z3;have v3:=L.v3;have t4:=L.t4;have a4:=L.a4;have z4:=L.z4;have v4:=L.v4;have t26:=L.t26;have a26:=L.a26;have z26:=L.z26;have v26:=L.v26;have t38:=L.t38;have a38:=L.a38;have z38:=L.z38;have v38:=L.v38;have t42:=L.t42;have a42:=L.a42;have z42:=L.z42;have v42:=L.v42
  have u42:=run_underlying L.t42
  have hbs:blk≠W.heap.size:=by have:=hW.le;have:=D.hblk;omega
  have hsz:=D.hsz
  go_enter L.f49,BodyGt.n49_ntmps ρ
  go_wp2
  go_loopw [8] (fun vi wr=>∃i:Nat,vi=.int .i64 i∧i≤n∧SWK enc k w0 blk off (swr d a b i) wr∧wr.cell? ⟨W.heap.size,1,none⟩=some (.func (.func sf) #[] sb)∧Keep blk W wr) (fun vi _=>n-(intOf vi).toNat)
  case atStart=>exact⟨0,by go_num,by omega,hW.alloc _,by simp,Keep.alloc _ _ _⟩
  case round=>
    obtain⟨i,rfl,hi,hS,hc,hK⟩:=hrel
    have AK:Hid (Keep blk W wr):=hK
    clear hK
    by_cases hlt:i<n
    · obtain⟨F,hF,hF1,hF2⟩:=D.swaps (dk:=swr d a b i) (by simp[hs]) hS (a+i) (b+i) (by omega) (by omega)
      have hc':∀q,(F q).cell? ⟨W.heap.size,1,none⟩=some (.func (.func sf) #[] sb):=fun q=>hF2 q _ _ _ (Ne.symm hbs) hc
      have AK2:Hid (∀q,Keep blk W (F q)):=fun q=>AK.out.trans (hF2 q)
      have AF:Hid (∀q,SWK enc k w0 blk off (swp (swr d a b i) (a+i) (b+i)) (F q)):=hF1
      have hF0:(callFunc sf (#[.int .i64 ((a:Int)+i),.int .i64 ((b:Int)+i)]++sb)).run P wr=.ok (.value (.tuple #[])) (F 0):=by
        rw[show (a:Int)+i=((a+i:Nat):Int) by omega,show (b:Int)+i=((b+i:Nat):Int) by omega];exact hF 0
      clear hF1 hF2 hS hF
      go_wp2
      go_roundw
      case rel=>exact⟨i+1,by go_num,by omega,AF.out _,hc' _,AK2.out _⟩
      case measure=>simp[intOf];omega
    · have AS:Hid (SWK enc k w0 blk off (swr d a b i) wr):=hS
      clear hS
      go_wp2
      go_end0
      obtain rfl:i=n:=by omega
      exact⟨rfl,AS.out,AK.out⟩

set_option maxHeartbeats 2000000 in
set_option maxRecDepth 100000 in
theorem rotate_cells (L:LaysGt.n42 P ρ) {enc:α→List Value} {k:Nat} {lt:α→α→Bool} {g:Nat} {lb:Array Value} {sf:Nat} {sb:Array Value} {blk off size:Nat} {w0:World} (D:Data P enc k lt g lb sf sb blk off size w0)
    (d:Array α) (hs:d.size=size) (W:World) (hW:SWK enc k w0 blk off d W) (a m b:Nat) (h1:a<m) (h2:m<b) (h3:b≤size) :
    Calls P (ρ.f 42) #[.agg #[.func (.func g) #[] lb,.func (.func sf) #[] sb],.int .i64 a,.int .i64 m,.int .i64 b] W fun e w'=>e=.returned (.tuple #[])∧SWK enc k w0 blk off (rot d a m b) w'∧Keep blk W w':=by
  have mixed:=L.mixed;have t0:=L.t0;have a0:=L.a0;have z0:=L.z0;have v0:=L.v0;have t3:=L.t3;have a3:=L.a3;have z3:=L.z3;have v3:=L.v3;have t4:=L.t4;have a4:=L.a4;have z4:=L.z4;have v4:=L.v4;have t26:=L.t26;have a26:=L.a26;have z26:=L.z26;have v26:=L.v26;have t38:=L.t38;have a38:=L.a38;have z38:=L.z38;have v38:=L.v38;have t42:=L.t42;have a42:=L.a42;have z42:=L.z42;have v42:=L.v42
  have u42:=run_underlying L.t42
  have hbs:blk≠W.heap.size:=by have:=hW.le;have:=D.hblk;omega
  have hsz:=D.hsz
  have e49:∀args w,(callFunc (ρ.f 49) args).run P w=.ok (.enter (ρ.f 49) args) w:=enters_of L.f49 (by kernel_rfl) rfl
  have LI:LaysGt.n49 P ρ:={ L with }
  go_enter L.f42,BodyGt.n42_ntmps ρ
  go_wp2
  go_loopw [8,9] (fun vi vj wr=>∃(i j:Nat) (dk:Array α),vi=.int .i64 i∧vj=.int .i64 j∧0<i∧0<j∧i≤m∧m+j≤size∧dk.size=size∧rot dk (m-i) m (m+j)=rot d a m b∧SWK enc k w0 blk off dk wr ∧
      wr.cell? ⟨W.heap.size,0,none⟩=some (.func (.func g) #[] lb)∧wr.cell? ⟨W.heap.size,1,none⟩=some (.func (.func sf) #[] sb)∧Keep blk W wr) (fun vi vj _=>(intOf vi).toNat+(intOf vj).toNat)
  case atStart=>
    refine⟨m-a,b-m,d,by go_num,by go_num,by omega,by omega,by omega,by omega,hs,?_,hW.alloc _,by simp,by simp,Keep.alloc _ _ _⟩
    rw[show m-(m-a)=a by omega,show m+(b-m)=b by omega]
  case round=>
    obtain⟨i,j,dk,rfl,rfl,hi,hj,him,hmj,hsk,hr,hS,c0,c1,hK⟩:=hrel
    have AR:Hid (rot dk (m-i) m (m+j)=rot d a m b):=hr
    have AK:Hid (Keep blk W wr):=hK
    clear hr hK
    by_cases hne:i=j
    · subst hne
      have hc:=swapRange_cells LI D dk hsk wr hS (m-i) m i (by omega) (by omega)
      rw[show ((m-i:Nat):Int)=(m:Int)-i by omega] at hc
      have AE:Hid (swr dk (m-i) m i=rot d a m b):=(swr_rot_eq dk m i him (by omega)).trans AR.out
      clear hS
      go_wp2_with (go_at_fn (ρ.f 49);refine hc.mono ?_;rintro e w' ⟨rfl,hS',hK'⟩)
      go_end0
      exact⟨rfl,AE.out▸hS',AK.out.trans hK'⟩
    · by_cases hgt:j<i
      · have hc:=swapRange_cells LI D dk hsk wr hS (m-i) m j (by omega) (by omega)
        rw[show ((m-i:Nat):Int)=(m:Int)-i by omega] at hc
        have AE:Hid (rot (swr dk (m-i) m j) (m-(i-j)) m (m+j)=rot d a m b):=(swr_rot_gt dk m i j hj hgt him (by omega)).trans AR.out
        clear hS
        go_wp2_with (go_at_fn (ρ.f 49);refine hc.mono ?_;rintro e w' ⟨rfl,hS',hK'⟩)
        have c0':=hK' _ _ _ (Ne.symm hbs) c0
        have c1':=hK' _ _ _ (Ne.symm hbs) c1
        go_roundw
        case rel=>exact⟨i-j,j,_,by go_num,rfl,by omega,hj,by omega,hmj,by simp[hsk],AE.out,hS',c0',c1',AK.out.trans hK'⟩
        case measure=>simp[intOf];omega
      · have hc:=swapRange_cells LI D dk hsk wr hS (m-i) (m+j-i) i (by omega) (by omega)
        rw[show ((m-i:Nat):Int)=(m:Int)-i by omega,show ((m+j-i:Nat):Int)=(m:Int)+j-i by omega] at hc
        have AE:Hid (rot (swr dk (m-i) (m+j-i) i) (m-i) m (m+(j-i))=rot d a m b):=(swr_rot_lt dk m i j hi (by omega) him (by omega)).trans AR.out
        clear hS
        go_wp2_with (go_at_fn (ρ.f 49);refine hc.mono ?_;rintro e w' ⟨rfl,hS',hK'⟩)
        have c0':=hK' _ _ _ (Ne.symm hbs) c0
        have c1':=hK' _ _ _ (Ne.symm hbs) c1
        go_roundw
        case rel=>exact⟨i,j-i,_,rfl,by go_num,hi,by omega,him,by omega,by simp[hsk],AE.out,hS',c0',c1',AK.out.trans hK'⟩
        case measure=>simp[intOf];omega

theorem Data.lessCall {enc:α→List Value} {k:Nat} {lt:α→α→Bool} {g:Nat} {lb:Array Value} {sf:Nat} {sb:Array Value} {blk off size:Nat} {w0:World} (D:Data P enc k lt g lb sf sb blk off size w0)
    {dk:Array α} (hs:dk.size=size) {W:World} (h:SWK enc k w0 blk off dk W) (i j:Nat) (hi:i<size) (hj:j<size) :
    Calls P g (#[.int .i64 i,.int .i64 j]++lb) W fun e w'=>e=.returned (.bool (lt dk[i]! dk[j]!))∧∃q,w'=W.drewN q:=h.less D.less hs i j hi hj
theorem bs_go1 {q:Nat→Bool} {i j:Nat} (h:i<j) (hq:q ((i+j) / 2)=true):bs q ((i+j) / 2+1) j=bs q i j:=by
  conv=>rhs;rw[bs]
  rw[if_pos h,if_pos hq]
theorem bs_go0 {q:Nat→Bool} {i j:Nat} (h:i<j) (hq:q ((i+j) / 2)=false):bs q i ((i+j) / 2)=bs q i j:=by
  conv=>rhs;rw[bs]
  rw[if_pos h,if_neg (by simp[hq])]
theorem bs_stop (q:Nat→Bool) (i:Nat):bs q i i=i:=by rw[bs,if_neg (Nat.lt_irrefl _)]
@[simp] theorem size_sm (lt:α→α→Bool):∀(f:Nat) (d:Array α) (a m b:Nat),(sm lt f d a m b).size=d.size
  | 0,_,_,_,_=>rfl
  | f+1,d,a,m,b=>by
    rw[sm]
    split
    · simp
    · split
      · simp
      · simp only
        repeat' split
        all_goals simp[size_sm lt f]

set_option maxHeartbeats 4000000 in
set_option maxRecDepth 100000 in
theorem symMerge_1 (L:LaysGt.n30 P ρ) {enc:α→List Value} {k:Nat} {lt:α→α→Bool} {g:Nat} {lb:Array Value} {sf:Nat} {sb:Array Value} {blk off size:Nat} {w0:World} (D:Data P enc k lt g lb sf sb blk off size w0) (f:Nat)
    (d:Array α) (hs:d.size=size) (W:World) (hW:SWK enc k w0 blk off d W) (a m b:Nat) (hf:b-a≤f+1) (h1:a<m) (h2:m<b) (h3:b≤size) (c1:m-a=1) :
    Calls P (ρ.f 30) #[.agg #[.func (.func g) #[] lb,.func (.func sf) #[] sb],.int .i64 a,.int .i64 m,.int .i64 b] W fun e w'=>e=.returned (.tuple #[])∧SWK enc k w0 blk off (sm lt (f+1) d a m b) w'∧Keep blk W w':=by
  have mixed:=L.mixed;have t0:=L.t0;have a0:=L.a0;have z0:=L.z0;have v0:=L.v0;have t3:=L.t3;have a3:=L.a3;have z3:=L.z3;have v3:=L.v3;have t4:=L.t4;have a4:=L.a4;have z4:=L.z4;have v4:=L.v4;have t26:=L.t26;have a26:=L.a26;have z26:=L.z26;have v26:=L.v26;have t38:=L.t38;have a38:=L.a38;have z38:=L.z38;have v38:=L.v38;have t42:=L.t42;have a42:=L.a42;have z42:=L.z42;have v42:=L.v42;have t47:=L.t47;have a47:=L.a47;have z47:=L.z47;have v47:=L.v47
  have u42:=run_underlying L.t42
  have hbs:blk≠W.heap.size:=by have:=hW.le;have:=D.hblk;omega
  have hsz:=D.hsz
  have eg:=D.eg
  have AS:Hid (sm lt (f+1) d a m b=rot d a (a+1) (bs (fun h=>lt d[h]! d[a]!) m b)):=by unfold Hid;rw[sm,if_pos c1,show a+1=m by omega]
  have hma:(m:Int)-a=1:=by omega
  go_enter L.f30,BodyGt.n30_ntmps ρ
  go_wp2
  go_loopw [8,9] (fun vi vj wr=>∃(i j:Nat),vi=.int .i64 i∧vj=.int .i64 j∧m≤i∧i≤j∧j≤b∧bs (fun h=>lt d[h]! d[a]!) i j=bs (fun h=>lt d[h]! d[a]!) m b∧SWK enc k w0 blk off d wr ∧
    wr.cell? ⟨W.heap.size,0,none⟩=some (.func (.func g) #[] lb)∧wr.cell? ⟨W.heap.size,1,none⟩=some (.func (.func sf) #[] sb)∧Keep blk W wr) (fun vi vj _=>(intOf vj).toNat-(intOf vi).toNat)
  case atStart=>exact⟨m,b,rfl,rfl,Nat.le_refl _,by omega,Nat.le_refl _,rfl,hW.alloc _,by simp,by simp,Keep.alloc _ _ _⟩
  case round=>
    obtain⟨i,j,rfl,rfl,hi,hij,hj,hb,hS,c0,c1',hK⟩:=hrel
    have AB:Hid (bs (fun h=>lt d[h]! d[a]!) i j=bs (fun h=>lt d[h]! d[a]!) m b):=hb
    have AK:Hid (Keep blk W wr):=hK
    have ASW:Hid (SWK enc k w0 blk off d wr):=hS
    clear hb hK hS
    by_cases hlt:i<j
    · have hl:=D.lessCall hs ASW.out ((i+j) / 2) a (by omega) (by omega)
      rw[show (((i+j) / 2:Nat):Int)=((i:Int)+j) / 2 by omega] at hl
      cases hlv:lt d[(i+j) / 2]! d[a]! with
      | true=>
        rw[hlv] at hl
        go_wp2_with (go_at_fn g;refine hl.mono ?_;rintro e w' ⟨rfl,q,rfl⟩)
        go_roundw
        case rel=>exact⟨(i+j) / 2+1,j,by go_num,rfl,by omega,by omega,hj,(bs_go1 (q:=fun h=>lt d[h]! d[a]!) hlt hlv).trans AB.out,ASW.out.drewN q,c0,c1',AK.out.drewN q⟩
        case measure=>simp[intOf];omega
      | false=>
        rw[hlv] at hl
        go_wp2_with (go_at_fn g;refine hl.mono ?_;rintro e w' ⟨rfl,q,rfl⟩)
        go_roundw
        case rel=>exact⟨i,(i+j) / 2,rfl,by go_num,hi,by omega,by omega,(bs_go0 (q:=fun h=>lt d[h]! d[a]!) hlt hlv).trans AB.out,ASW.out.drewN q,c0,c1',AK.out.drewN q⟩
        case measure=>simp[intOf];omega
    · obtain rfl:i=j:=by omega
      have AE:Hid (sm lt (f+1) d a m b=rot d a (a+1) i):=by unfold Hid;rw[AS.out,←AB.out,bs_stop]
      have hSR:Hid (SWK enc k w0 blk off (rot d a (a+1) (a+1)) wr):=by unfold Hid;rw[rot_self];exact ASW.out
      clear AS AB ASW c0
      go_wp2
      go_loopw [11] (fun vk w2=>∃kk:Nat,vk=.int .i64 kk∧a≤kk∧kk+1≤i∧SWK enc k w0 blk off (rot d a (a+1) (kk+1)) w2∧w2.cell? ⟨W.heap.size,1,none⟩=some (.func (.func sf) #[] sb)∧Keep blk W w2) (fun vk _=>i-(intOf vk).toNat)
      case atStart=>exact⟨a,rfl,Nat.le_refl _,by omega,hSR.out,c1',AK.out⟩
      case round=>
        clear c1'
        obtain⟨kk,rfl,hka,hki,hS2,c2',hK2⟩:=hrel
        have AK2:Hid (Keep blk W wr):=hK2
        clear hK2 AK hSR
        by_cases hlt2:kk+1<i
        · have z0:(kk:Int)<(i:Int)-1:=by omega
          obtain⟨F,hF,hF1,hF2⟩:=D.swaps (dk:=rot d a (a+1) (kk+1)) (by simp[hs]) hS2 kk (kk+1) (by omega) (by omega)
          have hc':∀q,(F q).cell? ⟨W.heap.size,1,none⟩=some (.func (.func sf) #[] sb):=fun q=>hF2 q _ _ _ (Ne.symm hbs) c2'
          have AK3:Hid (∀q,Keep blk W (F q)):=fun q=>AK2.out.trans (hF2 q)
          have hF0:(callFunc sf (#[.int .i64 kk,.int .i64 ((kk:Int)+1)]++sb)).run P wr=.ok (.value (.tuple #[])) (F 0):=by
            rw[show (kk:Int)+1=((kk+1:Nat):Int) by omega];exact hF 0
          have AF:Hid (∀q,SWK enc k w0 blk off (rot d a (a+1) (kk+2)) (F q)):=fun q=>by rw[←rot_up d a kk hka (by omega)];exact hF1 q
          clear hF hF1 hF2 hS2
          go_wp2
          go_roundw
          case rel=>exact⟨kk+1,by go_num,by omega,by omega,AF.out _,hc' _,AK3.out _⟩
          case measure=>simp[intOf];omega
        · have z0:¬(kk:Int)<(i:Int)-1:=by omega
          obtain rfl:i=kk+1:=by omega
          have AF:Hid (SWK enc k w0 blk off (rot d a (a+1) (kk+1)) wr):=hS2
          clear hS2
          go_wp2
          (try simp only[Exit.inBlock,Exit.then])
          refine bodyPost_ret (results_none rfl _ _ _) rfl ?_
          exact⟨rfl,AE.out▸AF.out,AK2.out⟩
set_option maxHeartbeats 4000000 in
set_option maxRecDepth 100000 in
theorem symMerge_2 (L:LaysGt.n30 P ρ) {enc:α→List Value} {k:Nat} {lt:α→α→Bool} {g:Nat} {lb:Array Value} {sf:Nat} {sb:Array Value} {blk off size:Nat} {w0:World} (D:Data P enc k lt g lb sf sb blk off size w0) (f:Nat)
    (d:Array α) (hs:d.size=size) (W:World) (hW:SWK enc k w0 blk off d W) (a m b:Nat) (hf:b-a≤f+1) (h1:a<m) (h2:m<b) (h3:b≤size) (c1:¬m-a=1) (c2:b-m=1) :
    Calls P (ρ.f 30) #[.agg #[.func (.func g) #[] lb,.func (.func sf) #[] sb],.int .i64 a,.int .i64 m,.int .i64 b] W fun e w'=>e=.returned (.tuple #[])∧SWK enc k w0 blk off (sm lt (f+1) d a m b) w'∧Keep blk W w':=by
  have mixed:=L.mixed;have t0:=L.t0;have a0:=L.a0;have z0:=L.z0;have v0:=L.v0;have t3:=L.t3;have a3:=L.a3;have z3:=L.z3;have v3:=L.v3;have t4:=L.t4;have a4:=L.a4;have z4:=L.z4;have v4:=L.v4;have t26:=L.t26;have a26:=L.a26;have z26:=L.z26;have v26:=L.v26;have t38:=L.t38;have a38:=L.a38;have z38:=L.z38;have v38:=L.v38;have t42:=L.t42;have a42:=L.a42;have z42:=L.z42;have v42:=L.v42;have t47:=L.t47;have a47:=L.a47;have z47:=L.z47;have v47:=L.v47
  have u42:=run_underlying L.t42
  have hbs:blk≠W.heap.size:=by have:=hW.le;have:=D.hblk;omega
  have hsz:=D.hsz
  have eg:=D.eg
  have n1:¬(m:Int)-a=1:=by omega
  have n1b:((m:Int)-a==1)=false:=beq_eq_false_iff_ne.mpr n1
  have AS:Hid (sm lt (f+1) d a m b=rot d (bs (fun h=>!lt d[m]! d[h]!) a m) m (m+1)):=by unfold Hid;rw[sm,if_neg c1,if_pos c2,show m+1=b by omega]
  have hmb:(b:Int)-m=1:=by omega
  go_enter L.f30,BodyGt.n30_ntmps ρ
  go_wp2
  go_loopw [12,13] (fun vi vj wr=>∃(i j:Nat),vi=.int .i64 i∧vj=.int .i64 j∧a≤i∧i≤j∧j≤m∧bs (fun h=>!lt d[m]! d[h]!) i j=bs (fun h=>!lt d[m]! d[h]!) a m∧SWK enc k w0 blk off d wr ∧
    wr.cell? ⟨W.heap.size,0,none⟩=some (.func (.func g) #[] lb)∧wr.cell? ⟨W.heap.size,1,none⟩=some (.func (.func sf) #[] sb)∧Keep blk W wr) (fun vi vj _=>(intOf vj).toNat-(intOf vi).toNat)
  case atStart=>exact⟨a,m,rfl,rfl,Nat.le_refl _,by omega,Nat.le_refl _,rfl,hW.alloc _,by simp,by simp,Keep.alloc _ _ _⟩
  case round=>
    obtain⟨i,j,rfl,rfl,hi,hij,hj,hb,hS,c0,c1',hK⟩:=hrel
    have AB:Hid (bs (fun h=>!lt d[m]! d[h]!) i j=bs (fun h=>!lt d[m]! d[h]!) a m):=hb
    have AK:Hid (Keep blk W wr):=hK
    have ASW:Hid (SWK enc k w0 blk off d wr):=hS
    clear hb hK hS
    by_cases hlt:i<j
    · have hl:=D.lessCall hs ASW.out m ((i+j) / 2) (by omega) (by omega)
      rw[show (((i+j) / 2:Nat):Int)=((i:Int)+j) / 2 by omega] at hl
      cases hlv:lt d[m]! d[(i+j) / 2]! with
      | false=>
        rw[hlv] at hl
        go_wp2_with (go_at_fn g;refine hl.mono ?_;rintro e w' ⟨rfl,q,rfl⟩)
        go_roundw
        case rel=>exact⟨(i+j) / 2+1,j,by go_num,rfl,by omega,by omega,hj,(bs_go1 (q:=fun h=>!lt d[m]! d[h]!) hlt (by simp[hlv])).trans AB.out,ASW.out.drewN q,c0,c1',AK.out.drewN q⟩
        case measure=>simp[intOf];omega
      | true=>
        rw[hlv] at hl
        go_wp2_with (go_at_fn g;refine hl.mono ?_;rintro e w' ⟨rfl,q,rfl⟩)
        go_roundw
        case rel=>exact⟨i,(i+j) / 2,rfl,by go_num,hi,by omega,by omega,(bs_go0 (q:=fun h=>!lt d[m]! d[h]!) hlt (by simp[hlv])).trans AB.out,ASW.out.drewN q,c0,c1',AK.out.drewN q⟩
        case measure=>simp[intOf];omega
    · obtain rfl:i=j:=by omega
      have AE:Hid (sm lt (f+1) d a m b=rot d i m (m+1)):=by unfold Hid;rw[AS.out,←AB.out,bs_stop]
      have hSR:Hid (SWK enc k w0 blk off (rot d m m (m+1)) wr):=by unfold Hid;rw[rot_self2];exact ASW.out
      clear AS AB ASW c0
      go_wp2
      go_loopw [15] (fun vk w2=>∃kk:Nat,vk=.int .i64 kk∧i≤kk∧kk≤m∧SWK enc k w0 blk off (rot d kk m (m+1)) w2∧w2.cell? ⟨W.heap.size,1,none⟩=some (.func (.func sf) #[] sb)∧Keep blk W w2) (fun vk _=>(intOf vk).toNat)
      case atStart=>exact⟨m,rfl,hj,Nat.le_refl _,hSR.out,c1',AK.out⟩
      case round=>
        clear c1'
        obtain⟨kk,rfl,hka,hki,hS2,c2',hK2⟩:=hrel
        have AK2:Hid (Keep blk W wr):=hK2
        clear hK2 AK hSR
        by_cases hlt2:i<kk
        · obtain⟨F,hF,hF1,hF2⟩:=D.swaps (dk:=rot d kk m (m+1)) (by simp[hs]) hS2 kk (kk-1) (by omega) (by omega)
          have hc':∀q,(F q).cell? ⟨W.heap.size,1,none⟩=some (.func (.func sf) #[] sb):=fun q=>hF2 q _ _ _ (Ne.symm hbs) c2'
          have AK3:Hid (∀q,Keep blk W (F q)):=fun q=>AK2.out.trans (hF2 q)
          have hF0:(callFunc sf (#[.int .i64 kk,.int .i64 ((kk:Int)-1)]++sb)).run P wr=.ok (.value (.tuple #[])) (F 0):=by
            rw[show (kk:Int)-1=((kk-1:Nat):Int) by omega];exact hF 0
          have AF:Hid (∀q,SWK enc k w0 blk off (rot d (kk-1) m (m+1)) (F q)):=fun q=>by rw[←rot_down d kk m (by omega) hki (by omega)];exact hF1 q
          clear hF hF1 hF2 hS2
          go_wp2
          go_roundw
          case rel=>exact⟨kk-1,by go_num,by omega,by omega,AF.out _,hc' _,AK3.out _⟩
          case measure=>simp[intOf];omega
        · obtain rfl:i=kk:=by omega
          have AF:Hid (SWK enc k w0 blk off (rot d i m (m+1)) wr):=hS2
          clear hS2
          go_wp2
          (try simp only[Exit.inBlock,Exit.then])
          refine bodyPost_ret (results_none rfl _ _ _) rfl ?_
          exact⟨rfl,AE.out▸AF.out,AK2.out⟩
set_option maxHeartbeats 4000000 in
set_option maxRecDepth 100000 in
theorem symMerge_3 (L:LaysGt.n30 P ρ) {enc:α→List Value} {k:Nat} {lt:α→α→Bool} {g:Nat} {lb:Array Value} {sf:Nat} {sb:Array Value} {blk off size:Nat} {w0:World} (D:Data P enc k lt g lb sf sb blk off size w0) (f:Nat)
    (IH:∀(d:Array α) (_:d.size=size) (W:World) (_:SWK enc k w0 blk off d W) (a m b:Nat) (_:b-a≤f) (_:a<m) (_:m<b) (_:b≤size),
      Calls P (ρ.f 30) #[.agg #[.func (.func g) #[] lb,.func (.func sf) #[] sb],.int .i64 a,.int .i64 m,.int .i64 b] W fun e w'=>e=.returned (.tuple #[])∧SWK enc k w0 blk off (sm lt f d a m b) w'∧Keep blk W w')
    (d:Array α) (hs:d.size=size) (W:World) (hW:SWK enc k w0 blk off d W) (a m b:Nat) (hf:b-a≤f+1) (h1:a<m) (h2:m<b) (h3:b≤size) (c1:¬m-a=1) (c2:¬b-m=1) (mid:Nat) (hmid:(a+b) / 2=mid) (hmm:mid<m) :
    Calls P (ρ.f 30) #[.agg #[.func (.func g) #[] lb,.func (.func sf) #[] sb],.int .i64 a,.int .i64 m,.int .i64 b] W fun e w'=>e=.returned (.tuple #[])∧SWK enc k w0 blk off (sm lt (f+1) d a m b) w'∧Keep blk W w':=by
  have mixed:=L.mixed;have t0:=L.t0;have a0:=L.a0;have z0:=L.z0;have v0:=L.v0;have t3:=L.t3;have a3:=L.a3;have z3:=L.z3;have v3:=L.v3;have t4:=L.t4;have a4:=L.a4;have z4:=L.z4;have v4:=L.v4;have t26:=L.t26;have a26:=L.a26;have z26:=L.z26;have v26:=L.v26;have t38:=L.t38;have a38:=L.a38;have z38:=L.z38;have v38:=L.v38;have t42:=L.t42;have a42:=L.a42;have z42:=L.z42;have v42:=L.v42;have t47:=L.t47;have a47:=L.a47;have z47:=L.z47;have v47:=L.v47
  have u42:=run_underlying L.t42
  have hbs:blk≠W.heap.size:=by have:=hW.le;have:=D.hblk;omega
  have hsz:=D.hsz
  have eg:=D.eg
  have AIH:Hid (∀(d:Array α) (_:d.size=size) (W:World) (_:SWK enc k w0 blk off d W) (a m b:Nat) (_:b-a≤f) (_:a<m) (_:m<b) (_:b≤size),
      Calls P (ρ.f 30) #[.agg #[.func (.func g) #[] lb,.func (.func sf) #[] sb],.int .i64 a,.int .i64 m,.int .i64 b] W fun e w'=>e=.returned (.tuple #[])∧SWK enc k w0 blk off (sm lt f d a m b) w'∧Keep blk W w'):=IH
  clear IH
  have e30:∀args w,(callFunc (ρ.f 30) args).run P w=.ok (.enter (ρ.f 30) args) w:=enters_of L.f30 (by kernel_rfl) rfl
  have e42:∀args w,(callFunc (ρ.f 42) args).run P w=.ok (.enter (ρ.f 42) args) w:=enters_of L.f42 (by kernel_rfl) rfl
  have LR:LaysGt.n42 P ρ:={ L with }
  have n1:¬(m:Int)-a=1:=by omega
  have n1b:((m:Int)-a==1)=false:=beq_eq_false_iff_ne.mpr n1
  have n2:¬(b:Int)-m=1:=by omega
  have n2b:((b:Int)-m==1)=false:=beq_eq_false_iff_ne.mpr n2
  have AMI:Hid ((mid:Int)=((a:Int)+b) / 2):=by unfold Hid;omega
  have y0:((a:Int)+b) / 2<m:=by omega
  have AS:Hid (sm lt (f+1) d a m b=(if mid<mid+m-(bs (fun c=>!lt d[mid+m-1-c]! d[c]!) (mid+m-b) mid)∧mid+m-(bs (fun c=>!lt d[mid+m-1-c]! d[c]!) (mid+m-b) mid)<b then sm lt f (if a<(bs (fun c=>!lt d[mid+m-1-c]! d[c]!) (mid+m-b) mid)∧(bs (fun c=>!lt d[mid+m-1-c]! d[c]!) (mid+m-b) mid)<mid then sm lt f (if (bs (fun c=>!lt d[mid+m-1-c]! d[c]!) (mid+m-b) mid)<m∧m<mid+m-(bs (fun c=>!lt d[mid+m-1-c]! d[c]!) (mid+m-b) mid) then rot d (bs (fun c=>!lt d[mid+m-1-c]! d[c]!) (mid+m-b) mid) m (mid+m-(bs (fun c=>!lt d[mid+m-1-c]! d[c]!) (mid+m-b) mid)) else d) a (bs (fun c=>!lt d[mid+m-1-c]! d[c]!) (mid+m-b) mid) mid else (if (bs (fun c=>!lt d[mid+m-1-c]! d[c]!) (mid+m-b) mid)<m∧m<mid+m-(bs (fun c=>!lt d[mid+m-1-c]! d[c]!) (mid+m-b) mid) then rot d (bs (fun c=>!lt d[mid+m-1-c]! d[c]!) (mid+m-b) mid) m (mid+m-(bs (fun c=>!lt d[mid+m-1-c]! d[c]!) (mid+m-b) mid)) else d)) mid (mid+m-(bs (fun c=>!lt d[mid+m-1-c]! d[c]!) (mid+m-b) mid)) b else (if a<(bs (fun c=>!lt d[mid+m-1-c]! d[c]!) (mid+m-b) mid)∧(bs (fun c=>!lt d[mid+m-1-c]! d[c]!) (mid+m-b) mid)<mid then sm lt f (if (bs (fun c=>!lt d[mid+m-1-c]! d[c]!) (mid+m-b) mid)<m∧m<mid+m-(bs (fun c=>!lt d[mid+m-1-c]! d[c]!) (mid+m-b) mid) then rot d (bs (fun c=>!lt d[mid+m-1-c]! d[c]!) (mid+m-b) mid) m (mid+m-(bs (fun c=>!lt d[mid+m-1-c]! d[c]!) (mid+m-b) mid)) else d) a (bs (fun c=>!lt d[mid+m-1-c]! d[c]!) (mid+m-b) mid) mid else (if (bs (fun c=>!lt d[mid+m-1-c]! d[c]!) (mid+m-b) mid)<m∧m<mid+m-(bs (fun c=>!lt d[mid+m-1-c]! d[c]!) (mid+m-b) mid) then rot d (bs (fun c=>!lt d[mid+m-1-c]! d[c]!) (mid+m-b) mid) m (mid+m-(bs (fun c=>!lt d[mid+m-1-c]! d[c]!) (mid+m-b) mid)) else d)))):=by
    unfold Hid;rw[sm,if_neg c1,if_neg c2];simp only[hmid];simp only[if_pos hmm]
  go_enter L.f30,BodyGt.n30_ntmps ρ
  go_wp2
  go_loopw [18,19] (fun vi vj wr=>∃(s r:Nat),vi=.int .i64 s∧vj=.int .i64 r∧(mid+m-b)≤s∧s≤r∧r≤mid∧bs (fun c=>!lt d[mid+m-1-c]! d[c]!) s r=bs (fun c=>!lt d[mid+m-1-c]! d[c]!) (mid+m-b) mid∧SWK enc k w0 blk off d wr ∧
    wr.cell? ⟨W.heap.size,0,none⟩=some (.func (.func g) #[] lb)∧wr.cell? ⟨W.heap.size,1,none⟩=some (.func (.func sf) #[] sb)∧Keep blk W wr) (fun vi vj _=>(intOf vj).toNat-(intOf vi).toNat)
  case atStart=>exact⟨(mid+m-b),mid,by go_num,by go_num,Nat.le_refl _,by omega,Nat.le_refl _,rfl,hW.alloc _,by simp,by simp,Keep.alloc _ _ _⟩
  case round=>
    obtain⟨s,r,rfl,rfl,hi,hij,hj,hb,hS,c0,c1',hK⟩:=hrel
    have AB:Hid (bs (fun c=>!lt d[mid+m-1-c]! d[c]!) s r=bs (fun c=>!lt d[mid+m-1-c]! d[c]!) (mid+m-b) mid):=hb
    have AK:Hid (Keep blk W wr):=hK
    have ASW:Hid (SWK enc k w0 blk off d wr):=hS
    clear hb hK hS
    by_cases hlt:s<r
    · have hl:=D.lessCall hs ASW.out (mid+m-1-(s+r) / 2) ((s+r) / 2) (by omega) (by omega)
      rw[show ((mid+m-1-(s+r) / 2:Nat):Int)=((a:Int)+b) / 2+m-1-((s:Int)+r) / 2 by omega,show (((s+r) / 2:Nat):Int)=((s:Int)+r) / 2 by omega] at hl
      cases hlv:lt d[mid+m-1-(s+r) / 2]! d[(s+r) / 2]! with
      | false=>
        rw[hlv] at hl
        go_wp2_with (go_at_fn g;refine hl.mono ?_;rintro e w' ⟨rfl,q,rfl⟩)
        go_roundw
        case rel=>exact⟨(s+r) / 2+1,r,by go_num,rfl,by omega,by omega,hj,(bs_go1 (q:=(fun c=>!lt d[mid+m-1-c]! d[c]!)) hlt (by simp[hlv])).trans AB.out,ASW.out.drewN q,c0,c1',AK.out.drewN q⟩
        case measure=>simp[intOf];omega
      | true=>
        rw[hlv] at hl
        go_wp2_with (go_at_fn g;refine hl.mono ?_;rintro e w' ⟨rfl,q,rfl⟩)
        go_roundw
        case rel=>exact⟨s,(s+r) / 2,rfl,by go_num,hi,by omega,by omega,(bs_go0 (q:=(fun c=>!lt d[mid+m-1-c]! d[c]!)) hlt (by simp[hlv])).trans AB.out,ASW.out.drewN q,c0,c1',AK.out.drewN q⟩
        case measure=>simp[intOf];omega
    · obtain rfl:s=r:=by omega
      have AE:Hid (sm lt (f+1) d a m b=(if mid<mid+m-s∧mid+m-s<b then sm lt f (if a<s∧s<mid then sm lt f (if s<m∧m<mid+m-s then rot d s m (mid+m-s) else d) a s mid else (if s<m∧m<mid+m-s then rot d s m (mid+m-s) else d)) mid (mid+m-s) b else (if a<s∧s<mid then sm lt f (if s<m∧m<mid+m-s then rot d s m (mid+m-s) else d) a s mid else (if s<m∧m<mid+m-s then rot d s m (mid+m-s) else d)))):=by unfold Hid;rw[AS.out,←AB.out,bs_stop]
      obtain⟨e,he⟩:∃e,mid+m-s=e:=⟨_,rfl⟩
      have AEI:Hid ((e:Int)=((a:Int)+b) / 2+m-s):=by unfold Hid;omega
      rw[he] at AE
      clear AS AB
      by_cases hx:s<mid
      · by_cases ha:a<s
        · by_cases he2:e<b
          ·
            have u1:(s:Int)<m:=by omega
            have u2:(m:Int)<((a:Int)+b) / 2+m-s:=by omega
            have u3:(a:Int)<s:=by omega
            have u4:(s:Int)<((a:Int)+b) / 2:=by omega
            have u5:((a:Int)+b) / 2<((a:Int)+b) / 2+m-s:=by omega
            have u6:((a:Int)+b) / 2+m-s<b:=by omega
            have AX:Hid (sm lt (f+1) d a m b=(sm lt f (sm lt f (rot d s m e) a s mid) mid e b)):=by unfold Hid;rw[AE.out,if_pos (show s<m∧m<e by omega),if_pos (show a<s∧s<mid by omega),if_pos (show mid<e∧e<b by omega)]
            clear AE
            have hc1:=rotate_cells LR D d hs _ ASW.out s m e (by omega) (by omega) (by omega)
            rw[AEI.out] at hc1
            go_wp2_with (go_at_fn (ρ.f 42);refine hc1.mono ?_;rintro _ w1 ⟨rfl,hS1,hK1⟩;have BS1:Hid (SWK enc k w0 blk off (rot d s m e) w1):=hS1;have BK1:Hid (Keep blk W w1):=AK.out.trans hK1;have k1:=hK1 _ _ _ (Ne.symm hbs) c0;have l1:=hK1 _ _ _ (Ne.symm hbs) c1';clear hS1 hK1)
            clear hc1
            have hc2:=AIH.out (rot d s m e) (by simp[hs]) _ BS1.out a s mid (by omega) (by omega) (by omega) (by omega)
            rw[AMI.out] at hc2
            go_wp2_with (go_at_fn (ρ.f 30);refine hc2.mono ?_;rintro _ w2 ⟨rfl,hS2,hK2⟩;have BS2:Hid (SWK enc k w0 blk off (sm lt f (rot d s m e) a s mid) w2):=hS2;have BK2:Hid (Keep blk W w2):=BK1.out.trans hK2;have k2:=hK2 _ _ _ (Ne.symm hbs) k1;have l2:=hK2 _ _ _ (Ne.symm hbs) l1;clear hS2 hK2)
            clear hc2
            have hc3:=AIH.out (sm lt f (rot d s m e) a s mid) (by simp[hs]) _ BS2.out mid e b (by omega) (by omega) (by omega) (by omega)
            rw[AMI.out,AEI.out] at hc3
            go_wp2_with (go_at_fn (ρ.f 30);refine hc3.mono ?_;rintro _ w3 ⟨rfl,hS3,hK3⟩;have BS3:Hid (SWK enc k w0 blk off (sm lt f (sm lt f (rot d s m e) a s mid) mid e b) w3):=hS3;have BK3:Hid (Keep blk W w3):=BK2.out.trans hK3;have k3:=hK3 _ _ _ (Ne.symm hbs) k2;have l3:=hK3 _ _ _ (Ne.symm hbs) l2;clear hS3 hK3)
            clear hc3
            go_end0
            exact⟨rfl,by rw[AX.out];exact BS3.out,BK3.out⟩
          ·
            have u1:(s:Int)<m:=by omega
            have u2:(m:Int)<((a:Int)+b) / 2+m-s:=by omega
            have u3:(a:Int)<s:=by omega
            have u4:(s:Int)<((a:Int)+b) / 2:=by omega
            have u5:((a:Int)+b) / 2<((a:Int)+b) / 2+m-s:=by omega
            have u6:¬(((a:Int)+b) / 2+m-s<b):=by omega
            have AX:Hid (sm lt (f+1) d a m b=(sm lt f (rot d s m e) a s mid)):=by unfold Hid;rw[AE.out,if_pos (show s<m∧m<e by omega),if_pos (show a<s∧s<mid by omega),if_neg (show ¬(mid<e∧e<b) by omega)]
            clear AE
            have hc1:=rotate_cells LR D d hs _ ASW.out s m e (by omega) (by omega) (by omega)
            rw[AEI.out] at hc1
            go_wp2_with (go_at_fn (ρ.f 42);refine hc1.mono ?_;rintro _ w1 ⟨rfl,hS1,hK1⟩;have BS1:Hid (SWK enc k w0 blk off (rot d s m e) w1):=hS1;have BK1:Hid (Keep blk W w1):=AK.out.trans hK1;have k1:=hK1 _ _ _ (Ne.symm hbs) c0;have l1:=hK1 _ _ _ (Ne.symm hbs) c1';clear hS1 hK1)
            clear hc1
            have hc2:=AIH.out (rot d s m e) (by simp[hs]) _ BS1.out a s mid (by omega) (by omega) (by omega) (by omega)
            rw[AMI.out] at hc2
            go_wp2_with (go_at_fn (ρ.f 30);refine hc2.mono ?_;rintro _ w2 ⟨rfl,hS2,hK2⟩;have BS2:Hid (SWK enc k w0 blk off (sm lt f (rot d s m e) a s mid) w2):=hS2;have BK2:Hid (Keep blk W w2):=BK1.out.trans hK2;have k2:=hK2 _ _ _ (Ne.symm hbs) k1;have l2:=hK2 _ _ _ (Ne.symm hbs) l1;clear hS2 hK2)
            clear hc2
            go_end0
            exact⟨rfl,by rw[AX.out];exact BS2.out,BK2.out⟩
        · by_cases he2:e<b
          ·
            have u1:(s:Int)<m:=by omega
            have u2:(m:Int)<((a:Int)+b) / 2+m-s:=by omega
            have u3:¬((a:Int)<s):=by omega
            have u5:((a:Int)+b) / 2<((a:Int)+b) / 2+m-s:=by omega
            have u6:((a:Int)+b) / 2+m-s<b:=by omega
            have AX:Hid (sm lt (f+1) d a m b=(sm lt f (rot d s m e) mid e b)):=by unfold Hid;rw[AE.out,if_pos (show s<m∧m<e by omega),if_neg (show ¬(a<s∧s<mid) by omega),if_pos (show mid<e∧e<b by omega)]
            clear AE
            have hc1:=rotate_cells LR D d hs _ ASW.out s m e (by omega) (by omega) (by omega)
            rw[AEI.out] at hc1
            go_wp2_with (go_at_fn (ρ.f 42);refine hc1.mono ?_;rintro _ w1 ⟨rfl,hS1,hK1⟩;have BS1:Hid (SWK enc k w0 blk off (rot d s m e) w1):=hS1;have BK1:Hid (Keep blk W w1):=AK.out.trans hK1;have k1:=hK1 _ _ _ (Ne.symm hbs) c0;have l1:=hK1 _ _ _ (Ne.symm hbs) c1';clear hS1 hK1)
            clear hc1
            have hc2:=AIH.out (rot d s m e) (by simp[hs]) _ BS1.out mid e b (by omega) (by omega) (by omega) (by omega)
            rw[AMI.out,AEI.out] at hc2
            go_wp2_with (go_at_fn (ρ.f 30);refine hc2.mono ?_;rintro _ w2 ⟨rfl,hS2,hK2⟩;have BS2:Hid (SWK enc k w0 blk off (sm lt f (rot d s m e) mid e b) w2):=hS2;have BK2:Hid (Keep blk W w2):=BK1.out.trans hK2;have k2:=hK2 _ _ _ (Ne.symm hbs) k1;have l2:=hK2 _ _ _ (Ne.symm hbs) l1;clear hS2 hK2)
            clear hc2
            go_end0
            exact⟨rfl,by rw[AX.out];exact BS2.out,BK2.out⟩
          ·
            have u1:(s:Int)<m:=by omega
            have u2:(m:Int)<((a:Int)+b) / 2+m-s:=by omega
            have u3:¬((a:Int)<s):=by omega
            have u5:((a:Int)+b) / 2<((a:Int)+b) / 2+m-s:=by omega
            have u6:¬(((a:Int)+b) / 2+m-s<b):=by omega
            have AX:Hid (sm lt (f+1) d a m b=(rot d s m e)):=by unfold Hid;rw[AE.out,if_pos (show s<m∧m<e by omega),if_neg (show ¬(a<s∧s<mid) by omega),if_neg (show ¬(mid<e∧e<b) by omega)]
            clear AE
            have hc1:=rotate_cells LR D d hs _ ASW.out s m e (by omega) (by omega) (by omega)
            rw[AEI.out] at hc1
            go_wp2_with (go_at_fn (ρ.f 42);refine hc1.mono ?_;rintro _ w1 ⟨rfl,hS1,hK1⟩;have BS1:Hid (SWK enc k w0 blk off (rot d s m e) w1):=hS1;have BK1:Hid (Keep blk W w1):=AK.out.trans hK1;have k1:=hK1 _ _ _ (Ne.symm hbs) c0;have l1:=hK1 _ _ _ (Ne.symm hbs) c1';clear hS1 hK1)
            clear hc1
            go_end0
            exact⟨rfl,by rw[AX.out];exact BS1.out,BK1.out⟩
      ·
        have u1:(s:Int)<m:=by omega
        have u2:¬((m:Int)<((a:Int)+b) / 2+m-s):=by omega
        have u3:(a:Int)<s:=by omega
        have u4:¬((s:Int)<((a:Int)+b) / 2):=by omega
        have u5:((a:Int)+b) / 2<((a:Int)+b) / 2+m-s:=by omega
        have u6:((a:Int)+b) / 2+m-s<b:=by omega
        have AX:Hid (sm lt (f+1) d a m b=(sm lt f d mid e b)):=by unfold Hid;rw[AE.out,if_neg (show ¬(s<m∧m<e) by omega),if_neg (show ¬(a<s∧s<mid) by omega),if_pos (show mid<e∧e<b by omega)]
        clear AE
        have hc1:=AIH.out d hs _ ASW.out mid e b (by omega) (by omega) (by omega) (by omega)
        rw[AMI.out,AEI.out] at hc1
        go_wp2_with (go_at_fn (ρ.f 30);refine hc1.mono ?_;rintro _ w1 ⟨rfl,hS1,hK1⟩;have BS1:Hid (SWK enc k w0 blk off (sm lt f d mid e b) w1):=hS1;have BK1:Hid (Keep blk W w1):=AK.out.trans hK1;have k1:=hK1 _ _ _ (Ne.symm hbs) c0;have l1:=hK1 _ _ _ (Ne.symm hbs) c1';clear hS1 hK1)
        clear hc1
        go_end0
        exact⟨rfl,by rw[AX.out];exact BS1.out,BK1.out⟩
set_option maxHeartbeats 4000000 in
set_option maxRecDepth 100000 in
theorem symMerge_4 (L:LaysGt.n30 P ρ) {enc:α→List Value} {k:Nat} {lt:α→α→Bool} {g:Nat} {lb:Array Value} {sf:Nat} {sb:Array Value} {blk off size:Nat} {w0:World} (D:Data P enc k lt g lb sf sb blk off size w0) (f:Nat)
    (IH:∀(d:Array α) (_:d.size=size) (W:World) (_:SWK enc k w0 blk off d W) (a m b:Nat) (_:b-a≤f) (_:a<m) (_:m<b) (_:b≤size),
      Calls P (ρ.f 30) #[.agg #[.func (.func g) #[] lb,.func (.func sf) #[] sb],.int .i64 a,.int .i64 m,.int .i64 b] W fun e w'=>e=.returned (.tuple #[])∧SWK enc k w0 blk off (sm lt f d a m b) w'∧Keep blk W w')
    (d:Array α) (hs:d.size=size) (W:World) (hW:SWK enc k w0 blk off d W) (a m b:Nat) (hf:b-a≤f+1) (h1:a<m) (h2:m<b) (h3:b≤size) (c1:¬m-a=1) (c2:¬b-m=1) (mid:Nat) (hmid:(a+b) / 2=mid) (hmm:¬mid<m) :
    Calls P (ρ.f 30) #[.agg #[.func (.func g) #[] lb,.func (.func sf) #[] sb],.int .i64 a,.int .i64 m,.int .i64 b] W fun e w'=>e=.returned (.tuple #[])∧SWK enc k w0 blk off (sm lt (f+1) d a m b) w'∧Keep blk W w':=by
  have mixed:=L.mixed;have t0:=L.t0;have a0:=L.a0;have z0:=L.z0;have v0:=L.v0;have t3:=L.t3;have a3:=L.a3;have z3:=L.z3;have v3:=L.v3;have t4:=L.t4;have a4:=L.a4;have z4:=L.z4;have v4:=L.v4;have t26:=L.t26;have a26:=L.a26;have z26:=L.z26;have v26:=L.v26;have t38:=L.t38;have a38:=L.a38;have z38:=L.z38;have v38:=L.v38;have t42:=L.t42;have a42:=L.a42;have z42:=L.z42;have v42:=L.v42;have t47:=L.t47;have a47:=L.a47;have z47:=L.z47;have v47:=L.v47
  have u42:=run_underlying L.t42
  have hbs:blk≠W.heap.size:=by have:=hW.le;have:=D.hblk;omega
  have hsz:=D.hsz
  have eg:=D.eg
  have AIH:Hid (∀(d:Array α) (_:d.size=size) (W:World) (_:SWK enc k w0 blk off d W) (a m b:Nat) (_:b-a≤f) (_:a<m) (_:m<b) (_:b≤size),
      Calls P (ρ.f 30) #[.agg #[.func (.func g) #[] lb,.func (.func sf) #[] sb],.int .i64 a,.int .i64 m,.int .i64 b] W fun e w'=>e=.returned (.tuple #[])∧SWK enc k w0 blk off (sm lt f d a m b) w'∧Keep blk W w'):=IH
  clear IH
  have e30:∀args w,(callFunc (ρ.f 30) args).run P w=.ok (.enter (ρ.f 30) args) w:=enters_of L.f30 (by kernel_rfl) rfl
  have e42:∀args w,(callFunc (ρ.f 42) args).run P w=.ok (.enter (ρ.f 42) args) w:=enters_of L.f42 (by kernel_rfl) rfl
  have LR:LaysGt.n42 P ρ:={ L with }
  have n1:¬(m:Int)-a=1:=by omega
  have n1b:((m:Int)-a==1)=false:=beq_eq_false_iff_ne.mpr n1
  have n2:¬(b:Int)-m=1:=by omega
  have n2b:((b:Int)-m==1)=false:=beq_eq_false_iff_ne.mpr n2
  have AMI:Hid ((mid:Int)=((a:Int)+b) / 2):=by unfold Hid;omega
  have y0:¬((a:Int)+b) / 2<m:=by omega
  have AS:Hid (sm lt (f+1) d a m b=(if mid<mid+m-(bs (fun c=>!lt d[mid+m-1-c]! d[c]!) a m)∧mid+m-(bs (fun c=>!lt d[mid+m-1-c]! d[c]!) a m)<b then sm lt f (if a<(bs (fun c=>!lt d[mid+m-1-c]! d[c]!) a m)∧(bs (fun c=>!lt d[mid+m-1-c]! d[c]!) a m)<mid then sm lt f (if (bs (fun c=>!lt d[mid+m-1-c]! d[c]!) a m)<m∧m<mid+m-(bs (fun c=>!lt d[mid+m-1-c]! d[c]!) a m) then rot d (bs (fun c=>!lt d[mid+m-1-c]! d[c]!) a m) m (mid+m-(bs (fun c=>!lt d[mid+m-1-c]! d[c]!) a m)) else d) a (bs (fun c=>!lt d[mid+m-1-c]! d[c]!) a m) mid else (if (bs (fun c=>!lt d[mid+m-1-c]! d[c]!) a m)<m∧m<mid+m-(bs (fun c=>!lt d[mid+m-1-c]! d[c]!) a m) then rot d (bs (fun c=>!lt d[mid+m-1-c]! d[c]!) a m) m (mid+m-(bs (fun c=>!lt d[mid+m-1-c]! d[c]!) a m)) else d)) mid (mid+m-(bs (fun c=>!lt d[mid+m-1-c]! d[c]!) a m)) b else (if a<(bs (fun c=>!lt d[mid+m-1-c]! d[c]!) a m)∧(bs (fun c=>!lt d[mid+m-1-c]! d[c]!) a m)<mid then sm lt f (if (bs (fun c=>!lt d[mid+m-1-c]! d[c]!) a m)<m∧m<mid+m-(bs (fun c=>!lt d[mid+m-1-c]! d[c]!) a m) then rot d (bs (fun c=>!lt d[mid+m-1-c]! d[c]!) a m) m (mid+m-(bs (fun c=>!lt d[mid+m-1-c]! d[c]!) a m)) else d) a (bs (fun c=>!lt d[mid+m-1-c]! d[c]!) a m) mid else (if (bs (fun c=>!lt d[mid+m-1-c]! d[c]!) a m)<m∧m<mid+m-(bs (fun c=>!lt d[mid+m-1-c]! d[c]!) a m) then rot d (bs (fun c=>!lt d[mid+m-1-c]! d[c]!) a m) m (mid+m-(bs (fun c=>!lt d[mid+m-1-c]! d[c]!) a m)) else d)))):=by
    unfold Hid;rw[sm,if_neg c1,if_neg c2];simp only[hmid];simp only[if_neg hmm]
  go_enter L.f30,BodyGt.n30_ntmps ρ
  go_wp2
  go_loopw [18,19] (fun vi vj wr=>∃(s r:Nat),vi=.int .i64 s∧vj=.int .i64 r∧a≤s∧s≤r∧r≤m∧bs (fun c=>!lt d[mid+m-1-c]! d[c]!) s r=bs (fun c=>!lt d[mid+m-1-c]! d[c]!) a m∧SWK enc k w0 blk off d wr ∧
    wr.cell? ⟨W.heap.size,0,none⟩=some (.func (.func g) #[] lb)∧wr.cell? ⟨W.heap.size,1,none⟩=some (.func (.func sf) #[] sb)∧Keep blk W wr) (fun vi vj _=>(intOf vj).toNat-(intOf vi).toNat)
  case atStart=>exact⟨a,m,by go_num,by go_num,Nat.le_refl _,by omega,Nat.le_refl _,rfl,hW.alloc _,by simp,by simp,Keep.alloc _ _ _⟩
  case round=>
    obtain⟨s,r,rfl,rfl,hi,hij,hj,hb,hS,c0,c1',hK⟩:=hrel
    have AB:Hid (bs (fun c=>!lt d[mid+m-1-c]! d[c]!) s r=bs (fun c=>!lt d[mid+m-1-c]! d[c]!) a m):=hb
    have AK:Hid (Keep blk W wr):=hK
    have ASW:Hid (SWK enc k w0 blk off d wr):=hS
    clear hb hK hS
    by_cases hlt:s<r
    · have hl:=D.lessCall hs ASW.out (mid+m-1-(s+r) / 2) ((s+r) / 2) (by omega) (by omega)
      rw[show ((mid+m-1-(s+r) / 2:Nat):Int)=((a:Int)+b) / 2+m-1-((s:Int)+r) / 2 by omega,show (((s+r) / 2:Nat):Int)=((s:Int)+r) / 2 by omega] at hl
      cases hlv:lt d[mid+m-1-(s+r) / 2]! d[(s+r) / 2]! with
      | false=>
        rw[hlv] at hl
        go_wp2_with (go_at_fn g;refine hl.mono ?_;rintro e w' ⟨rfl,q,rfl⟩)
        go_roundw
        case rel=>exact⟨(s+r) / 2+1,r,by go_num,rfl,by omega,by omega,hj,(bs_go1 (q:=(fun c=>!lt d[mid+m-1-c]! d[c]!)) hlt (by simp[hlv])).trans AB.out,ASW.out.drewN q,c0,c1',AK.out.drewN q⟩
        case measure=>simp[intOf];omega
      | true=>
        rw[hlv] at hl
        go_wp2_with (go_at_fn g;refine hl.mono ?_;rintro e w' ⟨rfl,q,rfl⟩)
        go_roundw
        case rel=>exact⟨s,(s+r) / 2,rfl,by go_num,hi,by omega,by omega,(bs_go0 (q:=(fun c=>!lt d[mid+m-1-c]! d[c]!)) hlt (by simp[hlv])).trans AB.out,ASW.out.drewN q,c0,c1',AK.out.drewN q⟩
        case measure=>simp[intOf];omega
    · obtain rfl:s=r:=by omega
      have AE:Hid (sm lt (f+1) d a m b=(if mid<mid+m-s∧mid+m-s<b then sm lt f (if a<s∧s<mid then sm lt f (if s<m∧m<mid+m-s then rot d s m (mid+m-s) else d) a s mid else (if s<m∧m<mid+m-s then rot d s m (mid+m-s) else d)) mid (mid+m-s) b else (if a<s∧s<mid then sm lt f (if s<m∧m<mid+m-s then rot d s m (mid+m-s) else d) a s mid else (if s<m∧m<mid+m-s then rot d s m (mid+m-s) else d)))):=by unfold Hid;rw[AS.out,←AB.out,bs_stop]
      obtain⟨e,he⟩:∃e,mid+m-s=e:=⟨_,rfl⟩
      have AEI:Hid ((e:Int)=((a:Int)+b) / 2+m-s):=by unfold Hid;omega
      rw[he] at AE
      clear AS AB
      by_cases hx:s<m
      · by_cases ha:a<s
        · by_cases he2:e<b
          ·
            have u1:(s:Int)<m:=by omega
            have u2:(m:Int)<((a:Int)+b) / 2+m-s:=by omega
            have u3:(a:Int)<s:=by omega
            have u4:(s:Int)<((a:Int)+b) / 2:=by omega
            have u5:((a:Int)+b) / 2<((a:Int)+b) / 2+m-s:=by omega
            have u6:((a:Int)+b) / 2+m-s<b:=by omega
            have AX:Hid (sm lt (f+1) d a m b=(sm lt f (sm lt f (rot d s m e) a s mid) mid e b)):=by unfold Hid;rw[AE.out,if_pos (show s<m∧m<e by omega),if_pos (show a<s∧s<mid by omega),if_pos (show mid<e∧e<b by omega)]
            clear AE
            have hc1:=rotate_cells LR D d hs _ ASW.out s m e (by omega) (by omega) (by omega)
            rw[AEI.out] at hc1
            go_wp2_with (go_at_fn (ρ.f 42);refine hc1.mono ?_;rintro _ w1 ⟨rfl,hS1,hK1⟩;have BS1:Hid (SWK enc k w0 blk off (rot d s m e) w1):=hS1;have BK1:Hid (Keep blk W w1):=AK.out.trans hK1;have k1:=hK1 _ _ _ (Ne.symm hbs) c0;have l1:=hK1 _ _ _ (Ne.symm hbs) c1';clear hS1 hK1)
            clear hc1
            have hc2:=AIH.out (rot d s m e) (by simp[hs]) _ BS1.out a s mid (by omega) (by omega) (by omega) (by omega)
            rw[AMI.out] at hc2
            go_wp2_with (go_at_fn (ρ.f 30);refine hc2.mono ?_;rintro _ w2 ⟨rfl,hS2,hK2⟩;have BS2:Hid (SWK enc k w0 blk off (sm lt f (rot d s m e) a s mid) w2):=hS2;have BK2:Hid (Keep blk W w2):=BK1.out.trans hK2;have k2:=hK2 _ _ _ (Ne.symm hbs) k1;have l2:=hK2 _ _ _ (Ne.symm hbs) l1;clear hS2 hK2)
            clear hc2
            have hc3:=AIH.out (sm lt f (rot d s m e) a s mid) (by simp[hs]) _ BS2.out mid e b (by omega) (by omega) (by omega) (by omega)
            rw[AMI.out,AEI.out] at hc3
            go_wp2_with (go_at_fn (ρ.f 30);refine hc3.mono ?_;rintro _ w3 ⟨rfl,hS3,hK3⟩;have BS3:Hid (SWK enc k w0 blk off (sm lt f (sm lt f (rot d s m e) a s mid) mid e b) w3):=hS3;have BK3:Hid (Keep blk W w3):=BK2.out.trans hK3;have k3:=hK3 _ _ _ (Ne.symm hbs) k2;have l3:=hK3 _ _ _ (Ne.symm hbs) l2;clear hS3 hK3)
            clear hc3
            go_end0
            exact⟨rfl,by rw[AX.out];exact BS3.out,BK3.out⟩
          · exfalso;omega
        · by_cases he2:e<b
          ·
            have u1:(s:Int)<m:=by omega
            have u2:(m:Int)<((a:Int)+b) / 2+m-s:=by omega
            have u3:¬((a:Int)<s):=by omega
            have u5:((a:Int)+b) / 2<((a:Int)+b) / 2+m-s:=by omega
            have u6:((a:Int)+b) / 2+m-s<b:=by omega
            have AX:Hid (sm lt (f+1) d a m b=(sm lt f (rot d s m e) mid e b)):=by unfold Hid;rw[AE.out,if_pos (show s<m∧m<e by omega),if_neg (show ¬(a<s∧s<mid) by omega),if_pos (show mid<e∧e<b by omega)]
            clear AE
            have hc1:=rotate_cells LR D d hs _ ASW.out s m e (by omega) (by omega) (by omega)
            rw[AEI.out] at hc1
            go_wp2_with (go_at_fn (ρ.f 42);refine hc1.mono ?_;rintro _ w1 ⟨rfl,hS1,hK1⟩;have BS1:Hid (SWK enc k w0 blk off (rot d s m e) w1):=hS1;have BK1:Hid (Keep blk W w1):=AK.out.trans hK1;have k1:=hK1 _ _ _ (Ne.symm hbs) c0;have l1:=hK1 _ _ _ (Ne.symm hbs) c1';clear hS1 hK1)
            clear hc1
            have hc2:=AIH.out (rot d s m e) (by simp[hs]) _ BS1.out mid e b (by omega) (by omega) (by omega) (by omega)
            rw[AMI.out,AEI.out] at hc2
            go_wp2_with (go_at_fn (ρ.f 30);refine hc2.mono ?_;rintro _ w2 ⟨rfl,hS2,hK2⟩;have BS2:Hid (SWK enc k w0 blk off (sm lt f (rot d s m e) mid e b) w2):=hS2;have BK2:Hid (Keep blk W w2):=BK1.out.trans hK2;have k2:=hK2 _ _ _ (Ne.symm hbs) k1;have l2:=hK2 _ _ _ (Ne.symm hbs) l1;clear hS2 hK2)
            clear hc2
            go_end0
            exact⟨rfl,by rw[AX.out];exact BS2.out,BK2.out⟩
          ·
            have u1:(s:Int)<m:=by omega
            have u2:(m:Int)<((a:Int)+b) / 2+m-s:=by omega
            have u3:¬((a:Int)<s):=by omega
            have u5:((a:Int)+b) / 2<((a:Int)+b) / 2+m-s:=by omega
            have u6:¬(((a:Int)+b) / 2+m-s<b):=by omega
            have AX:Hid (sm lt (f+1) d a m b=(rot d s m e)):=by unfold Hid;rw[AE.out,if_pos (show s<m∧m<e by omega),if_neg (show ¬(a<s∧s<mid) by omega),if_neg (show ¬(mid<e∧e<b) by omega)]
            clear AE
            have hc1:=rotate_cells LR D d hs _ ASW.out s m e (by omega) (by omega) (by omega)
            rw[AEI.out] at hc1
            go_wp2_with (go_at_fn (ρ.f 42);refine hc1.mono ?_;rintro _ w1 ⟨rfl,hS1,hK1⟩;have BS1:Hid (SWK enc k w0 blk off (rot d s m e) w1):=hS1;have BK1:Hid (Keep blk W w1):=AK.out.trans hK1;have k1:=hK1 _ _ _ (Ne.symm hbs) c0;have l1:=hK1 _ _ _ (Ne.symm hbs) c1';clear hS1 hK1)
            clear hc1
            go_end0
            exact⟨rfl,by rw[AX.out];exact BS1.out,BK1.out⟩
      · by_cases ha:m<mid
        ·
          have u1:¬((s:Int)<m):=by omega
          have u3:(a:Int)<s:=by omega
          have u4:(s:Int)<((a:Int)+b) / 2:=by omega
          have u5:¬(((a:Int)+b) / 2<((a:Int)+b) / 2+m-s):=by omega
          have AX:Hid (sm lt (f+1) d a m b=(sm lt f d a s mid)):=by unfold Hid;rw[AE.out,if_neg (show ¬(s<m∧m<e) by omega),if_pos (show a<s∧s<mid by omega),if_neg (show ¬(mid<e∧e<b) by omega)]
          clear AE
          have hc1:=AIH.out d hs _ ASW.out a s mid (by omega) (by omega) (by omega) (by omega)
          rw[AMI.out] at hc1
          go_wp2_with (go_at_fn (ρ.f 30);refine hc1.mono ?_;rintro _ w1 ⟨rfl,hS1,hK1⟩;have BS1:Hid (SWK enc k w0 blk off (sm lt f d a s mid) w1):=hS1;have BK1:Hid (Keep blk W w1):=AK.out.trans hK1;have k1:=hK1 _ _ _ (Ne.symm hbs) c0;have l1:=hK1 _ _ _ (Ne.symm hbs) c1';clear hS1 hK1)
          clear hc1
          go_end0
          exact⟨rfl,by rw[AX.out];exact BS1.out,BK1.out⟩
        ·
          have u1:¬((s:Int)<m):=by omega
          have u3:(a:Int)<s:=by omega
          have u4:¬((s:Int)<((a:Int)+b) / 2):=by omega
          have u5:¬(((a:Int)+b) / 2<((a:Int)+b) / 2+m-s):=by omega
          have AX:Hid (sm lt (f+1) d a m b=d):=by unfold Hid;rw[AE.out,if_neg (show ¬(s<m∧m<e) by omega),if_neg (show ¬(a<s∧s<mid) by omega),if_neg (show ¬(mid<e∧e<b) by omega)]
          clear AE
          go_wp2
          go_end0
          exact⟨rfl,by rw[AX.out];exact ASW.out,AK.out⟩
theorem symMerge_cells (L:LaysGt.n30 P ρ) {enc:α→List Value} {k:Nat} {lt:α→α→Bool} {g:Nat} {lb:Array Value} {sf:Nat} {sb:Array Value} {blk off size:Nat} {w0:World} (D:Data P enc k lt g lb sf sb blk off size w0):∀(f:Nat)
    (d:Array α) (_:d.size=size) (W:World) (_:SWK enc k w0 blk off d W) (a m b:Nat) (_:b-a≤f) (_:a<m) (_:m<b) (_:b≤size),
    Calls P (ρ.f 30) #[.agg #[.func (.func g) #[] lb,.func (.func sf) #[] sb],.int .i64 a,.int .i64 m,.int .i64 b] W fun e w'=>e=.returned (.tuple #[])∧SWK enc k w0 blk off (sm lt f d a m b) w'∧Keep blk W w'
  | 0,_,_,_,_,_,_,_,hf,_,_,_=>by omega
  | f+1,d,hs,W,hW,a,m,b,hf,h1,h2,h3=>by
    by_cases c1:m-a=1
    · exact symMerge_1 L D f d hs W hW a m b hf h1 h2 h3 c1
    · by_cases c2:b-m=1
      · exact symMerge_2 L D f d hs W hW a m b hf h1 h2 h3 c1 c2
      · by_cases hmm:(a+b) / 2<m
        · exact symMerge_3 L D f (symMerge_cells L D f) d hs W hW a m b hf h1 h2 h3 c1 c2 _ rfl hmm
        · exact symMerge_4 L D f (symMerge_cells L D f) d hs W hW a m b hf h1 h2 h3 c1 c2 _ rfl hmm

theorem SWK.lessReads {enc:α→List Value} {k:Nat} {w0 W:World} {blk off:Nat} {dk:Array α} {g:Nat} {lb:Array Value} {lt:α→α→Bool} {size:Nat} (h:SWK enc k w0 blk off dk W) (hL:LessReadsK P g lb enc k lt blk off size w0) (hblk:blk<w0.heap.size) (hs:dk.size=size) :
    LessReadsK P g lb enc k lt blk off size W:=fun m os dk' hs' i j hi hj=>(h.on hblk m dk' os (hs'.trans hs.symm)).less hL hs' i j hi hj
theorem size_insInner (lt:α→α→Bool) (a:Nat):∀(j:Nat) (d:Array α),(insInner lt a j d).size=d.size
  | 0,d=>by rw[insInner]
  | j+1,d=>by
    rw[insInner]
    split
    · rw[size_insInner lt a j,size_swp]
    · rfl
theorem size_insOuter (lt:α→α→Bool) (a b:Nat):∀(n i:Nat) (d:Array α),b-i≤n→(insOuter lt a b i d).size=d.size
  | n,i,d,h=>by
    rw[insOuter]
    split
    · cases n with
      | zero=>omega
      | succ n=>rw[size_insOuter lt a b n _ _ (by omega),size_insInner]
    · rfl
@[simp] theorem size_ins (lt:α→α→Bool) (d:Array α) (a b:Nat):(insertionSort lt d a b).size=d.size:=size_insOuter lt a b _ _ d (Nat.le_refl _)
theorem ins_cells (L:LaysGt.n29 P ρ) {enc:α→List Value} {k:Nat} {lt:α→α→Bool} {g:Nat} {lb:Array Value} {sf:Nat} {sb:Array Value} {blk off size:Nat} {w0:World} (D:Data P enc k lt g lb sf sb blk off size w0)
    (d:Array α) (hs:d.size=size) (W:World) (hW:SWK enc k w0 blk off d W) (a b:Nat) (h1:a≤b) (h2:b≤size) :
    Calls P (ρ.f 29) #[.agg #[.func (.func g) #[] lb,.func (.func sf) #[] sb],.int .i64 a,.int .i64 b] W fun e w'=>e=.returned (.tuple #[])∧SWK enc k w0 blk off (insertionSort lt d a b) w'∧Keep blk W w':=by
  obtain⟨d0,h0,hs0⟩:=D.holds
  have hsz:=D.hsz
  have hbW:blk<W.heap.size:=Nat.lt_of_lt_of_le D.hblk hW.le
  have hl:LessReadsK P g lb enc k lt blk off d.size W:=by rw[hs];exact hW.lessReads D.less D.hblk hs
  have hw:SwapSwapsK P sf sb enc k blk off d.size:=by rw[hs];exact D.swap
  refine(Any.insertionSort_func_cells (ρ:=ρ.viaGt) L.elder enc k D.hk lt g lb sf sb blk off a b d W D.eg hl hw (hW.holds D.hblk h0 (hs.trans hs0.symm)) hbW h1 (by omega) (by omega)).mono ?_
  rintro e w' ⟨rfl,n,rfl⟩
  refine⟨rfl,?_,fun b o v hb hc=>?_⟩
  · have:=(hW.alloc (.cells #[.func (.func g) #[] lb,.func (.func sf) #[] sb] (ρ.viaGt.t 44))).on D.hblk n (insertionSort lt d a b) #[] (by simp[size_ins])
    unfold sortWorldK at this
    rw[grow_empty] at this
    exact this
  · rw[cell?_putRowK_other enc k _ blk off _ _ hb]
    exact Keep.alloc blk W _ b o v hb hc
theorem stBlocks_go {lt:α→α→Bool} {n a:Nat} {d:Array α} (h:a+20≤n):stBlocks lt n (a+20) (insertionSort lt d a (a+20))=stBlocks lt n a d:=by
  conv=>rhs;rw[stBlocks,if_pos h]
theorem stBlocks_end {lt:α→α→Bool} {n a:Nat} {d:Array α} (h:¬a+20≤n):insertionSort lt d a n=stBlocks lt n a d:=by
  conv=>rhs;rw[stBlocks,if_neg h]
theorem stPass_go {lt:α→α→Bool} {n s a:Nat} {d:Array α} (h0:0<s) (h:a+2*s≤n):stPass lt n s (a+2*s) (sm lt (2*s) d a (a+s) (a+2*s))=stPass lt n s a d:=by
  conv=>rhs;rw[stPass,if_pos ⟨h0,h⟩]
theorem stPass_last {lt:α→α→Bool} {n s a:Nat} {d:Array α} (h:¬a+2*s≤n) (h2:a+s<n):sm lt (n-a) d a (a+s) n=stPass lt n s a d:=by
  conv=>rhs;rw[stPass,if_neg (fun x=>h x.2),if_pos h2]
theorem stPass_end {lt:α→α→Bool} {n s a:Nat} {d:Array α} (h:¬a+2*s≤n) (h2:¬a+s<n):d=stPass lt n s a d:=by
  conv=>rhs;rw[stPass,if_neg (fun x=>h x.2),if_neg h2]
theorem stOuter_go {lt:α→α→Bool} {n s:Nat} {d:Array α} (h0:0<s) (h:s<n):stOuter lt n (2*s) (stPass lt n s 0 d)=stOuter lt n s d:=by
  conv=>rhs;rw[stOuter,if_pos ⟨h0,h⟩]
theorem stOuter_end {lt:α→α→Bool} {n s:Nat} {d:Array α} (h:¬s<n):d=stOuter lt n s d:=by
  conv=>rhs;rw[stOuter,if_neg (fun x=>h x.2)]

set_option maxHeartbeats 4000000 in
set_option maxRecDepth 100000 in
theorem stable_cells (L:LaysGt.n15 P ρ) {enc:α→List Value} {k:Nat} {lt:α→α→Bool} {g:Nat} {lb:Array Value} {sf:Nat} {sb:Array Value} {blk off size:Nat} {w0:World} (D:Data P enc k lt g lb sf sb blk off size w0)
    (d:Array α) (hs:d.size=size) (W:World) (hW:SWK enc k w0 blk off d W) :
    Calls P (ρ.f 15) #[.agg #[.func (.func g) #[] lb,.func (.func sf) #[] sb],.int .i64 size] W fun e w'=>e=.returned (.tuple #[])∧SWK enc k w0 blk off (stable lt d size) w':=by
  have mixed:=L.mixed;have t0:=L.t0;have a0:=L.a0;have z0:=L.z0;have v0:=L.v0;have t3:=L.t3;have a3:=L.a3;have z3:=L.z3;have v3:=L.v3;have t4:=L.t4;have a4:=L.a4;have z4:=L.z4;have v4:=L.v4;have t26:=L.t26;have a26:=L.a26;have z26:=L.z26;have v26:=L.v26;have t38:=L.t38;have a38:=L.a38;have z38:=L.z38;have v38:=L.v38;have t42:=L.t42;have a42:=L.a42;have z42:=L.z42;have v42:=L.v42;have t47:=L.t47;have a47:=L.a47;have z47:=L.z47;have v47:=L.v47
  have u42:=run_underlying L.t42
  have hbs:blk≠W.heap.size:=by have:=hW.le;have:=D.hblk;omega
  have hsz:=D.hsz
  have e29:∀args w,(callFunc (ρ.f 29) args).run P w=.ok (.enter (ρ.f 29) args) w:=enters_of L.f29 (by kernel_rfl) rfl
  have e30:∀args w,(callFunc (ρ.f 30) args).run P w=.ok (.enter (ρ.f 30) args) w:=enters_of L.f30 (by kernel_rfl) rfl
  have LI:LaysGt.n29 P ρ:={ L with }
  have LS:LaysGt.n30 P ρ:={ L with }
  go_enter L.f15,BodyGt.n15_ntmps ρ
  go_wp2
  go_loopw [5,6] (fun va vb wr=>∃(a:Nat) (dk:Array α),va=.int .i64 a∧vb=.int .i64 ((a+20:Nat):Int)∧a≤size∧dk.size=size∧stBlocks lt size a dk=stBlocks lt size 0 d∧SWK enc k w0 blk off dk wr ∧
    wr.cell? ⟨W.heap.size,0,none⟩=some (.func (.func g) #[] lb)∧wr.cell? ⟨W.heap.size,1,none⟩=some (.func (.func sf) #[] sb)∧Keep blk W wr) (fun va _ _=>size-(intOf va).toNat)
  case atStart=>exact⟨0,d,by go_num,by go_num,by omega,hs,rfl,hW.alloc _,by simp,by simp,Keep.alloc _ _ _⟩
  case round=>
    obtain⟨a,dk,rfl,rfl,ha,hsk,he,hS,c0,c1,hK⟩:=hrel
    have AE:Hid (stBlocks lt size a dk=stBlocks lt size 0 d):=he
    have AK:Hid (Keep blk W wr):=hK
    have ASW:Hid (SWK enc k w0 blk off dk wr):=hS
    clear he hK hS
    by_cases hle:a+20≤size
    · have hc:=ins_cells LI D dk hsk wr ASW.out a (a+20) (by omega) hle
      have AE2:Hid (stBlocks lt size (a+20) (insertionSort lt dk a (a+20))=stBlocks lt size 0 d):=(stBlocks_go hle).trans AE.out
      clear AE
      go_wp2_with (go_at_fn (ρ.f 29);refine hc.mono ?_;rintro e w' ⟨rfl,hS',hK'⟩)
      have c0':=hK' _ _ _ (Ne.symm hbs) c0
      have c1':=hK' _ _ _ (Ne.symm hbs) c1
      go_roundw
      case rel=>exact⟨a+20,_,by go_num,by go_num,hle,by simp[size_ins,hsk],AE2.out,hS',c0',c1',AK.out.trans hK'⟩
      case measure=>simp[intOf];omega
    · have hc:=ins_cells LI D dk hsk wr ASW.out a size ha (Nat.le_refl _)
      have AE2:Hid (stOuter lt size 20 (insertionSort lt dk a size)=stable lt d size):=by unfold Hid stable;rw[stBlocks_end hle,AE.out]
      have hsk2:(insertionSort lt dk a size).size=size:=by simp[size_ins,hsk]
      clear AE
      go_wp2_with (go_at_fn (ρ.f 29);refine hc.mono ?_;rintro e w' ⟨rfl,hS',hK'⟩)
      have c0':=hK' _ _ _ (Ne.symm hbs) c0
      have c1':=hK' _ _ _ (Ne.symm hbs) c1
      have BK:Hid (Keep blk W w'):=AK.out.trans hK'
      have BS:Hid (SWK enc k w0 blk off (insertionSort lt dk a size) w'):=hS'
      clear hc hS' hK' c0 c1 ASW AK
      generalize insertionSort lt dk a size=d1 at *
      go_loopw [4] (fun vs wr=>∃(s:Nat) (dk:Array α),vs=.int .i64 s∧0<s∧s≤2*size+20∧dk.size=size∧stOuter lt size s dk=stable lt d size∧SWK enc k w0 blk off dk wr ∧
        wr.cell? ⟨W.heap.size,0,none⟩=some (.func (.func g) #[] lb)∧wr.cell? ⟨W.heap.size,1,none⟩=some (.func (.func sf) #[] sb)∧Keep blk W wr) (fun vs _=>size-(intOf vs).toNat)
      case atStart=>exact⟨20,d1,by go_num,by omega,by omega,hsk2,AE2.out,BS.out,c0',c1',BK.out⟩
      case round=>
        clear c0' c1' BK BS AE2 hsk2
        obtain⟨s,dk,rfl,hs0,hsb,hsk,he,hS,c0,c1,hK⟩:=hrel
        have AE:Hid (stOuter lt size s dk=stable lt d size):=he
        have AK:Hid (Keep blk W wr):=hK
        have ASW:Hid (SWK enc k w0 blk off dk wr):=hS
        clear he hK hS
        by_cases hlt:s<size
        · have AE2:Hid (stOuter lt size (2*s) (stPass lt size s 0 dk)=stable lt d size):=(stOuter_go hs0 hlt).trans AE.out
          clear AE
          go_wp2
          go_loopw [5,6] (fun va vb wr=>∃(a:Nat) (d2:Array α),va=.int .i64 a∧vb=.int .i64 ((a+2*s:Nat):Int)∧a≤size∧d2.size=size∧stPass lt size s a d2=stPass lt size s 0 dk∧SWK enc k w0 blk off d2 wr ∧
            wr.cell? ⟨W.heap.size,0,none⟩=some (.func (.func g) #[] lb)∧wr.cell? ⟨W.heap.size,1,none⟩=some (.func (.func sf) #[] sb)∧Keep blk W wr) (fun va _ _=>size-(intOf va).toNat)
          case atStart=>exact⟨0,dk,by go_num,by go_num,by omega,hsk,rfl,ASW.out,c0,c1,AK.out⟩
          case round=>
            clear c0 c1 AK ASW
            obtain⟨a,d2,rfl,rfl,ha,hsk2,he,hS,c0,c1,hK⟩:=hrel
            have AP:Hid (stPass lt size s a d2=stPass lt size s 0 dk):=he
            have AK:Hid (Keep blk W wr):=hK
            have ASW:Hid (SWK enc k w0 blk off d2 wr):=hS
            clear he hK hS
            by_cases hle:a+2*s≤size
            · have hc:=symMerge_cells LS D (2*s) d2 hsk2 wr ASW.out a (a+s) (a+2*s) (by omega) (by omega) (by omega) hle
              rw[show ((a+s:Nat):Int)=(a:Int)+s by omega] at hc
              have AP2:Hid (stPass lt size s (a+2*s) (sm lt (2*s) d2 a (a+s) (a+2*s))=stPass lt size s 0 dk):=(stPass_go hs0 hle).trans AP.out
              clear AP
              go_wp2_with (go_at_fn (ρ.f 30);refine hc.mono ?_;rintro e w' ⟨rfl,hS',hK'⟩)
              have c0':=hK' _ _ _ (Ne.symm hbs) c0
              have c1':=hK' _ _ _ (Ne.symm hbs) c1
              go_roundw
              case rel=>exact⟨a+2*s,_,by go_num,by go_num,hle,by simp[hsk2],AP2.out,hS',c0',c1',AK.out.trans hK'⟩
              case measure=>simp[intOf];omega
            · by_cases hm:a+s<size
              · have hc:=symMerge_cells LS D (size-a) d2 hsk2 wr ASW.out a (a+s) size (by omega) (by omega) hm (Nat.le_refl _)
                rw[show ((a+s:Nat):Int)=(a:Int)+s by omega] at hc
                have hmi:(a:Int)+s<size:=by omega
                have AP2:Hid (stOuter lt size (2*s) (sm lt (size-a) d2 a (a+s) size)=stable lt d size):=by unfold Hid;rw[stPass_last hle hm,AP.out];exact AE2.out
                clear AP
                go_wp2_with (go_at_fn (ρ.f 30);refine hc.mono ?_;rintro e w' ⟨rfl,hS',hK'⟩)
                have c0':=hK' _ _ _ (Ne.symm hbs) c0
                have c1':=hK' _ _ _ (Ne.symm hbs) c1
                go_roundw
                case rel=>exact⟨2*s,_,by go_num,by omega,by omega,by simp[hsk2],AP2.out,hS',c0',c1',AK.out.trans hK'⟩
                case measure=>simp[intOf];omega
              · have hmi:¬(a:Int)+s<size:=by omega
                have AP2:Hid (stOuter lt size (2*s) d2=stable lt d size):=(congrArg (stOuter lt size (2*s)) ((stPass_end hle hm).trans AP.out)).trans AE2.out
                clear AP
                go_wp2
                go_roundw
                case rel=>exact⟨2*s,d2,by go_num,by omega,by omega,hsk2,AP2.out,ASW.out,c0,c1,AK.out⟩
                case measure=>simp[intOf];omega
        · have AE2:Hid (dk=stable lt d size):=(stOuter_end hlt).trans AE.out
          clear AE
          go_wp2
          go_end0
          exact⟨rfl,AE2.out▸ASW.out⟩

theorem sliceStable_cells (L:LaysGt.n8 P ρ) (t e:TypeId) (i ie:TypeInfo) (hi:P.info? t=some i) (hd:i.desc=.slice e) (hpk:P.packed t=false) (hie:P.info? e=some ie) (ke:Nat) (hke:∀w,(Extern.Rtype.kind e).run P w=.ok ke w)
    (enc:α→List Value) (k:Nat) (hk:∀x,(enc x).length=k) (hs1:ie.size=k) (hagg:∀w,(isAgg e).run P w=.ok true w) (h1:∀x,∀v∈enc x,v.oneCell'=true) (lt:α→α→Bool) (g:Nat) (lb:Array Value)
    (eg:∀args w,(callFunc g args).run P w=.ok (.enter g args) w) (blk off c:Nat) (d:Array α) (h2:2≤d.size) (hsz:d.size<1152921504606846976)
    (f:Nat) (hf:P.funcs.findIdx? (·.name == "internal/reflectlite" ++ ".Swapper$" ++ toString (swapperK d.size ie ke))=some f)
    (gS:Bool) (hx:∀args W,(callFunc f args).run P W=((Extern.ReflectliteSwapper.swap gS args).run P W).andThen fun v w'=>.ok (.value v) w')
    (w:World) (hless:LessReadsK P g lb enc k lt blk off d.size w) (hH:HoldsK enc k w blk off d) (hblk:blk<w.heap.size) :
    Calls P (ρ.f 8) #[.iface t (.slice (some ⟨blk,off,none⟩) d.size c),.func (.func g) #[] lb] w fun e w'=>e=.returned (.tuple #[])∧SWK enc k w blk off (stable lt d d.size) w':=by
  refine Any.sort_SliceStable_of_stable L t e i ie hi hd hpk hie ke hke _ d.size c (by omega) f hf (.func g) #[] lb w _ ?_
  have hB:sliceBound P e ie ke (some ⟨blk,off,none⟩) d.size c=#[.slice (some ⟨blk,off,none⟩) d.size c,typeHandle P e]:=by
    unfold sliceBound;rw[if_neg (swapperK_gt _ _ _ h2)]
  rw[hB]
  have D:Data P enc k lt g lb f #[.slice (some ⟨blk,off,none⟩) d.size c,typeHandle P e] blk off d.size w:=
    ⟨hk,eg,hless,swapSwapsK_of_literal gS f hx e ie hie enc k hk hs1 hagg h1 blk off d.size c,⟨d,hH,rfl⟩,hblk,hsz⟩
  exact stable_cells { L with } D d rfl _ (((SWK.start hH).alloc _).alloc _)
end Go.Proofs.YtanfohlpkppeiaaGreat.Stable
end
section
namespace Go.Proofs.YtanfohlpkppeiaaGreat.Print
open Go.RowKit Go.Proofs.YtanfohlpkppeiaaGreatV.PrintWords Go.Proofs.YtanfohlpkppeiaaGreatV.PrintLast Go.Proofs.YtanfohlpkppeiaaGreatV.PrintMore
attribute [local go_sem] max2_int min2_int max_two min_two max_three min_three max_four min_four
set_option linter.unusedVariables false
set_option linter.unusedSimpArgs false
set_option maxHeartbeats 80000000
set_option maxRecDepth 100000
mutual
def impl_SetLess.l0:Nat→List S99→List S99→Int→Option (Bool)
 | 0,_,_,_=>none
 | k+1,b,c,a=>if a<(b.length:Int) then (impl_SetLess.j1 k b c a (decide (a<(c.length:Int)))) else (impl_SetLess.j1 k b c a false)
def impl_SetLess.j1:Nat→List S99→List S99→Int→Bool→Option (Bool)
 | 0,_,_,_,_=>none
 | k+1,b,c,a,d=>if d=true then (if 0≤a then (if a<(b.length:Int) then (if a<(c.length:Int) then (if ((rd_T99 b a).f0).toList=((rd_T99 c a).f0).toList then (if ((rd_T99 b a).f1).toList=((rd_T99 c a).f1).toList then (impl_SetLess.l0 k b c (wrap64 (a+1))) else (some (Op.bytesLess (((rd_T99 b a).f1).toList) (((rd_T99 c a).f1).toList)))) else (some (Op.bytesLess (((rd_T99 b a).f0).toList) (((rd_T99 c a).f0).toList)))) else (none)) else (none)) else (none)) else (some (decide ((b.length:Int)<(c.length:Int))))
end
def impl_SetLess.f (k:Nat) (l0:List S99) (a:List S99):Option (Bool):=impl_SetLess.l0 k l0 a 0
theorem impl_SetLess.mono_l:∀k,(∀y0 y1 y2,LeO (impl_SetLess.l0 k y0 y1 y2) (impl_SetLess.l0 (k+1) y0 y1 y2))∧(∀y0 y1 y2 y3,LeO (impl_SetLess.j1 k y0 y1 y2 y3) (impl_SetLess.j1 (k+1) y0 y1 y2 y3))
 | 0=>⟨fun _ _ _ r h=>by simp[impl_SetLess.l0] at h,fun _ _ _ _ r h=>by simp[impl_SetLess.j1] at h⟩
 | k+1=>by
  obtain⟨ih0,ih1⟩:=impl_SetLess.mono_l k
  refine⟨?_,?_⟩
  ·
   intro y0 y1 y2
   unfold impl_SetLess.l0
   repeat' first
   | (with_reducible exact ih0 _ _ _)
   | (with_reducible exact ih1 _ _ _ _)
   | (with_reducible exact LeO.refl _)
   | (with_reducible exact LeO.none _)
   | (with_reducible refine LeO.ite ?_ ?_)
   | (with_reducible refine LeO.bind ?_ (fun _=>?_))
   | exact ih0 _ _ _
   | exact ih1 _ _ _ _
  intro y0 y1 y2 y3
  unfold impl_SetLess.j1
  repeat' first
  | (with_reducible exact ih0 _ _ _)
  | (with_reducible exact ih1 _ _ _ _)
  | (with_reducible exact LeO.refl _)
  | (with_reducible exact LeO.none _)
  | (with_reducible refine LeO.ite ?_ ?_)
  | (with_reducible refine LeO.bind ?_ (fun _=>?_))
  | exact ih0 _ _ _
  | exact ih1 _ _ _ _
theorem impl_SetLess.mono:∀a0 a1 k,LeO (impl_SetLess.f k a0 a1) (impl_SetLess.f (k+1) a0 a1):=by
 intro a0 a1 k
 obtain⟨ih0,ih1⟩:=impl_SetLess.mono_l k
 unfold impl_SetLess.f
 repeat' first|(with_reducible first|exact ih0 _ _ _|exact ih1 _ _ _ _|exact LeO.refl _|exact LeO.none _|refine LeO.ite ?_ ?_|refine LeO.bind ?_ (fun _=>?_))|exact ih0 _ _ _|exact ih1 _ _ _ _
theorem impl_SetLess.calls (k:Nat) (A0:Option Addr) (c0:Nat) (l0:List S99) (A1:Option Addr) (c1:Nat) (b:List S99) (r:Bool) (w:World) (N:Kd.C k99 w A0 l0.length l0) (O:l0.length≤c0) (P:Kd.C k99 w A1 b.length b) (Q:b.length≤c1) (h:impl_SetLess.f k l0 b=some r) :
  Calls Tryz.prog 33 #[.slice A0 l0.length c0,.slice A1 b.length c1] w fun e w'=>e=.returned (.bool r)∧Drawn0 w w':=by
 have A:=M_ N
 have va:=M_ O
 clear N O
 have B:=M_ P
 have wa:=M_ Q
 clear P Q
 unfold impl_SetLess.f at h
 have H:=h;clear h
 have H':=M_ H
 clear H
 go_enter Tryz.func33,Tryz.ntmps33
 go_wp2
 repeat (go_quiet (fail);try go_wp2)
 go_loopg [5] k (fun kq v5 w'=>∃(a:Int),v5=.int .i64 a∧Aside0 (impl_SetLess.l0 kq l0 b a=some r)∧Aside0 (kq≤k)∧Drawn0 w w')
 case atStart=>exact⟨(0),rs_,H',⟨Nat.le_refl _⟩,by repeat (first|exact Drawn0.refl _|apply Drawn0.step)⟩
 case round=>
  clear H'
  obtain⟨a,rfl,D,z,⟨m1,rfl⟩⟩:=hrel
  cases gk with
  | zero=>exact absurd D.1 (by simp[impl_SetLess.l0])
  | succ k1=>
   have H:=D.1
   clear D
   simp only[impl_SetLess.l0] at H
   have E:=M_ H
   clear H
   go_upto_region 2 with(fail)
   repeat (go_quiet (fail);go_upto_region 2 with(fail))
   go_cut [15] (fun ma wc=>∃(kq:Nat) (d:Bool),ma=.bool d∧Aside0 (impl_SetLess.j1 kq l0 b a d=some r)∧Aside0 (kq≤k1)∧Drawn0 w wc)
   case first=>
    have H:=E.1
    clear E
    replace H:=ie_ H;rcases H with⟨R,H⟩|⟨R,H⟩
    ·
     have c:=decide_eq_true R
     clear R
     (first|rw[c]|(simp only[i64_w,i32_w];rw[c])|skip)
     have H':=M_ H
     clear H
     go_wp2
     repeat (go_quiet (fail);try go_wp2)
     go_meet
     case rel=>exact⟨_,(decide (a<(b.length:Int))),rs_,H',⟨by have:=z.1;first|omega|exact Nat.le_refl _⟩,by repeat (first|exact Drawn0.refl _|apply Drawn0.step)⟩
    have c:decide (a<(l0.length:Int))=false:=decide_eq_false R
    clear R
    (first|rw[c]|(simp only[i64_w,i32_w];rw[c])|skip)
    have H':=M_ H
    clear H
    go_wp2
    repeat (go_quiet (fail);try go_wp2)
    go_meet
    case rel=>exact⟨_,(false),rs_,H',⟨by have:=z.1;first|omega|exact Nat.le_refl _⟩,by repeat (first|exact Drawn0.refl _|apply Drawn0.step)⟩
   case rest=>
    clear E
    obtain⟨kq,d,rfl,D,HJ2,⟨mc2,rfl⟩⟩:=hcut
    cases kq with
    | zero=>exact absurd D.1 (by simp[impl_SetLess.j1])
    | succ na=>
     have H:=D.1
     clear D
     simp only[impl_SetLess.j1] at H
     replace H:=ib_ H;rcases H with⟨rfl,H⟩|⟨rfl,H⟩
     ·
      replace H:=i2_ H;obtain⟨sa,ta,H⟩:=H
      replace H:=id_ H;obtain⟨ua,H⟩:=H
      have AHz_:=M_ H
      clear H
      obtain⟨i,j⟩:0≤(a:Int)∧a<(l0.length:Int):=pq_
      obtain⟨l,S,T,U⟩:=at_T99 A.1 a i j
      cases S
      replace i:=eq_true i;replace j:=eq_true j
      obtain⟨m,n⟩:0≤(a:Int)∧a<(b.length:Int):=pq_
      obtain⟨o,V,W,X⟩:=at_T99 B.1 a m n
      cases V
      replace m:=eq_true m;replace n:=eq_true n
      obtain⟨p,q⟩:0≤(a:Int)∧a<(l0.length:Int):=pq_
      obtain⟨F,Y,Z,aa⟩:=at_T99 A.1 a p q
      obtain rfl:l=F:=(by injection Y)
      replace p:=eq_true p;replace q:=eq_true q
      obtain⟨s,t⟩:0≤(a:Int)∧a<(b.length:Int):=pq_
      obtain⟨G,ba,ca,da⟩:=at_T99 B.1 a s t
      obtain rfl:o=G:=(by injection ba)
      replace s:=eq_true s;replace t:=eq_true t
      have H:=AHz_.1
      clear AHz_
      replace H:=ie_ H;rcases H with⟨M,H⟩|⟨M,H⟩
      ·
       have ea:(((rd_T99 l0 a).f0).toList==((rd_T99 b a).f0).toList)=true:=beq_iff_eq.mpr M
       have fa:(((rd_T99 l0 a).f0).toList !=((rd_T99 b a).f0).toList)=false:=bne_eq_false_iff_eq.mpr M
       clear M
       replace H:=ie_ H;rcases H with⟨g,H⟩|⟨g,H⟩
       ·
        have I:(((rd_T99 l0 a).f1).toList==((rd_T99 b a).f1).toList)=true:=beq_iff_eq.mpr g
        have J:(((rd_T99 l0 a).f1).toList !=((rd_T99 b a).f1).toList)=false:=bne_eq_false_iff_eq.mpr g
        clear g
        have H':=M_ H
        clear H
        go_wp2
        repeat (go_quiet (fail);try go_wp2)
        go_roundg na
        case measure=>have:=z.1;have:=HJ2.1;omega
        case rel=>exact⟨(wrap64 (a+1)),rs_,H',⟨by have:=z.1;have:=HJ2.1;omega⟩,by repeat (first|exact Drawn0.refl _|apply Drawn0.step)⟩
       have I:(((rd_T99 l0 a).f1).toList==((rd_T99 b a).f1).toList)=false:=beq_eq_false_iff_ne.mpr g
       have J:(((rd_T99 l0 a).f1).toList !=((rd_T99 b a).f1).toList)=true:=bne_iff_ne.mpr g
       obtain rfl:=Option.some.inj H
       obtain⟨u,v⟩:0≤(a:Int)∧a<(l0.length:Int):=pq_
       obtain⟨K,ga,ha,ia⟩:=at_T99 A.1 a u v
       obtain rfl:l=K:=(by injection ga)
       replace u:=eq_true u;replace v:=eq_true v
       obtain⟨x,y⟩:0≤(a:Int)∧a<(b.length:Int):=pq_
       obtain⟨L,ja,ka,la⟩:=at_T99 B.1 a x y
       obtain rfl:o=L:=(by injection ja)
       replace x:=eq_true x;replace y:=eq_true y
       go_wp2
       repeat (go_quiet (fail);try go_wp2)
       go_ret
       exact⟨by first|rfl|(simp;done)|(simp[*];done),by repeat (first|exact Drawn0.refl _|apply Drawn0.step)⟩
      have ea:(((rd_T99 l0 a).f0).toList==((rd_T99 b a).f0).toList)=false:=beq_eq_false_iff_ne.mpr M
      have fa:(((rd_T99 l0 a).f0).toList !=((rd_T99 b a).f0).toList)=true:=bne_iff_ne.mpr M
      obtain rfl:=Option.some.inj H
      go_wp2
      repeat (go_quiet (fail);try go_wp2)
      go_ret
      exact⟨by first|rfl|(simp;done)|(simp[*];done),by repeat (first|exact Drawn0.refl _|apply Drawn0.step)⟩
     obtain rfl:=Option.some.inj H
     go_wp2
     repeat (go_quiet (fail);try go_wp2)
     go_ret
     exact⟨by first|rfl|(simp;done)|(simp[*];done),by repeat (first|exact Drawn0.refl _|apply Drawn0.step)⟩
section
open Go.Sort Go.Lib
theorem heap_sw {α:Type} [Inhabited α] (enc:α→List Value) (k:Nat) (w:World) (blk off m:Nat) (dk:Array α) (os:Array Obj) (b:Nat) (hb:b≠blk) (hl:b<w.heap.size):(sortWorldK enc k w blk off m dk os).heap[b]?=w.heap[b]?:=by
 show ((putRowK enc k (Sort.ahead w m) blk off dk).heap++os)[b]?=_
 have hs:(putRowK enc k (Sort.ahead w m) blk off dk).heap.size=w.heap.size:=by unfold putRowK;simp
 rw[Array.getElem?_append_left (by rw[hs];exact hl)]
 show (w.heap.modify blk _)[b]?=_
 rw[Array.getElem?_modify,if_neg (Ne.symm hb)]
theorem heap_sw_self {α:Type} [Inhabited α] (enc:α→List Value) (k:Nat) (w:World) (blk off m:Nat) (dk:Array α) (os:Array Obj) {cur:Array Value} {e:TypeId} {fr:Nat×Nat} (h:w.heap[blk]?=some (.cells cur e fr)) :
  (sortWorldK enc k w blk off m dk os).heap[blk]?=some (.cells (putCells id off (flatK enc k dk) cur) e fr):=by
 have hl:blk<w.heap.size:=by
  by_cases hlt:blk<w.heap.size
  ·
   exact hlt
  rw[Array.getElem?_eq_none (by omega)] at h;cases h
 show ((putRowK enc k (Sort.ahead w m) blk off dk).heap++os)[blk]?=_
 have hs:(putRowK enc k (Sort.ahead w m) blk off dk).heap.size=w.heap.size:=by unfold putRowK;simp
 rw[Array.getElem?_append_left (by rw[hs];exact hl)]
 show (w.heap.modify blk _)[blk]?=_
 rw[Array.getElem?_modify,if_pos rfl,h]
 rfl
theorem size_sw {α:Type} [Inhabited α] (enc:α→List Value) (k:Nat) (w:World) (blk off m:Nat) (dk:Array α) (os:Array Obj):w.heap.size≤(sortWorldK enc k w blk off m dk os).heap.size:=by
 show _≤((putRowK enc k (Sort.ahead w m) blk off dk).heap++os).size
 have hs:(putRowK enc k (Sort.ahead w m) blk off dk).heap.size=w.heap.size:=by unfold putRowK;simp
 rw[Array.size_append,hs];omega
theorem take_putCells (F cur:Array Value) (h:F.size≤cur.size):(putCells id 0 F cur).toList.take F.size=F.toList:=by
 apply List.ext_getElem
 ·
  simp[putCells];omega
 intro t h1 h2
 simp only[List.length_take,Array.length_toList] at h1 h2
 simp[putCells,h2]
theorem chunk_flatK {α:Type} [Inhabited α] (enc:α→List Value) (k:Nat) (hk:∀x,(enc x).length=k) (d:Array α) (t:Nat) (ht:t<d.size):((flatK enc k d).toList.drop (t*k)).take k=enc d[t]!:=by
 have b:t*k+k≤d.size*k:=by
  have:=Nat.mul_le_mul_right k (show t+1≤d.size from ht);rwa [Nat.add_mul,Nat.one_mul] at this
 apply List.ext_getElem
 ·
  simp[hk];omega
 intro i h1 h2
 rw[hk] at h2
 have e1:(t*k+i) / k=t:=by rw[Nat.mul_comm,Nat.mul_add_div (by omega),Nat.div_eq_of_lt h2];rfl
 have e2:(t*k+i)%k=i:=by rw[Nat.mul_comm,Nat.mul_add_mod,Nat.mod_eq_of_lt h2]
 have:=get_flatK enc k d (t*k+i) (by omega)
 rw[getElem!_pos _ _ (by simp;omega),e1,e2] at this
 simp only[List.getElem_take,List.getElem_drop,Array.getElem_toList]
 rw[this,getElem!_pos _ _ (by rw[hk];exact h2)]
/-- A row of rows, its cells by name; and what makes it a row again, its elements in another order. -/
theorem S_cells {α:Type} {d:Kd α} {e g n cap base:Nat} {w:World} {ok:Nat→Prop} {xs:List α} (h:Kd.S d e w base ok (.slice (some ⟨g,0,none⟩) n cap) xs) :
  ∃(inner:List Value) (cur:Array Value) (okj:Nat→Nat→Prop),n=xs.length∧inner.length=xs.length*d.sz∧w.heap[g]?=some (.cells cur e (0,0))∧xs.length*d.sz≤cur.size∧cur.toList.take (xs.length*d.sz)=inner∧base≤g ∧
   (∀i j k,okj i k→okj j k→i=j)∧(∀j k,okj j k→ok k∧k≠g)∧(∀j x,xs[j]?=some x→d.M w base (okj j) x ((inner.drop (j*d.sz)).take d.sz)) ∧
   ∀(w1:World) (cur1:Array Value) (inner1:List Value) (ys:List α) (okj1:Nat→Nat→Prop),ys.length=xs.length→w1.heap[g]?=some (.cells cur1 e (0,0))→cur1.size=cur.size→cur1.toList.take (xs.length*d.sz)=inner1→(∀i j k,okj1 i k→okj1 j k→i=j) →
    (∀j k,okj1 j k→ok k∧k≠g)→(∀j y,ys[j]?=some y→d.M w1 base (okj1 j) y ((inner1.drop (j*d.sz)).take d.sz))→Kd.S d e w1 base ok (.slice (some ⟨g,0,none⟩) n cap) ys:=by
 have hn:=(Kd.S_reads' h).1
 obtain⟨f,h0,inner,ho,hr⟩:=h
 rw[List.length_zipIdx] at ho
 obtain⟨hl,hc⟩:=ho
 have hl':inner.length=xs.length*d.sz:=hl
 rcases hc with⟨hc,-⟩|⟨g',cap',cur,hv,hg,hh,hle,hm,hsz,ht⟩
 ·
  cases hc
 injection hv with ha h2 h3
 injection ha with ha
 injection ha with ha _ _
 subst ha h3
 have hM:∀j x,xs[j]?=some x→d.M w base (fun k=>(ok k∧k≠g)∧f k=j) x ((inner.drop (j*d.sz)).take d.sz):=fun j x hx=>by
  have:=hr.2 j (x,j) (Kd.zip_at hx)
  exact d.M_mono (fun k hk=>⟨⟨hk.1.1,fun e_=>hk.1.2 (by rw[e_];rfl)⟩,hk.2⟩) this
 refine⟨inner,cur,fun j k=>(ok k∧k≠g)∧f k=j,hn,hl',hh,?_,ht,hg,fun i j k a b=>a.2.symm.trans b.2,fun j k a=>a.1,hM,?_⟩
 ·
  have:cur.size=cap*d.sz:=hsz
  rw[this];exact Nat.mul_le_mul_right _ (by omega)
 intro w1 cur1 inner1 ys okj1 hys hh1 hs1 ht1 hap hok hM1
 have hz:cur.size=cap*d.sz:=hsz
 have hl1:inner1.length=ys.length*d.sz:=by
  have e1:cur1.toList.length=cap*d.sz:=by rw[←hz,←hs1];simp
  rw[←ht1,List.length_take,e1,hys]
  exact Nat.min_eq_left (Nat.mul_le_mul_right _ (by omega))
 obtain⟨f1,hr1⟩:=Kd.reps_tag (d:=d) (w:=w1) (base:=base) (ok:=fun k=>ok k∧some k≠(Value.slice (some ⟨g,0,none⟩) n cap).ownBlock) okj1 hap (fun j k hk=>⟨(hok j k hk).1,fun e_=>(hok j k hk).2 (by injection e_)⟩) hl1 hM1
 refine⟨f1,h0,inner1,⟨?_,.inr ⟨g,cap,cur1,by rw[List.length_zipIdx,hys];first|rfl|(subst hn;rfl),hg,hh1,by rw[List.length_zipIdx,hys];omega,hm,by rw[hs1];exact hsz,by rw[List.length_zipIdx,hys];exact ht1⟩⟩,hr1⟩
 rw[List.length_zipIdx];exact hl1
end
section
open Go.Sort Go.Lib
open Classical in
noncomputable def impl_byLabels.lt (x y:S29):Bool:=decide (∃k,impl_SetLess.f k x.f0 y.f0=some true)
noncomputable def impl_byLabels.at_ (l:List S29) (j:Nat):S29:=l.getD (if j<l.length then j else 0) z29
noncomputable def impl_byLabels.ltn (l:List S29) (i j:Nat):Bool:=impl_byLabels.lt (impl_byLabels.at_ l i) (impl_byLabels.at_ l j)
noncomputable def impl_byLabels.out (l:List S29):List S29:=(Stable.stable (impl_byLabels.ltn l) (Array.range l.length) l.length).toList.map (impl_byLabels.at_ l)
open Classical in
noncomputable def impl_byLabels.f (k:Nat) (a:List S29):Option (List S29):=if (∀x∈a,∀y∈a,(impl_SetLess.f k x.f0 y.f0).isSome=true)∧a.length<1152921504606846976∧SWO (impl_byLabels.ltn a) then some (impl_byLabels.out a) else none
theorem impl_byLabels.more (a b:List S99) (v:Bool) (k:Nat) (h:impl_SetLess.f k a b=some v):∀m,impl_SetLess.f (k+m) a b=some v
 | 0=>h
 | m+1=>impl_SetLess.mono _ _ _ _ (impl_byLabels.more a b v k h m)
open Classical in
theorem impl_byLabels.lt_eq {x y:S29} {v:Bool} {k:Nat} (h:impl_SetLess.f k x.f0 y.f0=some v):impl_byLabels.lt x y=v:=by
 unfold impl_byLabels.lt
 cases v with
 | true=>exact decide_eq_true ⟨k,h⟩
 | false=>
  refine decide_eq_false ?_
  rintro ⟨k',h'⟩
  have a:=impl_byLabels.more _ _ _ _ h k'
  have b:=impl_byLabels.more _ _ _ _ h' k
  rw[Nat.add_comm k' k,a] at b
  cases b
theorem impl_byLabels.lit (k B g n c i j:Nat) (W:World) (d:Option Addr) (l:Nat) (a:List S99) (m:Option Addr) (o:Nat) (b:List S99) (r:Bool) (hB:W.cell? ⟨B,0,none⟩=some (.slice (some ⟨g,0,none⟩) n c)) (hi:i<n) (hj:j<n) (hn:n<1152921504606846976)
  (ci:W.cell? ⟨g,i*4,none⟩=some (.slice d a.length l)) (cj:W.cell? ⟨g,j*4,none⟩=some (.slice m b.length o)) (p:Kd.C k99 W d a.length a) (t:a.length≤l) (s:Kd.C k99 W m b.length b) (u:b.length≤o) (h:impl_SetLess.f k a b=some r) :
  Calls Tryz.prog 111 #[.int .i64 i,.int .i64 j,.pointer (some ⟨B,0,none⟩)] W fun e w'=>e=.returned (.bool r)∧∃q,w'=W.drewN q:=by
 have hii:(i:Int)<n:=by omega
 have hjj:(j:Int)<n:=by omega
 have R0:=M_ p
 have R1:=M_ s
 have HH:=M_ h
 clear p s h
 go_enter Tryz.func111,Tryz.ntmps111
 go_wp2
 go_quiet (first|(go_at_call 33;exact Calls.quiet_of ((impl_SetLess.calls k d l a m o b r _ (Kd.C_drewN R0.out _) t (Kd.C_drewN R1.out _) u HH.out).mono fun _ _ ⟨he,hd⟩=>⟨he,hd.out⟩)))
 go_wp2
 go_ret
 exact⟨rfl,nq,rfl⟩
noncomputable def impl_byLabels.sT:TypeInfo:=(Tryz.prog.info? 40).get (by kernel_rfl)
noncomputable def impl_byLabels.sE:TypeInfo:=(Tryz.prog.info? 29).get (by kernel_rfl)
theorem impl_byLabels.sK (n:Nat) (h2:2≤n):swapperK n impl_byLabels.sE 25=9:=by
 have a:impl_byLabels.sE.hasPointers=true:=by kernel_rfl
 have b:impl_byLabels.sE.bytes=56:=by kernel_rfl
 have c:(n==0)=false:=by simp;omega
 have d:(n==1)=false:=by simp;omega
 simp[swapperK,a,b,c,d]
theorem impl_byLabels.tiny (a:Option Addr) (n c:Nat) (hn:n≤1) (la:Array Value) (w:World) :
  Calls Tryz.prog 110 #[.iface 40 (.slice a n c),.func (.func 111) #[] la] w fun e w'=>e=.returned (.tuple #[])∧∃os,w'=grow w os:=by
 have sw:∃f,Tryz.prog.funcs.findIdx? (·.name == "internal/reflectlite" ++ ".Swapper$" ++ toString (swapperK n impl_byLabels.sE 25))=some f:=by
  rcases (show n=0∨n=1 by omega) with rfl|rfl
  ·
   exact⟨_,(by kernel_rfl:Tryz.prog.funcs.findIdx? (·.name == "internal/reflectlite" ++ ".Swapper$" ++ toString (swapperK 0 impl_byLabels.sE 25))=some (145-8))⟩
  exact⟨_,(by kernel_rfl:Tryz.prog.funcs.findIdx? (·.name == "internal/reflectlite" ++ ".Swapper$" ++ toString (swapperK 1 impl_byLabels.sE 25))=some (145-7))⟩
 obtain⟨f,hf⟩:=sw
 exact Any.sort_SliceStable_tiny Tryz.laysGt8 40 29 impl_byLabels.sT impl_byLabels.sE (by kernel_rfl) (by kernel_rfl) (by kernel_rfl) (by kernel_rfl) 25 (fun _=>by kernel_rfl) a n c hn f hf (.func 111) #[] la w
theorem impl_byLabels.out_tiny (l:List S29) (h:l.length≤1):impl_byLabels.out l=l:=by
 have e:∀(d:Array Nat),Stable.stable (impl_byLabels.ltn l) d l.length=d:=fun d=>by
  unfold Stable.stable
  rw[Stable.stBlocks,if_neg (by omega),Stable.stOuter,if_neg (by omega)]
  unfold insertionSort
  rw[insOuter,if_neg (by omega)]
 unfold impl_byLabels.out
 rw[e]
 match l,h with
 | [],_=>rfl
 | [x],_=>rfl
/-- What the sort leaves: the row in its order, all else as it was. -/
theorem impl_byLabels.sorts (k:Nat) (P0_:Nat→Prop) (g c:Nat) (d:List S29) (base:Nat) (w:World) (ho:Kd.S k29 29 w base P0_ (.slice (some ⟨g,0,none⟩) d.length c) d) (h2:2≤d.length)
  (hq:∀x∈d,∀y∈d,(impl_SetLess.f k x.f0 y.f0).isSome=true) (hsz:d.length<1152921504606846976) (hO:SWO (impl_byLabels.ltn d)) :
  Calls Tryz.prog 110 #[.iface 40 (.slice (some ⟨g,0,none⟩) d.length c),.func (.func 111) #[] #[.pointer (some ⟨w.heap.size,0,none⟩)]] (w.alloc (.cells #[.slice (some ⟨g,0,none⟩) d.length c] 40)) fun e w'=>
   e=.returned (.tuple #[])∧w'.cell? ⟨w.heap.size,0,none⟩=some (.slice (some ⟨g,0,none⟩) d.length c)∧Kd.S k29 29 w' base P0_ (.slice (some ⟨g,0,none⟩) d.length c) (impl_byLabels.out d) ∧
   (∀b,b≠g→b<w.heap.size→w'.heap[b]?=w.heap[b]?)∧w.heap.size≤w'.heap.size∧w'.os=w.os∧w'.tape=w.tape∧w'.output=w.output∧base≤g∧P0_ g:=by
 have hP0:P0_ g:=(Kd.S_R ho).1 g rfl
 obtain⟨inner,cur,okj,-,hil,hh,hcs,hct,hg,hap,hok,hM,hback⟩:=S_cells ho
 have hgl:g<w.heap.size:=blk_lt hh
 change inner.length=d.length*4 at hil
 change d.length*4≤cur.size at hcs
 change cur.toList.take (d.length*4)=inner at hct
 let ej:Nat→Nat:=fun j=>if j<d.length then j else 0
 have hej:∀j,ej j<d.length:=fun j=>by show (if j<d.length then j else 0)<_;split<;>omega
 have hel:∀j,d[ej j]?=some (impl_byLabels.at_ d j):=fun j=>by
  unfold impl_byLabels.at_
  rw[List.getElem?_eq_getElem (hej j),List.getD_eq_getElem?_getD,List.getElem?_eq_getElem (hej j)];rfl
 have hmem:∀j,impl_byLabels.at_ d j∈d:=fun j=>List.mem_of_getElem? (hel j)
 let enc:Nat→List Value:=fun j=>(inner.drop (ej j*4)).take 4
 have hk:∀j,(enc j).length=4:=fun j=>by
  show ((inner.drop (ej j*4)).take 4).length=4
  have:=hej j
  rw[List.length_take,List.length_drop,hil];omega
 have hMe:∀j,k29.M w base (okj (ej j)) (impl_byLabels.at_ d j) (enc j):=fun j=>hM _ _ (hel j)
 have hone:∀j,∀v∈enc j,v.oneCell'=true:=fun j=>k29.K_one (k29.K_of_M (hMe j))
 have hd:(Array.range d.length).size=d.length:=by simp
 have hcell:∀t,t<d.length*4→w.cell? ⟨g,t,none⟩=some inner[t]!:=fun t ht=>by
  rw[blk_cell hh,getElem!_pos inner t (by omega),Array.getElem?_eq_getElem (by omega)]
  have:=List.getElem_take (xs:=cur.toList) (j:=d.length*4) (i:=t) (h:=by rw[hct,hil];exact ht)
  simp only[hct] at this
  rw[this];rfl
 have hH:HoldsK enc 4 w g 0 (Array.range d.length):=by
  intro t ht
  rw[size_flatK,hd] at ht
  refine⟨?_,by rw[Nat.zero_add];exact blk_frozen hh t⟩
  rw[Nat.zero_add,hcell t ht]
  show some _=some (flatK enc 4 (Array.range d.length))[t]!
  rw[get_flatK _ _ _ _ (by rw[hd];exact ht)]
  have hq4:t / 4<d.length:=by omega
  rw[show (Array.range d.length)[t / 4]! = t / 4 by simp[hq4]]
  show _=some ((inner.drop (ej (t / 4)*4)).take 4)[t%4]!
  rw[show ej (t / 4)=t / 4 from if_pos hq4,getElem!_pos _ (t%4) (by simp[hil];omega),List.getElem_take,List.getElem_drop,getElem!_pos inner t (by omega)]
  congr 2;omega
 have hwb:∀o,w.alloc o=grow w #[o]:=fun o=>alloc_eq_grow w o
 have hH1:HoldsK enc 4 (w.alloc (.cells #[.slice (some ⟨g,0,none⟩) d.length c] 40)) g 0 (Array.range d.length):=by rw[hwb];exact holdsK_grow enc 4 w _ g 0 _ hgl hH
 have hg1:g<(w.alloc (.cells #[.slice (some ⟨g,0,none⟩) d.length c] 40)).heap.size:=by rw[hwb,size_grow];omega
 have hbs:w.heap.size<(w.alloc (.cells #[.slice (some ⟨g,0,none⟩) d.length c] 40)).heap.size:=by rw[hwb,size_grow];simp
 have q:(w.alloc (.cells #[.slice (some ⟨g,0,none⟩) d.length c] 40)).cell? ⟨w.heap.size,0,none⟩=some (.slice (some ⟨g,0,none⟩) d.length c):=by simp
 have hheap:∀m dk os b,b≠g→b<w.heap.size→(sortWorldK enc 4 (w.alloc (.cells #[.slice (some ⟨g,0,none⟩) d.length c] 40)) g 0 m dk os).heap[b]?=w.heap[b]?:=fun m dk os b hb hl=>by
  rw[heap_sw enc 4 _ g 0 m dk os b hb (by omega),Below.heap_alloc w _ b hl]
 have hboxw:∀m dk os,(sortWorldK enc 4 (w.alloc (.cells #[.slice (some ⟨g,0,none⟩) d.length c] 40)) g 0 m dk os).cell? ⟨w.heap.size,0,none⟩=some (.slice (some ⟨g,0,none⟩) d.length c):=fun m dk os=>by
  rw[World.cell?_of_block (heap_sw enc 4 _ g 0 m dk os w.heap.size (by omega) hbs)];exact q
 have hless:LessReadsK Tryz.prog 111 #[.pointer (some ⟨w.heap.size,0,none⟩)] enc 4 (impl_byLabels.ltn d) g 0 (Array.range d.length).size (w.alloc (.cells #[.slice (some ⟨g,0,none⟩) d.length c] 40)):=by
  intro m os dk hs i j hi hj
  have hHw:HoldsK enc 4 (sortWorldK enc 4 (w.alloc (.cells #[.slice (some ⟨g,0,none⟩) d.length c] 40)) g 0 m dk os) g 0 dk:=
   (Stable.SWK.on (Stable.SWK.start hH1) hg1 m dk os hs).holds hg1 hH1 hs
  have row:∀t:Nat,∃n p,(sortWorldK enc 4 (w.alloc (.cells #[.slice (some ⟨g,0,none⟩) d.length c] 40)) g 0 m dk os).cell? ⟨g,t*4,none⟩=some (.slice n (impl_byLabels.at_ d dk[t]!).f0.length p)∧(impl_byLabels.at_ d dk[t]!).f0.length≤p ∧
    Kd.C k99 (sortWorldK enc 4 (w.alloc (.cells #[.slice (some ⟨g,0,none⟩) d.length c] 40)) g 0 m dk os) n (impl_byLabels.at_ d dk[t]!).f0.length (impl_byLabels.at_ d dk[t]!).f0∨dk.size≤t:=fun t=>by
   by_cases ht:t<dk.size
   ·
    obtain⟨z,hv,hR⟩:=k29_openM (hMe dk[t]!)
    have hR2:=Kd.R_step hR (fun b hb hl=>hheap m dk os b (hok _ b hb).2 hl)
    obtain⟨n,p,rfl,r,hC⟩:=Kd.R_reads hR2
    have:=(hHw.cell ht (show 0<4 by decide)).1
    rw[hv] at this
    refine⟨n,p,Or.inl ⟨by simpa using this,r,hC⟩⟩
   exact⟨none,0,Or.inr (by omega)⟩
  rw[hd] at hi hj hs
  obtain⟨n,p,⟨ci,li,Ci⟩|hx⟩:=row i
  ·
   obtain⟨s,u,⟨cj,lj,Cj⟩|hx⟩:=row j
   ·
    obtain⟨v,hv⟩:=Option.isSome_iff_exists.1 (hq _ (hmem dk[i]!) _ (hmem dk[j]!))
    have hlt:impl_byLabels.ltn d dk[i]! dk[j]! = v:=impl_byLabels.lt_eq hv
    rw[hlt]
    exact impl_byLabels.lit k w.heap.size g d.length c i j _ n p _ s u _ v (hboxw m dk os) hi hj hsz ci cj Ci li Cj lj hv
   omega
  omega
 have hS:=Stable.sliceStable_cells Tryz.laysGt8 40 29 impl_byLabels.sT impl_byLabels.sE (by kernel_rfl) (by kernel_rfl) (by kernel_rfl) (by kernel_rfl) 25 (fun _=>by kernel_rfl) enc 4 hk (by kernel_rfl) (fun _=>by kernel_rfl) hone (impl_byLabels.ltn d) 111 _
  (enters_of Tryz.func111 (by kernel_rfl) rfl) g 0 c (Array.range d.length) (by rw[hd];exact h2) (by rw[hd];exact hsz) 145 (by rw[hd,impl_byLabels.sK _ h2];kernel_rfl) false
  (fun args W=>run_callFunc_extern Tryz.func145 (by kernel_rfl) (by kernel_rfl) (by kernel_rfl) (e:=Extern.ReflectliteSwapper.swap false) (by kernel_rfl) args W) _ hless hH1 hg1
 rw[hd] at hS
 refine hS.mono ?_
 rintro e w' ⟨rfl,m,os,rfl⟩
 obtain⟨s1,s2,-⟩:=Stable.stable_spec hO (Array.range d.length)
 rw[hd] at s1 s2
 generalize hdk:Stable.stable (impl_byLabels.ltn d) (Array.range d.length) d.length=dk at *
 have hlt:∀j∈dk.toList,j<d.length:=fun j hj=>by
  have:=(s2.mem hO j).1 hj;simpa using this
 have hnd:dk.toList.Nodup:=by
  rw[List.nodup_iff_count]
  intro x
  have e:∀l:List Nat,(l.filter (Stable.eqv (impl_byLabels.ltn d) x)).count x=l.count x:=fun l=>List.count_filter (by simp[Stable.eqv,hO.irrefl])
  rw[←e,s2 x,e]
  have:((Array.range d.length).toList).Nodup:=by simpa using List.nodup_range
  exact List.nodup_iff_count.1 this x
 have hgt:∀t,t<d.length→dk[t]!∈dk.toList:=fun t ht=>by
  rw[getElem!_pos dk t (by omega)];exact Array.getElem_mem_toList _
 have hhw:(w.alloc (.cells #[.slice (some ⟨g,0,none⟩) d.length c] 40)).heap[g]?=some (.cells cur 29 (0,0)):=by rw[Below.heap_alloc w _ g hgl];exact hh
 have hw':=heap_sw_self enc 4 (w.alloc (.cells #[.slice (some ⟨g,0,none⟩) d.length c] 40)) g 0 m dk os hhw
 refine⟨rfl,hboxw m dk os,?_,fun b hb hl=>hheap m dk os b hb hl,Nat.le_trans (by omega) (size_sw enc 4 (w.alloc (.cells #[.slice (some ⟨g,0,none⟩) d.length c] 40)) g 0 m dk os),rfl,rfl,rfl,hg,hP0⟩
 have hfs:(flatK enc 4 dk).size=d.length*4:=by rw[size_flatK,s1]
 refine hback _ _ (flatK enc 4 dk).toList _ (fun t k_=>t<d.length∧okj (ej dk[t]!) k_) ?_ hw' (by simp[putCells]) ?_ ?_ ?_ ?_
 ·
  unfold impl_byLabels.out;rw[hdk];simp[s1]
 ·
  show (putCells id 0 (flatK enc 4 dk) cur).toList.take (d.length*4)=_
  rw[←hfs];exact take_putCells _ _ (by omega)
 ·
  rintro i j k_ ⟨hi,a⟩ ⟨hj,b⟩
  have e:=hap _ _ _ a b
  have ei:ej dk[i]! = dk[i]!:=if_pos (hlt _ (hgt i hi))
  have ejj:ej dk[j]! = dk[j]!:=if_pos (hlt _ (hgt j hj))
  rw[ei,ejj,getElem!_pos dk i (by omega),getElem!_pos dk j (by omega)] at e
  exact(List.getElem_inj (h₀:=by simp;omega) (h₁:=by simp;omega) hnd).1 (by simpa using e)
 ·
  rintro j k_ ⟨-,a⟩;exact hok _ _ a
 intro t y hy
 unfold impl_byLabels.out at hy
 rw[hdk,List.getElem?_map] at hy
 obtain⟨x,hx,rfl⟩:=Option.map_eq_some_iff.1 hy
 have ht:t<d.length:=by
  have:=(List.getElem?_eq_some_iff.1 hx).1;simp at this;omega
 have hx':x=dk[t]!:=by
  rw[getElem!_pos dk t (by omega)]
  have:=(List.getElem?_eq_some_iff.1 hx).2;rw[←this];simp
 subst hx'
 show k29.M _ base _ _ (((flatK enc 4 dk).toList.drop (t*4)).take 4)
 rw[chunk_flatK enc 4 hk dk t (by omega)]
 exact k29.M_mono (fun k_ hk_=>⟨ht,hk_⟩) (Kd.M_step (hMe dk[t]!) (fun b hb hl=>hheap m dk os b (hok _ b hb).2 hl))
set_option maxHeartbeats 4000000 in
theorem impl_byLabels.calls (k:Nat) (P0_:Nat→Prop) (v:Value) (d:List S29) (r:List S29) (l w:World) (hB:Below l.heap.size l w) (j:Kd.S k29 29 w l.heap.size P0_ v d) (h:impl_byLabels.f k d=some r) :
  Calls Tryz.prog 85 #[v] w fun e w'=>∃v_,e=.returned v_∧Kd.S k29 29 w' l.heap.size P0_ v_ r∧Below l.heap.size l w'∧Kept w w' (fun k_=>P0_ k_):=by
 unfold impl_byLabels.f at h
 split at h
 rotate_left
 ·
  cases h
 rename_i hc
 injection h with h
 subst h
 obtain⟨hq,hsz,hO⟩:=hc
 obtain⟨m,c,rfl⟩:=Kd.S_slice j
 have post:∀w':World,Kd.S k29 29 w' l.heap.size P0_ (.slice m d.length c) (impl_byLabels.out d)→(∀b,¬(l.heap.size≤b∧P0_ b)→b<w.heap.size→w'.heap[b]?=w.heap[b]?)→w.heap.size≤w'.heap.size→w'.os=w.os→w'.tape=w.tape→w'.output=w.output →
   Kd.S k29 29 w' l.heap.size P0_ (.slice m d.length c) (impl_byLabels.out d)∧Below l.heap.size l w'∧Kept w w' (fun k_=>P0_ k_):=fun w' a b s o t u=>
  ⟨a,⟨o.trans hB.os,t.trans hB.tape,u.trans hB.output,Nat.le_trans hB.size s,fun k_ hk_=>(b k_ (fun e_=>by omega) (Nat.lt_of_lt_of_le hk_ hB.size)).trans (hB.block k_ hk_)⟩,s,fun i hi hn=>b i (fun e_=>hn e_.2) hi⟩
 by_cases h2:2≤d.length
 ·
  obtain⟨g,cap,hv,-,-,-⟩:=Kd.S_form j (by omega)
  injection hv with n _ p
  subst n p
  have hS:=impl_byLabels.sorts k P0_ g c d l.heap.size w j h2 hq hsz hO
  have HP:=M_ post
  clear post j hB hq hO
  go_enter Tryz.func85,Tryz.ntmps85
  go_wp2_with (go_at_call 110;refine hS.mono ?_;rintro e w' ⟨rfl,hbx,hp⟩)
  go_ret
  obtain⟨a,b,s,o,t,u,hg,hP⟩:=hp
  exact⟨_,rfl,HP.out _ a (fun k_ hk_ hl_=>b k_ (fun e_=>hk_ (e_▸⟨hg,hP⟩)) hl_) s o t u⟩
 have hS:=impl_byLabels.tiny m d.length c (by omega) #[.pointer (some ⟨w.heap.size,0,none⟩)] (w.alloc (.cells #[.slice m d.length c] 40))
 have hb:∀os b,b<w.heap.size→(grow (w.alloc (.cells #[.slice m d.length c] 40)) os).heap[b]?=w.heap[b]?:=fun os b hb=>by
  rw[alloc_eq_grow,grow_grow];exact Array.getElem?_append_left hb
 have hbx:∀os,(grow (w.alloc (.cells #[.slice m d.length c] 40)) os).cell? ⟨w.heap.size,0,none⟩=some (.slice m d.length c):=fun os=>by
  rw[cell?_grow _ _ _ (by rw[alloc_eq_grow,size_grow];simp)];simp
 have HS:=M_ j
 have HP:=M_ post
 have HO:=M_ (impl_byLabels.out_tiny d (by omega))
 have hS':Calls Tryz.prog 110 #[.iface 40 (.slice m d.length c),.func (.func 111) #[] #[.pointer (some ⟨w.heap.size,0,none⟩)]] (w.alloc (.cells #[.slice m d.length c] 40)) fun e w'=>e=.returned (.tuple #[])∧w'.cell? ⟨w.heap.size,0,none⟩=some (.slice m d.length c)∧∃os,w'=grow (w.alloc (.cells #[.slice m d.length c] 40)) os:=
  hS.mono fun e w' ⟨he,os,hw⟩=>⟨he,hw▸hbx os,os,hw⟩
 have HBX:=M_ hb
 clear post j hB hq hO hS hbx hb
 go_enter Tryz.func85,Tryz.ntmps85
 go_wp2_with (go_at_call 110;refine hS'.mono ?_;rintro e w' ⟨rfl,hbx,hp⟩)
 go_ret
 obtain⟨os,rfl⟩:=hp
 refine⟨_,rfl,HP.out _ ?_ (fun k_ _ hl_=>HBX.out os k_ hl_) ?_ rfl rfl rfl⟩
 ·
  rw[HO.out];exact Kd.S_step HS.out (fun b _ hl=>HBX.out os b hl)
 rw[alloc_eq_grow,grow_grow,size_grow];omega
end
noncomputable def impl_AllAlarms.l0:Nat→List S29→List S26→Int→Int→Option ((List S29))
 | 0,_,_,_,_=>none
 | k+1,e,c,g,b=>if b<g then (if 0≤b then (if b<(c.length:Int) then ((impl_AlarmsIn.f k ((rd_T26 c b).f0) ((rd_T26 c b).f1) ((rd_T26 c b).f2)).bind fun a=>(if e.length+a.length<2513169434916 then (impl_AllAlarms.l0 k (e++a) c g (wrap64 (b+1))) else (none))) else (none)) else (none)) else ((impl_byLabels.f k e).bind fun d=>(some d))
noncomputable def impl_AllAlarms.f (k:Nat) (l0:List S26):Option ((List S29)):=impl_AllAlarms.l0 k ([]:List S29) l0 (l0.length:Int) 0
theorem impl_AllAlarms.calls (k:Nat) (A0:Option Addr) (c0:Nat) (l0:List S26) (r:List S29) (w:World) (O:Kd.C k26 w A0 l0.length l0) (P:l0.length≤c0) (h:impl_AllAlarms.f k l0=some r) :
  Calls Tryz.prog 31 #[.slice A0 l0.length c0] w fun e w'=>∃v0_:Value,e=.returned (v0_)∧Kd.S k29 29 w' w.heap.size (fun _=>True) v0_ r∧Below w.heap.size w w':=by
 have hu26:=Tryz.underlying26
 have da:=M_ O
 have ya:=M_ P
 clear O P
 have l:=M_ (Below.refl w.heap.size w)
 unfold impl_AllAlarms.f at h
 have H:=h;clear h
 have H':=M_ H
 clear H
 go_enter Tryz.func31,Tryz.ntmps31
 go_wp2
 go_loopg [3,8] k (fun kq v3 v8 w'=>∃(i:List S29) (a:Int),v8=.int .i64 a∧Aside0 (impl_AllAlarms.l0 kq i l0 (l0.length:Int) a=some r)∧Aside0 (kq≤k)∧Aside0 (Kd.S k29 29 w' w.heap.size (fun _=>True) v3 i)∧Aside0 (Below w.heap.size w w'))
 case atStart=>exact⟨(([]:List S29)),(0),rs_,H',⟨Nat.le_refl _⟩,⟨ni_⟩,⟨hs_ l.1⟩⟩
 case round=>
  clear H'
  obtain⟨i,a,rfl,HA,Q,c,l⟩:=hrel
  cases gk with
  | zero=>exact absurd HA.1 (by simp[impl_AllAlarms.l0])
  | succ k1=>
   have H:=HA.1
   clear HA
   simp only[impl_AllAlarms.l0] at H
   replace H:=ie_ H;rcases H with⟨R,H⟩|⟨R,H⟩
   ·
    have T:=decide_eq_true R
    clear R
    replace H:=i2_ H;obtain⟨la,ma,H⟩:=H
    replace H:=bi_ H;obtain⟨v,A5,H⟩:=H
    replace H:=im_ H;obtain⟨U,H⟩:=H
    obtain⟨F,hy_⟩:∃y_:List S29,y_=(i++v):=⟨_,rfl⟩
    replace H:(impl_AllAlarms.l0 k1 F l0 (l0.length:Int) (wrap64 (a+1)))=some r:=hm_
    have J:=M_ hy_;clear hy_
    have H':=M_ H
    clear H
    obtain⟨x,y⟩:0≤(a:Int)∧a<(l0.length:Int):=pq_
    obtain⟨fa,q,s,V,g,j,m,n,o⟩:=at_T26 da.1 a x y
    cases V
    replace g:=c2_ l g j;clear j;obtain⟨g,j⟩:=g
    replace m:=cl_ l.1 m
    have z:=M_ o
    have A:=M_ n
    clear o n
    replace x:=eq_true x;replace y:=eq_true y
    go_wp2_with (first|((with_reducible refine gd_ 5 rfl ?_);refine bV_ 5 #[.int .i64 0,.int .i64 0,.slice none 0 0] 26 ?_;intro ga hg w7 d hb;replace c:=sb_ c hb;have ha:=gq_ hg l;replace l:=st_ l hb;clear hb hg;obtain⟨na,oa,pa,qa,ra,sa⟩:=bc3_ d.1)|((with_reducible refine gate_callee (f:=25) rfl ?_);refine gl_ (some 14) Tryz.func25 #[.agg #[.int .i64 ((rd_T26 l0 a).f0),.int .i64 ((rd_T26 l0 a).f1),.slice q ((rd_T26 l0 a).f2).length s]] ?_;(with_reducible refine(impl_AlarmsIn.calls k1 ((rd_T26 l0 a).f0) ((rd_T26 l0 a).f1) _ _ ((rd_T26 l0 a).f2) v _ ?_ ?_ A5.1).mono ?_);exact Kd.C_below z.1 (hs_ l.1);exact A.1;rintro e w9 ⟨ta,rfl,u,hb⟩;refine⟨_,rfl,?_⟩;obtain⟨ba,B⟩:=Kd.S_name u;replace c:=su_ B (sy_ c.1 d.1) hb;have p:=sg_ B u l;replace d:=by_ d #[.int .i64 ((rd_T26 l0 a).f0),.int .i64 ((rd_T26 l0 a).f1),.slice q ((rd_T26 l0 a).f2).length s] hb;replace l:=st_ l hb;(try clear hb u);obtain⟨ua,va,W⟩:=Kd.S_slice p.1;subst W;obtain⟨K,D,t⟩:=Kd.S_fp ((Kd.S_mono p.1 (fun k_ hk=>(⟨hk,fun ez_=>Nat.lt_irrefl _ (Nat.lt_of_lt_of_le ((Kd.S_R c.1).1 _ ez_.symm).2 hk.2)⟩:_∧some k_≠(u3:Value).ownBlock)))))|((with_reducible refine gate_builtin (b:=.append) (xs:=#[.tmp 12,.tmp 14]) rfl ?_);at_builtin;refine Kd.S_append_rows k29 (w0:=w) w.heap.size rfl (.tmp 12) (.tmp 14) 40 29 (.agg #[(.slice none 0 0),(.int .i64 0),(.int .i64 0),(.string ⟨#[]⟩)]) 56 rfl Tryz.underlying40 info29 rfl (by decide) (by omega) u3 i v _ _ _ (fun _=>True) K rfl rfl ?aR (fun k_ hk_=>⟨trivial,(t k_ hk_).1.2⟩) ?aF ?aO ?aB ?aS ?aL ?_;(case aR=>exact D);(case aB=>exact(hs_ l.1));(case aF=>exact(fun _ _=>trivial));(case aO=>exact(Kd.S_mono (sp_ c.1) (fun k_ hk=>⟨trivial,fun e_=>(fun ez_=>Nat.lt_irrefl _ (Nat.lt_of_lt_of_le hk.2 (t _ ez_).1.1.2)) e_⟩)));(case aS=>exact(below_size (hs_ l.1)));(case aL=>have:=U.1;omega);intro wa Da ho hb hg hat;rw[←J.1] at ho;replace d:=bg_ d hg c;replace l:=M_ (hb);have L:=M_ (ho);clear c p;clear ho hb hg hat))
    go_roundg k1
    case measure=>have:=Q.1;omega
    case rel=>exact⟨(F),(wrap64 (a+1)),rs_,H',⟨by have:=Q.1;omega⟩,⟨sp_ L.1⟩,⟨hs_ l.1⟩⟩
   have T:decide (a<(l0.length:Int))=false:=decide_eq_false R
   clear R
   replace H:=bi_ H;obtain⟨X,ia,H⟩:=H
   obtain rfl:=Option.some.inj H
   obtain⟨G,I,Y⟩:=Kd.S_slice c.1
   subst Y
   obtain⟨M,E,ca⟩:=Kd.S_fp c.1
   go_wp2_with (first|((with_reducible refine gate_callee (f:=85) rfl ?_);refine gl_ (some 18) Tryz.func85 #[.slice G i.length I] ?_;(with_reducible refine(impl_byLabels.calls k1 M (.slice G i.length I) i X w _ ?_ ?_ ia.1).mono ?_);exact hs_ l.1;exact E;rintro e Ea ⟨xa,rfl,u,hb,hkp⟩;refine⟨_,rfl,?_⟩;have N:=M_ (Kd.S_mono (ok':=fun k_=>True) u (fun k_ hk_=>trivial));have Z:=M_ (hb);clear l c;have l:=Z;clear Z;(try clear hb);(try clear hkp);(try clear u)))
   go_ret
   exact⟨_,rr_,sp_ N.1,hs_ l.1⟩
def impl_AlarmOk.f (k:Nat) (a:List S99) (b:Int) (c:Int) (d:ByteArray):Option (Bool):=if (a.length:Int)>0 then ((impl_SetOk.f k a).bind fun e=>(if e=true then ((impl_in.f b 0 99999).bind fun g=>(if g=true then ((impl_in.f c b 99999).bind fun h=>(if h=true then ((impl_PlainOk.f k d).bind fun i=>(some i)) else (some false))) else (some false))) else (some false))) else (some false)
theorem impl_AlarmOk.calls (k:Nat) (j:Option Addr) (l:Nat) (a:List S99) (c:Int) (d:Int) (g:ByteArray) (r:Bool) (w:World) (m:Kd.C k99 w j a.length a) (n:a.length≤l) (h:impl_AlarmOk.f k a c d g=some r) :
  Calls Tryz.prog 106 #[.agg #[.slice j a.length l,.int .i64 c,.int .i64 d,.string g]] w fun e w'=>e=.returned (.bool r)∧Below w.heap.size w w':=by
 have hu29:=Tryz.underlying29
 have o:=M_ m
 have p:=M_ n
 clear m n
 have i:=M_ (Below.refl w.heap.size w)
 unfold impl_AlarmOk.f at h
 have H:=h;clear h
 have AHz_:=M_ H
 clear H
 go_enter Tryz.func106,Tryz.ntmps106
 go_wp2_with (first|(((with_reducible refine gd_ 1 rfl ?_);refine bV_ 1 #[.slice j a.length l,.int .i64 c,.int .i64 d,.string g] 29 ?_;intro x hg W b hb;have y:=gq_ hg i;replace i:=st_ i hb;clear hb hg;obtain⟨z,A,B,D,E,F,G,I⟩:=bc4_ b.1);refine Aside0.out ?_))
 have H:=AHz_.1
 clear AHz_
 replace H:=ie_ H;rcases H with⟨q,H⟩|⟨q,H⟩
 ·
  have s:decide (0<(a.length:Int))=true:=decide_eq_true q
  have t:decide (0<a.length)=true:=decide_eq_true (by omega)
  clear q
  replace H:=bi_ H;obtain⟨S,T,H⟩:=H
  replace H:=ib_ H;rcases H with⟨rfl,H⟩|⟨rfl,H⟩
  ·
   replace H:=bi_ H;obtain⟨u,X,H⟩:=H
   have AHz_:=M_ H
   clear H
   refine⟨?_⟩
   go_wp2_with (first|(go_at_call 116;(with_reducible refine(impl_SetOk.calls k _ _ a true _ ?_ ?_ T.1).mono ?_);exact cp_ ((Kd.C_below o.1 i.1));exact p.1;rintro e Y ⟨rfl,hb⟩;obtain⟨b,i⟩:=u2_ hb b i;(try clear hb);obtain⟨J,K,L,M,N,O,P,Q⟩:=bc4_ b.1)|((go_at_call 75;(with_reducible refine(impl_in.calls c 0 99999 u _ X.1).mono ?_);rintro e w' ⟨rfl,⟨R,rfl⟩⟩);refine Aside0.out ?_))
   have H:=AHz_.1
   clear AHz_
   replace H:=ib_ H;rcases H with⟨rfl,H⟩|⟨rfl,H⟩
   ·
    replace H:=bi_ H;obtain⟨U,V,H⟩:=H
    replace H:=ib_ H;rcases H with⟨rfl,H⟩|⟨rfl,H⟩
    ·
     replace H:=bi_ H;obtain⟨v,Z,H⟩:=H
     obtain rfl:=Option.some.inj H
     refine⟨?_⟩
     go_wp2_with (first|(go_at_call 75;(with_reducible refine(impl_in.calls d c 99999 true _ V.1).mono ?_);rintro e w' ⟨rfl,⟨R,rfl⟩⟩)|(go_at_call 121;(with_reducible refine(impl_PlainOk.calls k g v _ Z.1).mono ?_);rintro e w' ⟨rfl,⟨R,rfl⟩⟩))
     go_ret
     exact an_ (hs_ i.1)
    obtain rfl:=Option.some.inj H
    refine⟨?_⟩
    go_wp2_with (first|(go_at_call 75;(with_reducible refine(impl_in.calls d c 99999 false _ V.1).mono ?_);rintro e w' ⟨rfl,⟨R,rfl⟩⟩))
    go_ret
    exact an_ (hs_ i.1)
   obtain rfl:=Option.some.inj H
   refine⟨?_⟩
   go_wp2
   go_ret
   exact an_ (hs_ i.1)
  obtain rfl:=Option.some.inj H
  refine⟨?_⟩
  go_wp2_with (first|(go_at_call 116;(with_reducible refine(impl_SetOk.calls k _ _ a false _ ?_ ?_ T.1).mono ?_);exact cp_ ((Kd.C_below o.1 i.1));exact p.1;rintro e aa ⟨rfl,hb⟩;obtain⟨b,i⟩:=u2_ hb b i;(try clear hb)))
  go_ret
  exact an_ (hs_ i.1)
 have s:decide (0<(a.length:Int))=false:=decide_eq_false q
 have t:decide (0<a.length)=false:=decide_eq_false (by omega)
 clear q
 obtain rfl:=Option.some.inj H
 refine⟨?_⟩
 go_wp2
 go_ret
 exact an_ (hs_ i.1)
def impl_labelsApart.l0:Nat→List S29→List S29→Int→Int→Option (Bool)
 | 0,_,_,_,_=>none
 | k+1,c,d,e,a=>if a<e then (if 0≤a then (if a<(d.length:Int) then (if a≤(c.length:Int) then ((impl_labelsAt.f k (c.take (a:Int).toNat) ((rd_T29 d a).f0)).bind fun b=>(if b≥0 then (some false) else (impl_labelsApart.l0 k c d e (wrap64 (a+1))))) else (none)) else (none)) else (none)) else (some true)
def impl_labelsApart.f (k:Nat) (l0:List S29):Option (Bool):=impl_labelsApart.l0 k l0 l0 (l0.length:Int) 0
theorem impl_labelsApart.calls (k:Nat) (A0:Option Addr) (F:Nat) (l0:List S29) (r:Bool) (w:World) (G:Kd.C k29 w A0 l0.length l0) (I:l0.length≤F) (h:impl_labelsApart.f k l0=some r) :
  Calls Tryz.prog 107 #[.slice A0 l0.length F] w fun e w'=>e=.returned (.bool r)∧Below w.heap.size w w':=by
 have hu29:=Tryz.underlying29
 have J:=M_ G
 have Y:=M_ I
 clear G I
 have j:=M_ (Below.refl w.heap.size w)
 unfold impl_labelsApart.f at h
 have H:=h;clear h
 have H':=M_ H
 clear H
 go_enter Tryz.func107,Tryz.ntmps107
 go_wp2
 go_loopg [7] k (fun kq v7 w'=>∃(a:Int),v7=.int .i64 a∧Aside0 (impl_labelsApart.l0 kq l0 l0 (l0.length:Int) a=some r)∧Aside0 (kq≤k)∧Aside0 (Below w.heap.size w w'))
 case atStart=>exact⟨(0),rs_,H',⟨Nat.le_refl _⟩,⟨hs_ j.1⟩⟩
 case round=>
  clear H'
  obtain⟨a,rfl,Z,L,j⟩:=hrel
  cases gk with
  | zero=>exact absurd Z.1 (by simp[impl_labelsApart.l0])
  | succ X=>
   have H:=Z.1
   clear Z
   simp only[impl_labelsApart.l0] at H
   replace H:=ie_ H;rcases H with⟨M,H⟩|⟨M,H⟩
   ·
    have O:=decide_eq_true M
    clear M
    replace H:=i2_ H;obtain⟨ma,na,H⟩:=H
    have oa:=eq_true (of_decide_eq_true (by with_reducible assumption):0≤a)
    replace H:=in_ H;obtain⟨c6,H⟩:=H
    have pa:=eq_true c6
    have qa:=decide_eq_true c6
    clear c6
    obtain⟨l,hy_⟩:∃y_:List S29,y_=(l0.take (a:Int).toNat):=⟨_,rfl⟩
    replace H:((impl_labelsAt.f X l ((rd_T29 l0 a).f0)).bind fun o=>(if o≥0 then (some false) else (impl_labelsApart.l0 X l0 l0 (l0.length:Int) (wrap64 (a+1)))))=some r:=hm_
    have s:=M_ hy_;clear hy_
    replace H:=bi_ H;obtain⟨o,A7,H⟩:=H
    have AHz_:=M_ H
    clear H
    obtain⟨p,d,g,Q,R,T,U,V,t,u,ra,sa⟩:=au_T29 J.1 j a
    cases Q
    try go_wp2_with (first|((with_reducible refine gd_ 4 rfl ?_);refine bV_ 4 #[.slice none 0 0,.int .i64 0,.int .i64 0,.string (⟨#[]⟩:ByteArray)] 29 ?_;intro c hg w9 b hb;have ba:=gq_ hg j;replace j:=st_ j hb;clear hb hg;obtain⟨ca,da,ea,fa,ga,ha,ia,ja⟩:=bc4_ b.1))
    generalize hw_:((((w9.setCell ⟨c,0,none⟩ (.slice d ((rd_T29 l0 a).f0).length g)).setCell ⟨c,1,none⟩ (.int .i64 ((rd_T29 l0 a).f1))).setCell ⟨c,2,none⟩ (.int .i64 ((rd_T29 l0 a).f2))).setCell ⟨c,3,none⟩ (.string ((rd_T29 l0 a).f3)))=ka
    replace b:=wp_ hw_ #[.slice d ((rd_T29 l0 a).f0).length g,.int .i64 ((rd_T29 l0 a).f1),.int .i64 ((rd_T29 l0 a).f2),.string ((rd_T29 l0 a).f3)] b
    replace j:=wb_ hw_ j
    clear hw_
    obtain⟨b,j⟩:=y2_ b j
    have D:(a:Int)≤((l0.length:Int):Int):=of_decide_eq_true (by with_reducible assumption)
    obtain⟨i013,x,_,hsz13,_⟩:=info_parts info29
    have hroom13:l0.length≤F:=Y.1
    have hC13:Kd.C k29 _ (some p) l0.length l0:=J.1
    have hcut13:=cut_to (P:=Tryz.prog) 40 29 .i64 Tryz.underlying40 x (some p) l0.length F a (of_decide_eq_true (by with_reducible assumption)) D hroom13
    have y:=Kd.C_take (m:=(a:Int).toNat) hC13 (by omega)
    have z:l.length=(a:Int).toNat:=(by rw[s.1,List.length_take];omega)
    rw[←s.1] at y
    rw[←z] at hcut13
    have A:=M_ y
    have E:=M_ (show l.length≤F from by omega)
    clear y hC13 hroom13 x hsz13
    have KY13:=M_ z
    clear z
    replace D:=eq_true D
    refine start_ (n:=7) (S:=fun w'=>c_ w' c 0 (.slice d ((rd_T29 l0 a).f0).length g)∧c_ w' c 1 (.int .i64 ((rd_T29 l0 a).f1))∧c_ w' c 2 (.int .i64 ((rd_T29 l0 a).f2))∧c_ w' c 3 (.string ((rd_T29 l0 a).f3))) (ds:=[]) (b_ 0 7) (by kernel_rfl) rfl rfl (e4_ b.1) (fun q=>?_)
    generalize ka.drew=wa at b j A q ⊢
    refine pure_ (i:=0) (N:=some 12) (v:=?_) (a':=?_) (b_ 1 6) rfl rfl (by kernel_rfl) (fun _ _ _ h=>h) (Or.inl ⟨by rfl,?_⟩) ?_ ?_
    rotate_left
    ·
     intro w'
     go_simp
     with_reducible rfl
    rotate_left
    ·
     simp only[fr_]
     rfl
    refine pure_ (i:=1) (N:=some 13) (v:=?_) (a':=?_) (b_ 2 5) rfl rfl (by kernel_rfl) (fun _ _ _ h=>h) (Or.inl ⟨by rfl,?_⟩) ?_ ?_
    rotate_left
    ·
     intro w'
     go_simp
     with_reducible rfl
    rotate_left
    ·
     simp only[fr_]
     rfl
    refine pure_ (i:=2) (N:=some 14) (v:=?_) (a':=?_) (b_ 3 4) rfl rfl (by kernel_rfl) (fun _ _ _ h=>h) (Or.inl ⟨by rfl,?_⟩) ?_ ?_
    rotate_left
    ·
     intro w'
     go_simp
     with_reducible rfl
    rotate_left
    ·
     simp only[fr_]
     rfl
    refine pure_ (i:=3) (N:=some 15) (v:=?_) (a':=?_) (b_ 4 3) rfl rfl (by kernel_rfl) (fun _ _ _ h=>h) (Or.inl ⟨by rfl,?_⟩) ?_ ?_
    rotate_left
    ·
     intro w'
     go_simp
     with_reducible rfl
    rotate_left
    ·
     simp only[fr_]
     rfl
    refine take_ (i:=4) (N:=some 16) (v:=?_) (a':=?_) (b_ 5 2) rfl rfl (by kernel_rfl) (fun _ _ _ h=>h) (Or.inl ⟨by rfl,?_⟩) q ?_ ?_
    rotate_left
    ·
     rintro w' ⟨s0,s1,s2,s3⟩
     go_simp
     with_reducible rfl
    rotate_left
    ·
     simp only[fr_]
     rfl
    refine one_ (i:=5) (N:=some 17) (b_ 6 1) rfl rfl (by kernel_rfl) (by decide) (fun K hK=>?_)
    refine gs_ Tryz.func101 #[.slice (some p) l.length F,.slice d ((rd_T29 l0 a).f0).length g] ?_
    with_reducible refine(impl_labelsAt.calls X _ _ l _ _ ((rd_T29 l0 a).f0) o _ ?_ ?_ ?_ ?_ A7.1).mono ?_
    exact cp_ ((Kd.C_below A.1 j.1))
    exact E.1
    exact cp_ ((Kd.C_below u.1 j.1))
    exact t.1
    rintro e ya ⟨rfl,hb⟩
    refine⟨_,rfl,?_⟩
    obtain⟨b,j⟩:=u2_ hb b j
    (try clear hb)
    refine ho_ hK (e4_ b.1) (fun q=>?_)
    refine pure_ (i:=6) (N:=some 18) (v:=?_) (a':=?_) (b_ 7 0) rfl rfl (by kernel_rfl) (fun _ _ _ h=>h) (Or.inl ⟨by rfl,?_⟩) ?_ ?_
    rotate_left
    ·
     intro w'
     go_simp
     with_reducible rfl
    rotate_left
    ·
     simp only[fr_]
     rfl
    have H:=AHz_.1
    clear AHz_
    replace H:=ie_ H;rcases H with⟨W,H⟩|⟨W,H⟩
    ·
     have B:decide (0≤o)=true:=decide_eq_true W
     clear W
     obtain rfl:=Option.some.inj H
     (try simp only[B])
     refine done_ (by kernel_rfl) ?_
     try go_wp2
     go_ret
     exact an_ (hs_ j.1)
    have B:decide (0≤o)=false:=decide_eq_false W
    clear W
    have H':=M_ H
    clear H
    (try simp only[B])
    refine done_ (by kernel_rfl) ?_
    try go_wp2
    go_roundg X
    case measure=>have:=L.1;omega
    case rel=>exact⟨(wrap64 (a+1)),rs_,H',⟨by have:=L.1;omega⟩,⟨hs_ j.1⟩⟩
   have O:decide (a<(l0.length:Int))=false:=decide_eq_false M
   clear M
   obtain rfl:=Option.some.inj H
   go_wp2
   go_ret
   exact an_ (hs_ j.1)
def impl_ChainOk.l0:Nat→List S29→Int→Int→Int→List S29→Option (Bool)
 | 0,_,_,_,_,_=>none
 | k+1,d,i,c,b,a=>if c<i then (if 0≤c then (if c<(d.length:Int) then ((impl_AlarmOk.f k ((rd_T29 d c).f0) ((rd_T29 d c).f1) ((rd_T29 d c).f2) ((rd_T29 d c).f3)).bind fun e=>(if e=true then ((impl_Finger.f k ((rd_T29 d c).f0)).bind fun g=>(if g=b then (impl_ChainOk.l0 k d i (wrap64 (c+1)) b a) else (some false))) else (some false))) else (none)) else (none)) else (if (a.length:Int)>0 then ((impl_labelsApart.f k a).bind fun h=>(some h)) else (some false))
def impl_ChainOk.f (k:Nat) (b:Int) (a:List S29):Option (Bool):=impl_ChainOk.l0 k a (a.length:Int) 0 b a
def impl_ChainOk.T4:Bool×List (List Nat×List Nat):=(true,[([],[]),([0],[0]),([1],[1]),([2,1],[2]),([3],[3]),([4,3],[3,4]),([5,3,3],[3,5]),([3],[3]),([7,3],[3,7]),([6,8,3],[3,6,8]),([3,9],[3,9])])
def impl_ChainOk.B4:List Nat:=[0,1,3,7,15,31,63,15,143,511,1023]
theorem impl_ChainOk.tab4:rtab .any (opsOf Tryz.f73 4)=impl_ChainOk.T4:=by kernel_rfl
theorem impl_ChainOk.bits4:waitsOk impl_ChainOk.T4.2 impl_ChainOk.B4=true:=by kernel_rfl
theorem impl_ChainOk.calls (k:Nat) (o:Int) (A:Option Addr) (t:Nat) (a:List S29) (r:Bool) (w:World) (D:Kd.C k29 w A a.length a) (E:a.length≤t) (h:impl_ChainOk.f k o a=some r) :
  Calls Tryz.prog 73 #[.agg #[.int .i64 o,.slice A a.length t]] w fun e w'=>e=.returned (.bool r)∧Below w.heap.size w w':=by
 have hu80:=Tryz.underlying80
 have hu29:=Tryz.underlying29
 have F:=M_ D
 have J:=M_ E
 clear D E
 have p:=M_ (Below.refl w.heap.size w)
 unfold impl_ChainOk.f at h
 have H:=h;clear h
 have H':=M_ H
 clear H
 go_enter Tryz.func73,Tryz.ntmps73
 go_wp2_with (first|((with_reducible refine gd_ 1 rfl ?_);refine bV_ 1 #[.int .i64 o,.slice A a.length t] 80 ?_;intro v hg w2 c hb;have ca:=gq_ hg p;replace p:=st_ p hb;clear hb hg;obtain⟨ya,za,Aa,Ba⟩:=bc2_ c.1))
 go_loopg [8] k (fun kq v8 w'=>∃(b:Int),v8=.int .i64 b∧Aside0 (impl_ChainOk.l0 kq a (a.length:Int) b o a=some r)∧Aside0 (kq≤k)∧Aside0 (w'.heap[v]?=some (.cells #[.int .i64 o,(.slice A a.length t)] 80 (0,0)))∧Aside0 (Below w.heap.size w w'))
 case atStart=>exact⟨(0),rs_,H',⟨Nat.le_refl _⟩,⟨bq_ c.1⟩,⟨hs_ p.1⟩⟩
 case round=>
  clear H'
  obtain⟨b,rfl,HA,P,c,p⟩:=hrel
  cases gk with
  | zero=>exact absurd HA.1 (by simp[impl_ChainOk.l0])
  | succ Q=>
   have H:=HA.1
   clear HA
   simp only[impl_ChainOk.l0] at H
   replace H:=ie_ H;rcases H with⟨R,H⟩|⟨R,H⟩
   ·
    have T:=decide_eq_true R
    clear R
    replace H:=i2_ H;obtain⟨Ca,Da,H⟩:=H
    replace H:=bi_ H;obtain⟨Ea,A7,H⟩:=H
    have AHz_:=M_ H
    clear H
    obtain⟨L,j,l,U,V,W,X,Y,q,s,Ga,Ha⟩:=au_T29 F.1 p b
    cases U
    try go_wp2_with (first|((with_reducible refine gd_ 4 rfl ?_);refine bV_ 4 #[.slice none 0 0,.int .i64 0,.int .i64 0,.string (⟨#[]⟩:ByteArray)] 29 ?_;intro g hg ea d hb;have fa:=gq_ hg p;replace p:=st_ p hb;obtain⟨M,x,c⟩:=nb_ c hg hb;clear hb hg;have ga:=n2_ x;obtain⟨ha,ia,ja,ka,la,ma,na,oa⟩:=bc4_ d.1))
    generalize hw_:((((ea.setCell ⟨g,0,none⟩ (.slice j ((rd_T29 a b).f0).length l)).setCell ⟨g,1,none⟩ (.int .i64 ((rd_T29 a b).f1))).setCell ⟨g,2,none⟩ (.int .i64 ((rd_T29 a b).f2))).setCell ⟨g,3,none⟩ (.string ((rd_T29 a b).f3)))=Z
    replace c:=wq_ hw_ c
    replace d:=wp_ hw_ #[.slice j ((rd_T29 a b).f0).length l,.int .i64 ((rd_T29 a b).f1),.int .i64 ((rd_T29 a b).f2),.string ((rd_T29 a b).f3)] d
    replace p:=wb_ hw_ p
    clear hw_
    obtain⟨c,d,p⟩:=y3_ c d p
    have H:=AHz_.1
    clear AHz_
    replace H:=ib_ H;rcases H with⟨rfl,H⟩|⟨rfl,H⟩
    ·
     replace H:=bi_ H;obtain⟨u,A9,H⟩:=H
     have AHz_:=M_ H
     clear H
     refine start_ (n:=11) (S:=fun w'=>c_ w' g 0 (.slice j ((rd_T29 a b).f0).length l)∧c_ w' g 1 (.int .i64 ((rd_T29 a b).f1))∧c_ w' g 2 (.int .i64 ((rd_T29 a b).f2))∧c_ w' g 3 (.string ((rd_T29 a b).f3))∧c_ w' v 0 (.int .i64 o)∧c_ w' v 1 (.slice (some L) a.length t)) (ds:=[]) (b_ 0 11) (by kernel_rfl) rfl rfl (f4_ d.1 (e2_ c.1)) (fun i=>?_);refine with_tabW impl_ChainOk.tab4 impl_ChainOk.bits4 (fun m G=>?_)
     generalize Z.drew=Ka at c d p i ⊢
     refine t0_ m G i ?_
     refine o1_ 1 (b_ 2 9) m (fun K hK=>?_)
     refine gs_ Tryz.func106 #[.agg #[.slice j ((rd_T29 a b).f0).length l,.int .i64 ((rd_T29 a b).f1),.int .i64 ((rd_T29 a b).f2),.string ((rd_T29 a b).f3)]] ?_
     with_reducible refine(impl_AlarmOk.calls Q _ _ ((rd_T29 a b).f0) ((rd_T29 a b).f1) ((rd_T29 a b).f2) ((rd_T29 a b).f3) true _ ?_ ?_ A7.1).mono ?_
     exact cp_ ((Kd.C_below s.1 p.1))
     exact q.1
     rintro e La ⟨rfl,hb⟩
     refine⟨_,rfl,?_⟩
     obtain⟨c,d,p⟩:=u3_ hb c d p
     (try clear hb)
     refine ho_ hK (f4_ d.1 (e2_ c.1)) (fun i=>?_)
     iterate 3 refine p_ m ?_
     refine qw_ 7 (m_ 11 159) m ?_
     refine qt_ 5 (m_ 11 191) m G i ?_
     refine qt_ 8 (m_ 11 447) m G i ?_
     refine o1_ 6 (b_ 9 2) m (fun K hK=>?_)
     refine gs_ Tryz.func55 #[.slice j ((rd_T29 a b).f0).length l] ?_
     with_reducible refine(impl_Finger.calls Q _ _ ((rd_T29 a b).f0) u _ ?_ ?_ A9.1).mono ?_
     exact cp_ ((Kd.C_below s.1 p.1))
     exact q.1
     rintro e Ma ⟨rfl,hb⟩
     refine⟨_,rfl,?_⟩
     obtain⟨c,d,p⟩:=u3_ hb c d p
     (try clear hb)
     refine ho_ hK (f4_ d.1 (e2_ c.1)) (fun i=>?_)
     iterate 2 refine p_ m ?_
     have H:=AHz_.1
     clear AHz_
     replace H:=ie_ H;rcases H with⟨B,H⟩|⟨B,H⟩
     ·
      have y:(u==o)=true:=beq_iff_eq.mpr B
      have z:(u !=o)=false:=bne_eq_false_iff_eq.mpr B
      clear B
      have H':=M_ H
      clear H
      (try simp only[y,z])
      refine done_ (done_of m.1 (by kernel_rfl)) ?_
      try go_wp2
      go_roundg Q
      case measure=>have:=P.1;omega
      case rel=>exact⟨(wrap64 (b+1)),rs_,H',⟨by have:=P.1;omega⟩,⟨bq_ c.1⟩,⟨hs_ p.1⟩⟩
     have y:(u==o)=false:=beq_eq_false_iff_ne.mpr B
     have z:(u !=o)=true:=bne_iff_ne.mpr B
     obtain rfl:=Option.some.inj H
     (try simp only[y,z])
     refine done_ (done_of m.1 (by kernel_rfl)) ?_
     try go_wp2
     go_ret
     exact an_ (hs_ p.1)
    obtain rfl:=Option.some.inj H
    refine start_ (n:=11) (S:=fun w'=>c_ w' g 0 (.slice j ((rd_T29 a b).f0).length l)∧c_ w' g 1 (.int .i64 ((rd_T29 a b).f1))∧c_ w' g 2 (.int .i64 ((rd_T29 a b).f2))∧c_ w' g 3 (.string ((rd_T29 a b).f3))) (ds:=[]) (b_ 0 11) (by kernel_rfl) rfl rfl (e4_ d.1) (fun i=>?_);refine with_tabW impl_ChainOk.tab4 impl_ChainOk.bits4 (fun m G=>?_)
    generalize Z.drew=Na at c d p i ⊢
    refine t0_ m G i ?_
    refine o1_ 1 (b_ 2 9) m (fun K hK=>?_)
    refine gs_ Tryz.func106 #[.agg #[.slice j ((rd_T29 a b).f0).length l,.int .i64 ((rd_T29 a b).f1),.int .i64 ((rd_T29 a b).f2),.string ((rd_T29 a b).f3)]] ?_
    with_reducible refine(impl_AlarmOk.calls Q _ _ ((rd_T29 a b).f0) ((rd_T29 a b).f1) ((rd_T29 a b).f2) ((rd_T29 a b).f3) false _ ?_ ?_ A7.1).mono ?_
    exact cp_ ((Kd.C_below s.1 p.1))
    exact q.1
    rintro e Oa ⟨rfl,hb⟩
    refine⟨_,rfl,?_⟩
    obtain⟨c,d,p⟩:=u3_ hb c d p
    (try clear hb)
    refine ho_ hK (e4_ d.1) (fun i=>?_)
    iterate 2 refine p_ m ?_
    iterate 6 refine v_ m ?_
    refine p_ m ?_
    refine done_ (done_of m.1 (by kernel_rfl)) ?_
    try go_wp2
    go_ret
    exact an_ (hs_ p.1)
   have T:decide (b<(a.length:Int))=false:=decide_eq_false R
   clear R
   replace H:=ie_ H;rcases H with⟨I,H⟩|⟨I,H⟩
   ·
    have N:decide (0<(a.length:Int))=true:=decide_eq_true I
    have O:decide (0<a.length)=true:=decide_eq_true (by omega)
    clear I
    replace H:=bi_ H;obtain⟨ba,pa,H⟩:=H
    obtain rfl:=Option.some.inj H
    obtain⟨qa,ra,sa,ta⟩:=bc2_ c.1
    go_wp2_with (first|(go_at_call 107;(with_reducible refine(impl_labelsApart.calls Q _ _ a ba _ ?_ ?_ pa.1).mono ?_);exact cp_ ((Kd.C_below F.1 p.1));exact J.1;rintro e Pa ⟨rfl,hb⟩;obtain⟨c,p⟩:=u2_ hb c p;(try clear hb)))
    go_ret
    exact an_ (hs_ p.1)
   have N:decide (0<(a.length:Int))=false:=decide_eq_false I
   have O:decide (0<a.length)=false:=decide_eq_false (by omega)
   clear I
   obtain rfl:=Option.some.inj H
   obtain⟨ua,va,wa,xa⟩:=bc2_ c.1
   go_wp2
   go_ret
   exact an_ (hs_ p.1)
def impl_PartOk.l0:Nat→Int→Int→List S80→Int→Int→Int→Int→List S80→Option (Bool)
 | 0,_,_,_,_,_,_,_,_=>none
 | k+1,l,m,e,g,b,c,d,a=>if b<g then (if 0≤b then (if b<(e.length:Int) then ((impl_ChainOk.f k ((rd_T80 e b).f0) ((rd_T80 e b).f1)).bind fun h=>(if h=true then ((impl_PartOf.f ((rd_T80 e b).f0) m).bind fun i=>(if i=l then (if b>0 then (if 0≤(wrap64 (b-1)) then (if (wrap64 (b-1))<(a.length:Int) then (if ((rd_T80 a (wrap64 (b-1))).f0)≥((rd_T80 e b).f0) then (some false) else (impl_PartOk.l0 k l m e g (wrap64 (b+1)) c d a)) else (none)) else (none)) else (impl_PartOk.l0 k l m e g (wrap64 (b+1)) c d a)) else (some false))) else (some false))) else (none)) else (none)) else ((impl_in.f c (-1) 4).bind fun j=>(if j=true then (some (decide (d≥0))) else (some false)))
def impl_PartOk.f (k:Nat) (b:Int) (c:Int) (a:List S80) (d:Int) (e:Int):Option (Bool):=impl_PartOk.l0 k d e a (a.length:Int) 0 b c a
def impl_PartOk.T4:Bool×List (List Nat×List Nat):=(true,[([],[]),([0],[0]),([1],[1]),([2,1],[2]),([3],[3]),([4,3],[3,4]),([3],[3]),([5,6,3,3],[3,5,6]),([3],[3]),([7,8,3],[3,7,8]),([3,9],[3,9]),([10,7],[10]),([11],[11]),([12,11],[11,12]),([13,11,11],[11,13]),([14],[14]),([15,14],[14,15]),([14],[14]),([17,14],[14,17]),([16,18,14],[14,16,18]),([19,14],[14,19]),([20,14],[14,20]),([14],[14]),([22,14],[14,22]),([21,23,14],[14,21,23]),([14,24,11],[11,14,24]),([11,25],[11,25])])
def impl_PartOk.B4:List Nat:=[0,1,3,7,15,31,15,127,15,511,1023,2047,4095,8191,16383,32767,65535,32767,163839,524287,1048575,2097151,32767,4227071,16777215,33554431,67108863]
theorem impl_PartOk.tab4:rtab .any (opsOf Tryz.f21 4)=impl_PartOk.T4:=by kernel_rfl
theorem impl_PartOk.bits4:waitsOk impl_PartOk.T4.2 impl_PartOk.B4=true:=by kernel_rfl
theorem impl_PartOk.calls (k:Nat) (v:Int) (B:Int) (N:Option Addr) (G:Nat) (b:List S80) (a1:Int) (Z:Int) (r:Bool) (w:World) (Q:Kd.C k80 w N b.length b) (R:b.length≤G) (h:impl_PartOk.f k v B b a1 Z=some r) :
  Calls Tryz.prog 21 #[.agg #[.int .i64 v,.int .i64 B,.slice N b.length G],.int .i64 a1,.int .i64 Z] w fun e w'=>e=.returned (.bool r)∧Below w.heap.size w w':=by
 have hu26:=Tryz.underlying26
 have hu80:=Tryz.underlying80
 have T:=M_ Q
 have wa:=M_ R
 clear Q R
 have m:=M_ (Below.refl w.heap.size w)
 unfold impl_PartOk.f at h
 have H:=h;clear h
 have H':=M_ H
 clear H
 go_enter Tryz.func21,Tryz.ntmps21
 go_wp2_with (first|((with_reducible refine gd_ 3 rfl ?_);refine bV_ 3 #[.int .i64 v,.int .i64 B,.slice N b.length G] 26 ?_;intro E hg w4 c hb;have xa:=gq_ hg m;replace m:=st_ m hb;clear hb hg;obtain⟨Ra,Sa,Ta,Ua,Va,Wa⟩:=bc3_ c.1))
 go_loopg [12] k (fun kq ya w'=>∃(a:Int),ya=.int .i64 a∧Aside0 (impl_PartOk.l0 kq a1 Z b (b.length:Int) a v B b=some r)∧Aside0 (kq≤k)∧Aside0 (w'.heap[E]?=some (.cells #[.int .i64 v,.int .i64 B,(.slice N b.length G)] 26 (0,0)))∧Aside0 (Below w.heap.size w w'))
 case atStart=>exact⟨(0),rs_,H',⟨Nat.le_refl _⟩,⟨bq_ c.1⟩,⟨hs_ m.1⟩⟩
 case round=>
  clear H'
  obtain⟨a,rfl,HA,aa,c,m⟩:=hrel
  cases gk with
  | zero=>exact absurd HA.1 (by simp[impl_PartOk.l0])
  | succ k1=>
   have H:=HA.1
   clear HA
   simp only[impl_PartOk.l0] at H
   replace H:=ie_ H;rcases H with⟨c6,H⟩|⟨c6,H⟩
   ·
    have na:=decide_eq_true c6
    clear c6
    replace H:=i2_ H;obtain⟨Xa,Ya,H⟩:=H
    replace H:=bi_ H;obtain⟨Za,A9,H⟩:=H
    have AHz_:=M_ H
    clear H
    obtain⟨F,j,l,pa,qa,ra,x,y,ab,bb⟩:=au_T80 T.1 m a
    cases pa
    try go_wp2_with (first|((with_reducible refine gd_ 8 rfl ?_);refine bV_ 8 #[.int .i64 0,.slice none 0 0] 80 ?_;intro o hg Aa d hb;have Ba:=gq_ hg m;replace m:=st_ m hb;obtain⟨ha,L,c⟩:=nb_ c hg hb;clear hb hg;have Ca:=n2_ L;obtain⟨Da,Ea,Fa,Ga⟩:=bc2_ d.1))
    generalize hw_:((Aa.setCell ⟨o,0,none⟩ (.int .i64 ((rd_T80 b a).f0))).setCell ⟨o,1,none⟩ (.slice j ((rd_T80 b a).f1).length l))=ba
    replace c:=wq_ hw_ c
    replace d:=wp_ hw_ #[.int .i64 ((rd_T80 b a).f0),.slice j ((rd_T80 b a).f1).length l] d
    replace m:=wb_ hw_ m
    clear hw_
    obtain⟨c,d,m⟩:=y3_ c d m
    have H:=AHz_.1
    clear AHz_
    replace H:=ib_ H;rcases H with⟨rfl,H⟩|⟨rfl,H⟩
    ·
     replace H:=bi_ H;obtain⟨D,ca,H⟩:=H
     replace H:=ie_ H;rcases H with⟨O,H⟩|⟨O,H⟩
     ·
      have ia:(D==a1)=true:=beq_iff_eq.mpr O
      have ja:(D !=a1)=false:=bne_eq_false_iff_eq.mpr O
      clear O
      replace H:=ie_ H;rcases H with⟨U,H⟩|⟨U,H⟩
      ·
       have ka:decide (0<a)=true:=decide_eq_true U
       clear U
       obtain⟨p,z⟩:∃j_:Int,(wrap64 (a-1))=j_:=⟨_,rfl⟩
       replace H:(if 0≤(p) then (if (p)<(b.length:Int) then (if ((rd_T80 b (p)).f0)≥((rd_T80 b a).f0) then (some false) else (impl_PartOk.l0 k1 a1 Z b (b.length:Int) (wrap64 (a+1)) v B b)) else (none)) else (none))=some r:=by first|(rw[z] at H;exact H)|(simp only[z] at H ⊢;exact H)
       (try rw[z] at A9)
       (try rw[z] at ca)
       have va:(IntKind.i64.wrap (a-1))=p:=(i64_w _).trans z
       replace H:=i2_ H;obtain⟨Ha,Ia,H⟩:=H
       have AHz_:=M_ H
       clear H
       obtain⟨V,W⟩:0≤((p):Int)∧(p)<(b.length:Int):=pq_
       obtain⟨la,da,ea,sa,q,u,I,J⟩:=at_T80 T.1 (p) V W
       have s:=u
       have t:=q
       obtain rfl:F=la:=(by injection sa)
       replace q:=c2_ m q u;clear u;obtain⟨q,u⟩:=q
       have X:=M_ J
       have ta:=M_ I
       clear J I
       replace V:=eq_true V;replace W:=eq_true W
       refine start_ (n:=27) (S:=fun w'=>c_ w' o 0 (.int .i64 ((rd_T80 b a).f0))∧c_ w' o 1 (.slice j ((rd_T80 b a).f1).length l)∧c_ w' E 0 (.int .i64 v)∧c_ w' E 1 (.int .i64 B)∧c_ w' E 2 (.slice (some F) b.length G)∧w'.cell? (F.add (((p)).toNat*2))=some (.int .i64 ((rd_T80 b (p)).f0))∧d_ w' (F.add (((p)).toNat*2)) 1 (.slice da ((rd_T80 b (p)).f1).length ea)) (ds:=[]) (b_ 0 27) (by kernel_rfl) rfl rfl ⟨bx_ d.1 0,bx_ d.1 1,bx_ c.1 0,bx_ c.1 1,bx_ c.1 2,((m.1.cell (World.block_lt_of_cell? w _ t)).trans t),((m.1.cell (World.block_lt_of_cell? w _ s)).trans s)⟩ (fun i=>?_);refine with_tabW impl_PartOk.tab4 impl_PartOk.bits4 (fun g A=>?_)
       generalize ba.drew=cb at c d m X q u i ⊢
       refine t0_ g A i ?_
       refine o1_ 1 (b_ 2 25) g (fun K P=>?_)
       refine gs_ Tryz.func73 #[.agg #[.int .i64 ((rd_T80 b a).f0),.slice j ((rd_T80 b a).f1).length l]] ?_
       with_reducible refine(impl_ChainOk.calls k1 ((rd_T80 b a).f0) _ _ ((rd_T80 b a).f1) true _ ?_ ?_ A9.1).mono ?_
       exact cp_ ((Kd.C_below y.1 m.1))
       exact x.1
       rintro e db ⟨rfl,hb⟩
       refine⟨_,rfl,?_⟩
       obtain⟨c,d,m⟩:=u3_ hb c d m
       (try clear hb)
       refine ho_ P ⟨bx_ d.1 0,bx_ d.1 1,bx_ c.1 0,bx_ c.1 1,bx_ c.1 2,((m.1.cell (World.block_lt_of_cell? w _ t)).trans t),((m.1.cell (World.block_lt_of_cell? w _ s)).trans s)⟩ (fun i=>?_)
       iterate 3 refine p_ g ?_
       refine qw_ 6 (m_ 27 95) g ?_
       refine qw_ 8 (m_ 27 351) g ?_
       refine qt_ 5 (m_ 27 383) g A i ?_
       refine o1_ 7 (b_ 9 18) g (fun K P=>?_)
       refine gs_ Tryz.func74 #[.int .i64 ((rd_T80 b a).f0),.int .i64 Z] ?_
       with_reducible refine(impl_PartOf.calls ((rd_T80 b a).f0) Z D _ ca.1).mono ?_
       rintro e w' ⟨rfl,⟨nd,rfl⟩⟩
       refine⟨_,rfl,?_⟩
       refine ho_ P ⟨bx_ d.1 0,bx_ d.1 1,bx_ c.1 0,bx_ c.1 1,bx_ c.1 2,((m.1.cell (World.block_lt_of_cell? w _ t)).trans t),((m.1.cell (World.block_lt_of_cell? w _ s)).trans s)⟩ (fun i=>?_)
       iterate 7 refine p_ g ?_
       refine qw_ 17 (m_ 27 196607) g ?_
       refine qw_ 18 (m_ 27 458751) g ?_
       refine qw_ 22 (m_ 27 4653055) g ?_
       refine qt_ 16 (m_ 27 4718591) g A i ?_
       refine qw_ 19 (m_ 27 5242879) g ?_
       refine qw_ 20 (m_ 27 6291455) g ?_
       refine qt_ 21 (b_ 23 4) g A i ?_
       refine t0_ g A i ?_
       iterate 3 refine p_ g ?_
       have H:=AHz_.1
       clear AHz_
       replace H:=ie_ H;rcases H with⟨Y,H⟩|⟨Y,H⟩
       ·
        have M:decide (((rd_T80 b a).f0)≤((rd_T80 b (p)).f0))=true:=decide_eq_true Y
        clear Y
        obtain rfl:=Option.some.inj H
        (try simp only[M])
        refine done_ (done_of g.1 (by kernel_rfl)) ?_
        try go_wp2
        go_ret
        exact⟨by first|rfl|(simp[errW_none,errW_some]<;>rfl)|(simp only[←z];first|rfl|(simp[errW_none,errW_some]<;>rfl))|(simp[*,errW_none,errW_some]<;>rfl),hs_ m.1⟩
       have M:decide (((rd_T80 b a).f0)≤((rd_T80 b (p)).f0))=false:=decide_eq_false Y
       clear Y
       have H':=M_ H
       clear H
       (try simp only[M])
       refine done_ (done_of g.1 (by kernel_rfl)) ?_
       try go_wp2
       go_roundg k1
       case measure=>have:=aa.1;omega
       case rel=>exact⟨(wrap64 (a+1)),rs_,H',⟨by have:=aa.1;omega⟩,⟨bq_ c.1⟩,⟨hs_ m.1⟩⟩
      have ka:decide (0<a)=false:=decide_eq_false U
      clear U
      have H':=M_ H
      clear H
      refine start_ (n:=27) (S:=fun w'=>c_ w' o 0 (.int .i64 ((rd_T80 b a).f0))∧c_ w' o 1 (.slice j ((rd_T80 b a).f1).length l)) (ds:=[]) (b_ 0 27) (by kernel_rfl) rfl rfl (e2_ d.1) (fun i=>?_);refine with_tabW impl_PartOk.tab4 impl_PartOk.bits4 (fun g A=>?_)
      generalize ba.drew=eb at c d m i ⊢
      refine t0_ g A i ?_
      refine o1_ 1 (b_ 2 25) g (fun K P=>?_)
      refine gs_ Tryz.func73 #[.agg #[.int .i64 ((rd_T80 b a).f0),.slice j ((rd_T80 b a).f1).length l]] ?_
      with_reducible refine(impl_ChainOk.calls k1 ((rd_T80 b a).f0) _ _ ((rd_T80 b a).f1) true _ ?_ ?_ A9.1).mono ?_
      exact cp_ ((Kd.C_below y.1 m.1))
      exact x.1
      rintro e fb ⟨rfl,hb⟩
      refine⟨_,rfl,?_⟩
      obtain⟨c,d,m⟩:=u3_ hb c d m
      (try clear hb)
      refine ho_ P (e2_ d.1) (fun i=>?_)
      iterate 3 refine p_ g ?_
      refine qw_ 6 (m_ 27 95) g ?_
      refine qw_ 8 (m_ 27 351) g ?_
      refine qt_ 5 (m_ 27 383) g A i ?_
      refine o1_ 7 (b_ 9 18) g (fun K P=>?_)
      refine gs_ Tryz.func74 #[.int .i64 ((rd_T80 b a).f0),.int .i64 Z] ?_
      with_reducible refine(impl_PartOf.calls ((rd_T80 b a).f0) Z D _ ca.1).mono ?_
      rintro e w' ⟨rfl,⟨nd,rfl⟩⟩
      refine⟨_,rfl,?_⟩
      refine ho_ P (e2_ d.1) (fun i=>?_)
      iterate 6 refine p_ g ?_
      iterate 10 refine v_ g ?_
      iterate 2 refine p_ g ?_
      refine done_ (done_of g.1 (by kernel_rfl)) ?_
      try go_wp2
      go_roundg k1
      case measure=>have:=aa.1;omega
      case rel=>exact⟨(wrap64 (a+1)),rs_,H',⟨by have:=aa.1;omega⟩,⟨bq_ c.1⟩,⟨hs_ m.1⟩⟩
     have ia:(D==a1)=false:=beq_eq_false_iff_ne.mpr O
     have ja:(D !=a1)=true:=bne_iff_ne.mpr O
     obtain rfl:=Option.some.inj H
     refine start_ (n:=27) (S:=fun w'=>c_ w' o 0 (.int .i64 ((rd_T80 b a).f0))∧c_ w' o 1 (.slice j ((rd_T80 b a).f1).length l)) (ds:=[]) (b_ 0 27) (by kernel_rfl) rfl rfl (e2_ d.1) (fun i=>?_);refine with_tabW impl_PartOk.tab4 impl_PartOk.bits4 (fun g A=>?_)
     generalize ba.drew=gb at c d m i ⊢
     refine t0_ g A i ?_
     refine o1_ 1 (b_ 2 25) g (fun K P=>?_)
     refine gs_ Tryz.func73 #[.agg #[.int .i64 ((rd_T80 b a).f0),.slice j ((rd_T80 b a).f1).length l]] ?_
     with_reducible refine(impl_ChainOk.calls k1 ((rd_T80 b a).f0) _ _ ((rd_T80 b a).f1) true _ ?_ ?_ A9.1).mono ?_
     exact cp_ ((Kd.C_below y.1 m.1))
     exact x.1
     rintro e ib ⟨rfl,hb⟩
     refine⟨_,rfl,?_⟩
     obtain⟨c,d,m⟩:=u3_ hb c d m
     (try clear hb)
     refine ho_ P (e2_ d.1) (fun i=>?_)
     iterate 3 refine p_ g ?_
     refine qw_ 6 (m_ 27 95) g ?_
     refine qw_ 8 (m_ 27 351) g ?_
     refine qt_ 5 (m_ 27 383) g A i ?_
     refine o1_ 7 (b_ 9 18) g (fun K P=>?_)
     refine gs_ Tryz.func74 #[.int .i64 ((rd_T80 b a).f0),.int .i64 Z] ?_
     with_reducible refine(impl_PartOf.calls ((rd_T80 b a).f0) Z D _ ca.1).mono ?_
     rintro e w' ⟨rfl,⟨nd,rfl⟩⟩
     refine⟨_,rfl,?_⟩
     refine ho_ P (e2_ d.1) (fun i=>?_)
     iterate 3 refine p_ g ?_
     iterate 14 refine v_ g ?_
     refine p_ g ?_
     refine done_ (done_of g.1 (by kernel_rfl)) ?_
     try go_wp2
     go_ret
     exact an_ (hs_ m.1)
    obtain rfl:=Option.some.inj H
    refine start_ (n:=27) (S:=fun w'=>c_ w' o 0 (.int .i64 ((rd_T80 b a).f0))∧c_ w' o 1 (.slice j ((rd_T80 b a).f1).length l)) (ds:=[]) (b_ 0 27) (by kernel_rfl) rfl rfl (e2_ d.1) (fun i=>?_);refine with_tabW impl_PartOk.tab4 impl_PartOk.bits4 (fun g A=>?_)
    generalize ba.drew=jb at c d m i ⊢
    refine t0_ g A i ?_
    refine o1_ 1 (b_ 2 25) g (fun K P=>?_)
    refine gs_ Tryz.func73 #[.agg #[.int .i64 ((rd_T80 b a).f0),.slice j ((rd_T80 b a).f1).length l]] ?_
    with_reducible refine(impl_ChainOk.calls k1 ((rd_T80 b a).f0) _ _ ((rd_T80 b a).f1) false _ ?_ ?_ A9.1).mono ?_
    exact cp_ ((Kd.C_below y.1 m.1))
    exact x.1
    rintro e kb ⟨rfl,hb⟩
    refine⟨_,rfl,?_⟩
    obtain⟨c,d,m⟩:=u3_ hb c d m
    (try clear hb)
    refine ho_ P (e2_ d.1) (fun i=>?_)
    iterate 2 refine p_ g ?_
    iterate 6 refine v_ g ?_
    iterate 2 refine p_ g ?_
    iterate 14 refine v_ g ?_
    refine p_ g ?_
    refine done_ (done_of g.1 (by kernel_rfl)) ?_
    try go_wp2
    go_ret
    exact an_ (hs_ m.1)
   have na:decide (a<(b.length:Int))=false:=decide_eq_false c6
   clear c6
   replace H:=bi_ H;obtain⟨ua,Ka,H⟩:=H
   have AHz_:=M_ H
   clear H
   obtain⟨La,Ma,Na,Oa,Pa,Qa⟩:=bc3_ c.1
   go_wp2_with (first|(((with_reducible refine gate_callee (f:=75) rfl ?_);refine gl_ (some 47) Tryz.func75 #[.int .i64 v,.int .i64 (-1),.int .i64 4] ?_;(with_reducible refine(impl_in.calls v (-1) 4 ua _ Ka.1).mono ?_);rintro e w' ⟨rfl,⟨nd,rfl⟩⟩;refine⟨_,rfl,?_⟩);refine Aside0.out ?_))
   have H:=AHz_.1
   clear AHz_
   replace H:=ib_ H;rcases H with⟨rfl,H⟩|⟨rfl,H⟩
   ·
    obtain rfl:=Option.some.inj H
    refine⟨?_⟩
    go_wp2
    go_ret
    exact an_ (hs_ m.1)
   obtain rfl:=Option.some.inj H
   refine⟨?_⟩
   go_wp2
   go_ret
   exact an_ (hs_ m.1)
def impl_StoreOk.l0:Nat→List S26→List S26→Int→Int→Option (Bool)
 | 0,_,_,_,_=>none
 | k+1,e,b,c,a=>if a<c then (if 0≤a then (if a<(b.length:Int) then ((impl_PartOk.f k ((rd_T26 b a).f0) ((rd_T26 b a).f1) ((rd_T26 b a).f2) a (e.length:Int)).bind fun d=>(if d=true then (impl_StoreOk.l0 k e b c (wrap64 (a+1))) else (some false))) else (none)) else (none)) else (some true)
def impl_StoreOk.f (k:Nat) (l0:List S26):Option (Bool):=(impl_in.f (l0.length:Int) 1 3).bind fun a=>(if a=true then (impl_StoreOk.l0 k l0 l0 (l0.length:Int) 0) else (some false))
theorem impl_StoreOk.calls (k:Nat) (V:Option Addr) (W:Nat) (l0:List S26) (r:Bool) (w:World) (y:Kd.C k26 w V l0.length l0) (z:l0.length≤W) (h:impl_StoreOk.f k l0=some r) :
  Calls Tryz.prog 32 #[.slice V l0.length W] w fun e w'=>e=.returned (.bool r)∧Below w.heap.size w w':=by
 have hu26:=Tryz.underlying26
 have A:=M_ y
 have da:=M_ z
 clear y z
 have s:=M_ (Below.refl w.heap.size w)
 unfold impl_StoreOk.f at h
 have H:=h;clear h
 replace H:=bi_ H;obtain⟨X,Y,H⟩:=H
 replace H:=ib_ H;rcases H with⟨rfl,H⟩|⟨rfl,H⟩
 ·
  have H':=M_ H
  clear H
  go_enter Tryz.func32,Tryz.ntmps32
  go_wp2_with (first|((with_reducible refine gate_callee (f:=75) rfl ?_);refine gl_ (some 7) Tryz.func75 #[.int .i64 (l0.length:Int),.int .i64 1,.int .i64 3] ?_;(with_reducible refine(impl_in.calls (l0.length:Int) 1 3 true _ Y.1).mono ?_);rintro e w' ⟨rfl,⟨nd,rfl⟩⟩;refine⟨_,rfl,?_⟩))
  go_loopg [11] k (fun kq F w'=>∃(a:Int),F=.int .i64 a∧Aside0 (impl_StoreOk.l0 kq l0 l0 (l0.length:Int) a=some r)∧Aside0 (kq≤k)∧Aside0 (Below w.heap.size w w'))
  case atStart=>exact⟨(0),rs_,H',⟨Nat.le_refl _⟩,⟨hs_ s.1⟩⟩
  case round=>
   clear H'
   obtain⟨a,rfl,G,B,s⟩:=hrel
   cases gk with
   | zero=>exact absurd G.1 (by simp[impl_StoreOk.l0])
   | succ I=>
    have H:=G.1
    clear G
    simp only[impl_StoreOk.l0] at H
    replace H:=ie_ H;rcases H with⟨D,H⟩|⟨D,H⟩
    ·
     have E:=decide_eq_true D
     clear D
     replace H:=i2_ H;obtain⟨Z,aa,H⟩:=H
     replace H:=bi_ H;obtain⟨ba,A7,H⟩:=H
     replace H:=ib_ H;rcases H with⟨rfl,H⟩|⟨rfl,H⟩
     ·
      have H':=M_ H
      clear H
      obtain⟨n,o⟩:0≤(a:Int)∧a<(l0.length:Int):=pq_
      obtain⟨u,l,m,t,b,c,d,g,i⟩:=at_T26 A.1 a n o
      cases t
      replace b:=c2_ s b c;clear c;obtain⟨b,c⟩:=b
      replace d:=cl_ s.1 d
      have p:=M_ i
      have q:=M_ g
      clear i g
      replace n:=eq_true n;replace o:=eq_true o
      go_wp2_with (first|((with_reducible refine gd_ 4 rfl ?_);refine bV_ 4 #[.int .i64 0,.int .i64 0,.slice none 0 0] 26 ?_;intro v hg w9 j hb;have x:=gq_ hg s;replace s:=st_ s hb;clear hb hg;obtain⟨J,K,L,M,N,O⟩:=bc3_ j.1)|((with_reducible refine gate_callee (f:=21) rfl ?_);refine gl_ (some 20) Tryz.func21 #[.agg #[.int .i64 ((rd_T26 l0 a).f0),.int .i64 ((rd_T26 l0 a).f1),.slice l ((rd_T26 l0 a).f2).length m],.int .i64 a,.int .i64 (l0.length:Int)] ?_;(with_reducible refine(impl_PartOk.calls I ((rd_T26 l0 a).f0) ((rd_T26 l0 a).f1) _ _ ((rd_T26 l0 a).f2) a (l0.length:Int) true _ ?_ ?_ A7.1).mono ?_);exact Kd.C_below p.1 (hs_ s.1);exact q.1;rintro e fa ⟨rfl,hb⟩;refine⟨_,rfl,?_⟩;replace j:=by_ j #[.int .i64 ((rd_T26 l0 a).f0),.int .i64 ((rd_T26 l0 a).f1),.slice l ((rd_T26 l0 a).f2).length m] hb;replace s:=st_ s hb;(try clear hb)))
      go_roundg I
      case measure=>have:=B.1;omega
      case rel=>exact⟨(wrap64 (a+1)),rs_,H',⟨by have:=B.1;omega⟩,⟨hs_ s.1⟩⟩
     obtain rfl:=Option.some.inj H
     obtain⟨n,o⟩:0≤(a:Int)∧a<(l0.length:Int):=pq_
     obtain⟨u,l,m,t,b,c,d,g,i⟩:=at_T26 A.1 a n o
     cases t
     replace b:=c2_ s b c;clear c;obtain⟨b,c⟩:=b
     replace d:=cl_ s.1 d
     have p:=M_ i
     have q:=M_ g
     clear i g
     replace n:=eq_true n;replace o:=eq_true o
     go_wp2_with (first|((with_reducible refine gd_ 4 rfl ?_);refine bV_ 4 #[.int .i64 0,.int .i64 0,.slice none 0 0] 26 ?_;intro v hg ga j hb;have x:=gq_ hg s;replace s:=st_ s hb;clear hb hg;obtain⟨P,Q,R,S,T,U⟩:=bc3_ j.1)|((with_reducible refine gate_callee (f:=21) rfl ?_);refine gl_ (some 20) Tryz.func21 #[.agg #[.int .i64 ((rd_T26 l0 a).f0),.int .i64 ((rd_T26 l0 a).f1),.slice l ((rd_T26 l0 a).f2).length m],.int .i64 a,.int .i64 (l0.length:Int)] ?_;(with_reducible refine(impl_PartOk.calls I ((rd_T26 l0 a).f0) ((rd_T26 l0 a).f1) _ _ ((rd_T26 l0 a).f2) a (l0.length:Int) false _ ?_ ?_ A7.1).mono ?_);exact Kd.C_below p.1 (hs_ s.1);exact q.1;rintro e ha ⟨rfl,hb⟩;refine⟨_,rfl,?_⟩;replace j:=by_ j #[.int .i64 ((rd_T26 l0 a).f0),.int .i64 ((rd_T26 l0 a).f1),.slice l ((rd_T26 l0 a).f2).length m] hb;replace s:=st_ s hb;(try clear hb)))
     go_ret
     exact an_ (hs_ s.1)
    have E:decide (a<(l0.length:Int))=false:=decide_eq_false D
    clear D
    obtain rfl:=Option.some.inj H
    go_wp2
    go_ret
    exact an_ (hs_ s.1)
 obtain rfl:=Option.some.inj H
 go_enter Tryz.func32,Tryz.ntmps32
 go_wp2_with (first|((with_reducible refine gate_callee (f:=75) rfl ?_);refine gl_ (some 7) Tryz.func75 #[.int .i64 (l0.length:Int),.int .i64 1,.int .i64 3] ?_;(with_reducible refine(impl_in.calls (l0.length:Int) 1 3 false _ Y.1).mono ?_);rintro e w' ⟨rfl,⟨nd,rfl⟩⟩;refine⟨_,rfl,?_⟩))
 go_ret
 exact an_ (hs_ s.1)
mutual
def impl_CountOf.l0:Nat→Int→List S26→Int→Int→Option (Int)
 | 0,_,_,_,_=>none
 | k+1,c,b,d,a=>if a<d then (if 0≤a then (if a<(b.length:Int) then (impl_CountOf.l1 k c b d a ((rd_T26 b a).f2) (((rd_T26 b a).f2).length:Int) 0) else (none)) else (none)) else (some c)
def impl_CountOf.l1:Nat→Int→List S26→Int→Int→List S80→Int→Int→Option (Int)
 | 0,_,_,_,_,_,_,_=>none
 | k+1,e,f,g,c,b,d,a=>if a<d then (if 0≤a then (if a<(b.length:Int) then (impl_CountOf.l1 k (wrap64 (e+(((rd_T80 b a).f1).length:Int))) f g c b d (wrap64 (a+1))) else (none)) else (none)) else (impl_CountOf.l0 k e f g (wrap64 (c+1)))
end
def impl_CountOf.f (k:Nat) (l0:List S26):Option (Int):=impl_CountOf.l0 k 0 l0 (l0.length:Int) 0
theorem impl_CountOf.calls (k:Nat) (A0:Option Addr) (c0:Nat) (l0:List S26) (r:Int) (w:World) (E:Kd.C k26 w A0 l0.length l0) (F:l0.length≤c0) (h:impl_CountOf.f k l0=some r) :
  Calls Tryz.prog 34 #[.slice A0 l0.length c0] w fun e w'=>e=.returned (.int .i64 r)∧Below w.heap.size w w':=by
 have hu26:=Tryz.underlying26
 have hu80:=Tryz.underlying80
 have U:=M_ E
 have ya:=M_ F
 clear E F
 have n:=M_ (Below.refl w.heap.size w)
 unfold impl_CountOf.f at h
 have H:=h;clear h
 have H':=M_ H
 clear H
 go_enter Tryz.func34,Tryz.ntmps34
 go_wp2
 go_loopg [3,10] k (fun kq V W w'=>∃(p:Int) (a:Int),V=.int .i64 p∧W=.int .i64 a∧Aside0 (impl_CountOf.l0 kq p l0 (l0.length:Int) a=some r)∧Aside0 (kq≤k)∧Aside0 (Below w.heap.size w w'))
 case atStart=>exact⟨(0),(0),rs_,rs_,H',⟨Nat.le_refl _⟩,⟨hs_ n.1⟩⟩
 case round=>
  clear H'
  obtain⟨p,a,rfl,rfl,z,u,n⟩:=hrel
  cases gk with
  | zero=>exact absurd z.1 (by simp[impl_CountOf.l0])
  | succ k1=>
   have H:=z.1
   clear z
   simp only[impl_CountOf.l0] at H
   replace H:=ie_ H;rcases H with⟨G,H⟩|⟨G,H⟩
   ·
    have I:=decide_eq_true G
    clear G
    replace H:=i2_ H;obtain⟨la,ma,H⟩:=H
    have H':=M_ H
    clear H
    obtain⟨q,s⟩:0≤(a:Int)∧a<(l0.length:Int):=pq_
    obtain⟨X,v,x,J,c,g,i,j,l⟩:=at_T26 U.1 a q s
    cases J
    replace c:=c2_ n c g;clear g;obtain⟨c,g⟩:=c
    replace i:=cl_ n.1 i
    have t:=M_ l
    have K:=M_ j
    clear l j
    replace q:=eq_true q;replace s:=eq_true s
    go_wp2_with (first|((with_reducible refine gd_ 5 rfl ?_);refine bV_ 5 #[.int .i64 0,.int .i64 0,.slice none 0 0] 26 ?_;intro A hg w5 d hb;have Y:=gq_ hg n;replace n:=st_ n hb;clear hb hg;obtain⟨na,oa,pa,qa,ra,sa⟩:=bc3_ d.1))
    go_loopg [3,17] k1 (fun kq V Z w'=>∃(m:Int) (b:Int),V=.int .i64 m∧Z=.int .i64 b∧Aside0 (impl_CountOf.l1 kq m l0 (l0.length:Int) a ((rd_T26 l0 a).f2) (((rd_T26 l0 a).f2).length:Int) b=some r)∧Aside0 (kq≤k1)∧Aside0 (w'.heap[A]?=some (.cells #[.int .i64 ((rd_T26 l0 a).f0),.int .i64 ((rd_T26 l0 a).f1),(.slice v ((rd_T26 l0 a).f2).length x)] 26 (0,0)))∧Aside0 (Below w.heap.size w w'))
    case atStart=>exact⟨(p),(0),rs_,rs_,H',⟨Nat.le_refl _⟩,⟨bp_ d.1⟩,⟨hs_ n.1⟩⟩
    case round=>
     clear H'
     obtain⟨m,b,rfl,rfl,z,y,d,n⟩:=hrel
     cases gk with
     | zero=>exact absurd z.1 (by simp[impl_CountOf.l1])
     | succ k2=>
      have H:=z.1
      clear z
      simp only[impl_CountOf.l1] at H
      replace H:=ie_ H;rcases H with⟨L,H⟩|⟨L,H⟩
      ·
       have M:=decide_eq_true L
       clear L
       replace H:=i2_ H;obtain⟨ua,va,H⟩:=H
       have H':=M_ H
       clear H
       obtain⟨aa,S,T,N,O,P,Q,R,wa,xa⟩:=au_T80 t.1 n b
       cases N
       go_wp2_with (first|((with_reducible refine gd_ 7 rfl ?_);refine bV_ 7 #[.int .i64 0,.slice none 0 0] 80 ?_;intro ba hg za B hb;have ca:=gq_ hg n;replace n:=st_ n hb;obtain⟨D,o,d⟩:=nb_ d hg hb;clear hb hg;have da:=n2_ o;obtain⟨ea,fa,ga,ha⟩:=bc2_ B.1))
       go_roundg k2
       case measure=>have:=u.1;have:=y.1;omega
       case rel=>exact⟨(wrap64 (m+(((rd_T80 ((rd_T26 l0 a).f2) b).f1).length:Int))),(wrap64 (b+1)),rs_,rs_,H',⟨by have:=u.1;have:=y.1;omega⟩,⟨bq_ d.1⟩,⟨hs_ n.1⟩⟩
      have M:decide (b<(((rd_T26 l0 a).f2).length:Int))=false:=decide_eq_false L
      clear L
      have H':=M_ H
      clear H
      go_wp2
      go_roundg k2
      case measure=>have:=u.1;have:=y.1;omega
      case rel=>exact⟨(m),(wrap64 (a+1)),rs_,rs_,H',⟨by have:=u.1;have:=y.1;omega⟩,⟨hs_ n.1⟩⟩
   have I:decide (a<(l0.length:Int))=false:=decide_eq_false G
   clear G
   obtain rfl:=Option.some.inj H
   go_wp2
   go_ret
   exact an_ (hs_ n.1)
def spec_Sum.l0:Nat→ByteArray→Int→Int→Option (Int)
 | 0,_,_,_=>none
 | k+1,b,c,a=>if a<(b.size:Int) then (if 0≤a then (spec_Sum.l0 k b (Go.bits .and .i64 (wrap64 ((Go.bits .xor .i64 c (wrap64 (bt b a)))*16777619)) 4294967295) (wrap64 (a+1))) else (none)) else (some c)
def spec_Sum.f (k:Nat) (a:ByteArray):Option (Int):=spec_Sum.l0 k a 2166136261 0
theorem spec_Sum.calls (k:Nat) (c:ByteArray) (r:Int) (w:World) (h:spec_Sum.f k c=some r) :
  Calls Tryz.prog 98 #[.string c] w fun e w'=>e=.returned (.int .i64 r)∧Drawn0 w w':=by
 unfold spec_Sum.f at h
 have H:=h;clear h
 have H':=M_ H
 clear H
 go_enter Tryz.func98,Tryz.ntmps98
 go_wp2
 go_loopg [3,4] k (fun kq o p w'=>∃(b:Int) (a:Int),o=.int .i64 b∧p=.int .i64 a∧Aside0 (spec_Sum.l0 kq c b a=some r)∧Aside0 (kq≤k)∧Drawn0 w w')
 case atStart=>exact⟨(2166136261),(0),rs_,rs_,H',⟨Nat.le_refl _⟩,by repeat (first|exact Drawn0.refl _|apply Drawn0.step)⟩
 case round=>
  clear H'
  obtain⟨b,a,rfl,rfl,j,d,⟨m1,rfl⟩⟩:=hrel
  cases gk with
  | zero=>exact absurd j.1 (by simp[spec_Sum.l0])
  | succ q=>
   have H:=j.1
   clear j
   simp only[spec_Sum.l0] at H
   replace H:=ie_ H;rcases H with⟨g,H⟩|⟨g,H⟩
   ·
    have i:=decide_eq_true g
    clear g
    replace H:=id_ H;obtain⟨l,H⟩:=H
    have H':=M_ H
    clear H
    obtain⟨m,n⟩:0≤(a:Int)∧a<(c.size:Int):=pq_
    have s:=bt_at c a
    replace m:=eq_true m;replace n:=eq_true n
    go_wp2
    go_roundg q
    case measure=>have:=d.1;omega
    case rel=>exact⟨(Go.bits .and .i64 (wrap64 ((Go.bits .xor .i64 b (wrap64 (bt c a)))*16777619)) 4294967295),(wrap64 (a+1)),rs_,rs_,H',⟨by have:=d.1;omega⟩,by repeat (first|exact Drawn0.refl _|apply Drawn0.step)⟩
   have i:decide (a<(c.size:Int))=false:=decide_eq_false g
   clear g
   obtain rfl:=Option.some.inj H
   go_wp2
   go_ret
   exact⟨by first|rfl|(simp;done)|(simp[*];done),by repeat (first|exact Drawn0.refl _|apply Drawn0.step)⟩
def spec_Less.f (a:ByteArray) (b:ByteArray):Option (Bool):=some (Op.bytesLess a.toList b.toList)
theorem spec_Less.calls (a:ByteArray) (b:ByteArray) (r:Bool) (w:World) (h:spec_Less.f a b=some r) :
  Calls Tryz.prog 128 #[.string a,.string b] w fun e w'=>e=.returned (.bool r)∧Drawn0 w w':=by
 unfold spec_Less.f at h
 have H:=h;clear h
 obtain rfl:=Option.some.inj H
 go_enter Tryz.func128,Tryz.ntmps128
 go_wp2
 go_ret
 exact⟨by first|rfl|(simp;done)|(simp[*];done),by repeat (first|exact Drawn0.refl _|apply Drawn0.step)⟩
def spec_PlainOk.l0:Nat→ByteArray→Int→Option (Bool)
 | 0,_,_=>none
 | k+1,a,b=>if b<(a.size:Int) then (if 0≤b then (if (bt a b)<32 then (some false) else (if (bt a b)>126 then (some false) else (if (bt a b)=34 then (some false) else (if (bt a b)=92 then (some false) else (spec_PlainOk.l0 k a (wrap64 (b+1))))))) else (none)) else (some (decide ((a.size:Int)≤12)))
def spec_PlainOk.f (k:Nat) (a:ByteArray):Option (Bool):=spec_PlainOk.l0 k a 0
theorem spec_PlainOk.calls (k:Nat) (b:ByteArray) (r:Bool) (w:World) (h:spec_PlainOk.f k b=some r) :
  Calls Tryz.prog 122 #[.string b] w fun e w'=>e=.returned (.bool r)∧Drawn0 w w':=by
 unfold spec_PlainOk.f at h
 have H:=h;clear h
 have H':=M_ H
 clear H
 go_enter Tryz.func122,Tryz.ntmps122
 go_wp2
 go_loopg [3] k (fun kq J w'=>∃(a:Int),J=.int .i64 a∧Aside0 (spec_PlainOk.l0 kq b a=some r)∧Aside0 (kq≤k)∧Drawn0 w w')
 case atStart=>exact⟨(0),rs_,H',⟨Nat.le_refl _⟩,by repeat (first|exact Drawn0.refl _|apply Drawn0.step)⟩
 case round=>
  clear H'
  obtain⟨a,rfl,D,o,⟨m1,rfl⟩⟩:=hrel
  cases gk with
  | zero=>exact absurd D.1 (by simp[spec_PlainOk.l0])
  | succ K=>
   have H:=D.1
   clear D
   simp only[spec_PlainOk.l0] at H
   replace H:=ie_ H;rcases H with⟨p,H⟩|⟨p,H⟩
   ·
    have q:=decide_eq_true p
    clear p
    replace H:=id_ H;obtain⟨F,H⟩:=H
    replace H:=ie_ H;rcases H with⟨s,H⟩|⟨s,H⟩
    ·
     have t:=decide_eq_true s
     clear s
     obtain rfl:=Option.some.inj H
     obtain⟨i,j⟩:0≤(a:Int)∧a<(b.size:Int):=pq_
     have u:=bt_at b a
     replace i:=eq_true i;replace j:=eq_true j
     go_wp2
     go_ret
     exact⟨by first|rfl|(simp;done)|(simp[*];done),by repeat (first|exact Drawn0.refl _|apply Drawn0.step)⟩
    have t:decide ((bt b a)<32)=false:=decide_eq_false s
    clear s
    replace H:=ie_ H;rcases H with⟨v,H⟩|⟨v,H⟩
    ·
     have x:decide (126<(bt b a))=true:=decide_eq_true v
     clear v
     obtain rfl:=Option.some.inj H
     obtain⟨i,j⟩:0≤(a:Int)∧a<(b.size:Int):=pq_
     have u:=bt_at b a
     replace i:=eq_true i;replace j:=eq_true j
     obtain⟨y,z⟩:0≤(a:Int)∧a<(b.size:Int):=pq_
     have E:=bt_at b a
     replace y:=eq_true y;replace z:=eq_true z
     go_wp2
     go_ret
     exact⟨by first|rfl|(simp;done)|(simp[*];done),by repeat (first|exact Drawn0.refl _|apply Drawn0.step)⟩
    have x:decide (126<(bt b a))=false:=decide_eq_false v
    clear v
    have AHz_:=M_ H
    clear H
    obtain⟨i,j⟩:0≤(a:Int)∧a<(b.size:Int):=pq_
    have u:=bt_at b a
    replace i:=eq_true i;replace j:=eq_true j
    obtain⟨y,z⟩:0≤(a:Int)∧a<(b.size:Int):=pq_
    have E:=bt_at b a
    replace y:=eq_true y;replace z:=eq_true z
    obtain⟨G,I⟩:0≤(a:Int)∧a<(b.size:Int):=pq_
    have L:=bt_at b a
    replace G:=eq_true G;replace I:=eq_true I
    have H:=AHz_.1
    clear AHz_
    replace H:=ie_ H;rcases H with⟨n,H⟩|⟨n,H⟩
    ·
     have A:((bt b a)==34)=true:=beq_iff_eq.mpr n
     have B:((bt b a) !=34)=false:=bne_eq_false_iff_eq.mpr n
     clear n
     obtain rfl:=Option.some.inj H
     go_wp2
     go_ret
     exact⟨by first|rfl|(simp;done)|(simp[*];done),by repeat (first|exact Drawn0.refl _|apply Drawn0.step)⟩
    have A:((bt b a)==34)=false:=beq_eq_false_iff_ne.mpr n
    have B:((bt b a) !=34)=true:=bne_iff_ne.mpr n
    replace H:=ie_ H;rcases H with⟨c,H⟩|⟨c,H⟩
    ·
     have l:((bt b a)==92)=true:=beq_iff_eq.mpr c
     have m:((bt b a) !=92)=false:=bne_eq_false_iff_eq.mpr c
     clear c
     obtain rfl:=Option.some.inj H
     obtain⟨d,g⟩:0≤(a:Int)∧a<(b.size:Int):=pq_
     have C:=bt_at b a
     replace d:=eq_true d;replace g:=eq_true g
     go_wp2
     go_ret
     exact⟨by first|rfl|(simp;done)|(simp[*];done),by repeat (first|exact Drawn0.refl _|apply Drawn0.step)⟩
    have l:((bt b a)==92)=false:=beq_eq_false_iff_ne.mpr c
    have m:((bt b a) !=92)=true:=bne_iff_ne.mpr c
    have H':=M_ H
    clear H
    obtain⟨d,g⟩:0≤(a:Int)∧a<(b.size:Int):=pq_
    have C:=bt_at b a
    replace d:=eq_true d;replace g:=eq_true g
    go_wp2
    go_roundg K
    case measure=>have:=o.1;omega
    case rel=>exact⟨(wrap64 (a+1)),rs_,H',⟨by have:=o.1;omega⟩,by repeat (first|exact Drawn0.refl _|apply Drawn0.step)⟩
   have q:decide (a<(b.size:Int))=false:=decide_eq_false p
   clear p
   obtain rfl:=Option.some.inj H
   go_wp2
   go_ret
   exact⟨by first|rfl|(simp;done)|(simp[*];done),by repeat (first|exact Drawn0.refl _|apply Drawn0.step)⟩
def spec_l1In.f (a:Int) (b:Int) (c:Int):Option (Bool):=if a≥b then (some (decide (a≤c))) else (some false)
theorem spec_l1In.calls (c:Int) (d:Int) (g:Int) (r:Bool) (w:World) (h:spec_l1In.f c d g=some r) :
  Calls Tryz.prog 78 #[.int .i64 c,.int .i64 d,.int .i64 g] w fun e w'=>e=.returned (.bool r)∧Drawn0 w w':=by
 unfold spec_l1In.f at h
 have H:=h;clear h
 replace H:=ie_ H;rcases H with⟨a,H⟩|⟨a,H⟩
 ·
  have b:decide (d≤c)=true:=decide_eq_true a
  clear a
  obtain rfl:=Option.some.inj H
  go_enter Tryz.func78,Tryz.ntmps78
  go_wp2
  go_ret
  exact⟨by first|rfl|(simp;done)|(simp[*];done),by repeat (first|exact Drawn0.refl _|apply Drawn0.step)⟩
 have b:decide (d≤c)=false:=decide_eq_false a
 clear a
 obtain rfl:=Option.some.inj H
 go_enter Tryz.func78,Tryz.ntmps78
 go_wp2
 go_ret
 exact⟨by first|rfl|(simp;done)|(simp[*];done),by repeat (first|exact Drawn0.refl _|apply Drawn0.step)⟩
def spec_NameOk.l0:Nat→ByteArray→Int→Option (Bool)
 | 0,_,_=>none
 | k+1,a,b=>if b<(a.size:Int) then (if 0≤b then (if (bt a b)<97 then (some false) else (if (bt a b)>122 then (some false) else (spec_NameOk.l0 k a (wrap64 (b+1))))) else (none)) else ((spec_l1In.f (a.size:Int) 1 8).bind fun c=>(some c))
def spec_NameOk.f (k:Nat) (a:ByteArray):Option (Bool):=spec_NameOk.l0 k a 0
theorem spec_NameOk.calls (k:Nat) (b:ByteArray) (r:Bool) (w:World) (h:spec_NameOk.f k b=some r) :
  Calls Tryz.prog 153 #[.string b] w fun e w'=>e=.returned (.bool r)∧Drawn0 w w':=by
 unfold spec_NameOk.f at h
 have H:=h;clear h
 have H':=M_ H
 clear H
 go_enter Tryz.func153,Tryz.ntmps153
 go_wp2
 go_loopg [3] k (fun kq y w'=>∃(a:Int),y=.int .i64 a∧Aside0 (spec_NameOk.l0 kq b a=some r)∧Aside0 (kq≤k)∧Drawn0 w w')
 case atStart=>exact⟨(0),rs_,H',⟨Nat.le_refl _⟩,by repeat (first|exact Drawn0.refl _|apply Drawn0.step)⟩
 case round=>
  clear H'
  obtain⟨a,rfl,u,g,⟨m1,rfl⟩⟩:=hrel
  cases gk with
  | zero=>exact absurd u.1 (by simp[spec_NameOk.l0])
  | succ z=>
   have H:=u.1
   clear u
   simp only[spec_NameOk.l0] at H
   replace H:=ie_ H;rcases H with⟨i,H⟩|⟨i,H⟩
   ·
    have j:=decide_eq_true i
    clear i
    replace H:=id_ H;obtain⟨x,H⟩:=H
    replace H:=ie_ H;rcases H with⟨l,H⟩|⟨l,H⟩
    ·
     have m:=decide_eq_true l
     clear l
     obtain rfl:=Option.some.inj H
     obtain⟨c,d⟩:0≤(a:Int)∧a<(b.size:Int):=pq_
     have n:=bt_at b a
     replace c:=eq_true c;replace d:=eq_true d
     go_wp2
     go_ret
     exact⟨by first|rfl|(simp;done)|(simp[*];done),by repeat (first|exact Drawn0.refl _|apply Drawn0.step)⟩
    have m:decide ((bt b a)<97)=false:=decide_eq_false l
    clear l
    replace H:=ie_ H;rcases H with⟨o,H⟩|⟨o,H⟩
    ·
     have p:decide (122<(bt b a))=true:=decide_eq_true o
     clear o
     obtain rfl:=Option.some.inj H
     obtain⟨c,d⟩:0≤(a:Int)∧a<(b.size:Int):=pq_
     have n:=bt_at b a
     replace c:=eq_true c;replace d:=eq_true d
     obtain⟨q,s⟩:0≤(a:Int)∧a<(b.size:Int):=pq_
     have v:=bt_at b a
     replace q:=eq_true q;replace s:=eq_true s
     go_wp2
     go_ret
     exact⟨by first|rfl|(simp;done)|(simp[*];done),by repeat (first|exact Drawn0.refl _|apply Drawn0.step)⟩
    have p:decide (122<(bt b a))=false:=decide_eq_false o
    clear o
    have H':=M_ H
    clear H
    obtain⟨c,d⟩:0≤(a:Int)∧a<(b.size:Int):=pq_
    have n:=bt_at b a
    replace c:=eq_true c;replace d:=eq_true d
    obtain⟨q,s⟩:0≤(a:Int)∧a<(b.size:Int):=pq_
    have v:=bt_at b a
    replace q:=eq_true q;replace s:=eq_true s
    go_wp2
    go_roundg z
    case measure=>have:=g.1;omega
    case rel=>exact⟨(wrap64 (a+1)),rs_,H',⟨by have:=g.1;omega⟩,by repeat (first|exact Drawn0.refl _|apply Drawn0.step)⟩
   have j:decide (a<(b.size:Int))=false:=decide_eq_false i
   clear i
   replace H:=bi_ H;obtain⟨t,A,H⟩:=H
   obtain rfl:=Option.some.inj H
   go_wp2_with (first|((with_reducible refine gate_callee (f:=78) rfl ?_);refine gl_ (some 22) Tryz.func78 #[.int .i64 (b.size:Int),.int .i64 1,.int .i64 8] ?_;(with_reducible refine(spec_l1In.calls (b.size:Int) 1 8 t _ A.1).mono ?_);rintro e w' ⟨rfl,⟨B,rfl⟩⟩;refine⟨_,rfl,?_⟩))
   go_ret
   exact⟨by first|rfl|(simp;done)|(simp[*];done),by repeat (first|exact Drawn0.refl _|apply Drawn0.step)⟩
def spec_LabelOk.f (k:Nat) (a:ByteArray) (b:ByteArray):Option (Bool):=(spec_NameOk.f k a).bind fun c=>(if c=true then ((spec_PlainOk.f k b).bind fun d=>(some d)) else (some false))
theorem spec_LabelOk.calls (k:Nat) (a:ByteArray) (b:ByteArray) (r:Bool) (w:World) (h:spec_LabelOk.f k a b=some r) :
  Calls Tryz.prog 136 #[.agg #[.string a,.string b]] w fun e w'=>e=.returned (.bool r)∧Below w.heap.size w w':=by
 have hu99:=Tryz.underlying99
 have d:=M_ (Below.refl w.heap.size w)
 unfold spec_LabelOk.f at h
 have H:=h;clear h
 replace H:=bi_ H;obtain⟨g,q,H⟩:=H
 have AHz_:=M_ H
 clear H
 go_enter Tryz.func136,Tryz.ntmps136
 go_wp2_with (first|((with_reducible refine gd_ 1 rfl ?_);refine bV_ 1 #[.string a,.string b] 99 ?_;intro j hg u c hb;have l:=gq_ hg d;replace d:=st_ d hb;clear hb hg;obtain⟨m,n,o,p⟩:=bc2_ c.1)|(((with_reducible refine gate_callee (f:=153) rfl ?_);refine gl_ (some 5) Tryz.func153 #[.string a] ?_;(with_reducible refine(spec_NameOk.calls k a g _ q.1).mono ?_);rintro e w' ⟨rfl,⟨s,rfl⟩⟩;refine⟨_,rfl,?_⟩);refine Aside0.out ?_))
 have H:=AHz_.1
 clear AHz_
 replace H:=ib_ H;rcases H with⟨rfl,H⟩|⟨rfl,H⟩
 ·
  replace H:=bi_ H;obtain⟨i,t,H⟩:=H
  obtain rfl:=Option.some.inj H
  refine⟨?_⟩
  go_wp2_with (first|(go_at_call 122;(with_reducible refine(spec_PlainOk.calls k b i _ t.1).mono ?_);rintro e w' ⟨rfl,⟨s,rfl⟩⟩))
  go_ret
  exact an_ (hs_ d.1)
 obtain rfl:=Option.some.inj H
 refine⟨?_⟩
 go_wp2
 go_ret
 exact an_ (hs_ d.1)
def spec_SetOk.l0:Nat→List S99→Int→Option (Bool)
 | 0,_,_=>none
 | k+1,b,a=>if a<(b.length:Int) then (if 0≤a then ((spec_LabelOk.f k ((rd_T99 b a).f0) ((rd_T99 b a).f1)).bind fun c=>(if c=true then (if a>0 then (if 0≤(wrap64 (a-1)) then (if (wrap64 (a-1))<(b.length:Int) then ((spec_Less.f ((rd_T99 b (wrap64 (a-1))).f0) ((rd_T99 b a).f0)).bind fun d=>(if d=true then (spec_SetOk.l0 k b (wrap64 (a+1))) else (some false))) else (none)) else (none)) else (spec_SetOk.l0 k b (wrap64 (a+1)))) else (some false))) else (none)) else (some (decide ((b.length:Int)≤4)))
def spec_SetOk.f (k:Nat) (l0:List S99):Option (Bool):=spec_SetOk.l0 k l0 0
def spec_SetOk.T4:Bool×List (List Nat×List Nat):=(true,[([],[]),([],[]),([0,1],[0,1]),([2],[2]),([3],[3]),([4],[4]),([5,4],[5]),([6],[6]),([7,6],[6,7]),([8,6,6],[6,8]),([9],[9]),([9],[9]),([11,9],[9,11]),([10,12,9],[9,10,12]),([13,9],[9,13]),([14,9],[9,14]),([9],[9]),([9],[9]),([16,17,9],[9,16,17]),([18,9],[9,18]),([19,9],[9,19]),([15,20,9,9],[9,15,20]),([21,9],[9,21]),([9,22,6],[6,9,22]),([6,23],[6,23])])
def spec_SetOk.B4:List Nat:=[0,0,3,7,15,31,63,127,255,511,1023,1023,3071,8191,16383,32767,1023,1023,197631,459775,984063,2097151,4194303,8388607,16777215]
theorem spec_SetOk.tab4:rtab .any (opsOf Tryz.f118 4)=spec_SetOk.T4:=by kernel_rfl
theorem spec_SetOk.bits4:waitsOk spec_SetOk.T4.2 spec_SetOk.B4=true:=by kernel_rfl
theorem spec_SetOk.calls (k:Nat) (A0:Option Addr) (c0:Nat) (l0:List S99) (r:Bool) (w:World) (R:Kd.C k99 w A0 l0.length l0) (T:l0.length≤c0) (h:spec_SetOk.f k l0=some r) :
  Calls Tryz.prog 118 #[.slice A0 l0.length c0] w fun e w'=>e=.returned (.bool r)∧Below w.heap.size w w':=by
 have hu99:=Tryz.underlying99
 have M:=M_ R
 have la:=M_ T
 clear R T
 have l:=M_ (Below.refl w.heap.size w)
 unfold spec_SetOk.f at h
 have H:=h;clear h
 have H':=M_ H
 clear H
 go_enter Tryz.func118,Tryz.ntmps118
 go_wp2
 go_loopg [3] k (fun kq v3 w'=>∃(a:Int),v3=.int .i64 a∧Aside0 (spec_SetOk.l0 kq l0 a=some r)∧Aside0 (kq≤k)∧Aside0 (Below w.heap.size w w'))
 case atStart=>exact⟨(0),rs_,H',⟨Nat.le_refl _⟩,⟨hs_ l.1⟩⟩
 case round=>
  clear H'
  obtain⟨a,rfl,HA,L,l⟩:=hrel
  cases gk with
  | zero=>exact absurd HA.1 (by simp[spec_SetOk.l0])
  | succ Q=>
   have H:=HA.1
   clear HA
   simp only[spec_SetOk.l0] at H
   replace H:=ie_ H;rcases H with⟨U,H⟩|⟨U,H⟩
   ·
    have V:=decide_eq_true U
    clear U
    replace H:=id_ H;obtain⟨ha,H⟩:=H
    replace H:=bi_ H;obtain⟨ia,A4,H⟩:=H
    have AHz_:=M_ H
    clear H
    try go_wp2
    replace l:=db_ l
    obtain⟨B,D⟩:0≤(a:Int)∧a<(l0.length:Int):=pq_
    obtain⟨j,W,i,m⟩:=at_T99 M.1 a B D
    have b:=m
    have c:=i
    cases W
    replace i:=c2_ l i m;clear m;obtain⟨i,m⟩:=i
    replace B:=eq_true B;replace D:=eq_true D
    have H:=AHz_.1
    clear AHz_
    replace H:=ib_ H;rcases H with⟨rfl,H⟩|⟨rfl,H⟩
    ·
     replace H:=ie_ H;rcases H with⟨X,H⟩|⟨X,H⟩
     ·
      have Y:decide (0<a)=true:=decide_eq_true X
      clear X
      obtain⟨y,z⟩:∃j_:Int,(wrap64 (a-1))=j_:=⟨_,rfl⟩
      replace H:(if 0≤(y) then (if (y)<(l0.length:Int) then ((spec_Less.f ((rd_T99 l0 (y)).f0) ((rd_T99 l0 a).f0)).bind fun E=>(if E=true then (spec_SetOk.l0 Q l0 (wrap64 (a+1))) else (some false))) else (none)) else (none))=some r:=by first|(rw[z] at H;exact H)|(simp only[z] at H ⊢;exact H)
      (try rw[z] at A4)
      have da:(IntKind.i64.wrap (a-1))=y:=(i64_w _).trans z
      replace H:=i2_ H;obtain⟨ja,ka,H⟩:=H
      replace H:=bi_ H;obtain⟨E,ea,H⟩:=H
      have AHz_:=M_ H
      clear H
      obtain⟨F,G⟩:0≤((y):Int)∧(y)<(l0.length:Int):=pq_
      obtain⟨N,Z,o,v⟩:=at_T99 M.1 (y) F G
      have p:=v
      have q:=o
      obtain rfl:j=N:=(by injection Z)
      replace o:=c2_ l o v;clear v;obtain⟨o,v⟩:=o
      replace F:=eq_true F;replace G:=eq_true G
      obtain⟨I,J⟩:0≤(a:Int)∧a<(l0.length:Int):=pq_
      obtain⟨O,aa,s,x⟩:=at_T99 M.1 a I J
      have t:=x
      have u:=s
      obtain rfl:j=O:=(by injection aa)
      replace s:=c2_ l s x;clear x;obtain⟨s,x⟩:=s
      replace I:=eq_true I;replace J:=eq_true J
      refine start_ (n:=25) (S:=fun w'=>w'.cell? (j.add ((a).toNat*2))=some (.string ((rd_T99 l0 a).f0))∧d_ w' (j.add ((a).toNat*2)) 1 (.string ((rd_T99 l0 a).f1))∧w'.cell? (j.add (((y)).toNat*2))=some (.string ((rd_T99 l0 (y)).f0))∧d_ w' (j.add (((y)).toNat*2)) 1 (.string ((rd_T99 l0 (y)).f1))∧w'.cell? (j.add ((a).toNat*2))=some (.string ((rd_T99 l0 a).f0))∧d_ w' (j.add ((a).toNat*2)) 1 (.string ((rd_T99 l0 a).f1))) (ds:=[]) (b_ 0 25) (by kernel_rfl) rfl rfl ⟨((l.1.cell (World.block_lt_of_cell? w _ c)).trans c),((l.1.cell (World.block_lt_of_cell? w _ b)).trans b),((l.1.cell (World.block_lt_of_cell? w _ q)).trans q),((l.1.cell (World.block_lt_of_cell? w _ p)).trans p),((l.1.cell (World.block_lt_of_cell? w _ u)).trans u),((l.1.cell (World.block_lt_of_cell? w _ t)).trans t)⟩ (fun g=>?_);refine with_tabW spec_SetOk.tab4 spec_SetOk.bits4 (fun d A=>?_)
      generalize wr.drew=na at l i m o v s x g ⊢
      iterate 3 refine p_ d ?_
      refine t0_ d A g ?_
      refine o1_ 4 (b_ 5 20) d (fun K P=>?_)
      refine gs_ Tryz.func136 #[.agg #[.string ((rd_T99 l0 a).f0),.string ((rd_T99 l0 a).f1)]] ?_
      with_reducible refine(spec_LabelOk.calls Q ((rd_T99 l0 a).f0) ((rd_T99 l0 a).f1) true _ A4.1).mono ?_
      rintro e oa ⟨rfl,hb⟩
      refine⟨_,rfl,?_⟩
      replace l:=st_ l hb
      (try clear hb)
      refine ho_ P ⟨((l.1.cell (World.block_lt_of_cell? w _ c)).trans c),((l.1.cell (World.block_lt_of_cell? w _ b)).trans b),((l.1.cell (World.block_lt_of_cell? w _ q)).trans q),((l.1.cell (World.block_lt_of_cell? w _ p)).trans p),((l.1.cell (World.block_lt_of_cell? w _ u)).trans u),((l.1.cell (World.block_lt_of_cell? w _ t)).trans t)⟩ (fun g=>?_)
      iterate 10 refine p_ d ?_
      refine qw_ 16 (m_ 25 98303) d ?_
      refine qw_ 17 (m_ 25 229375) d ?_
      refine qw_ 18 (m_ 25 491519) d ?_
      refine qw_ 19 (m_ 25 1015807) d ?_
      refine qt_ 15 (b_ 20 5) d A g ?_
      refine t0_ d A g ?_
      refine o1_ 21 (b_ 22 3) d (fun K P=>?_)
      refine goes_ Tryz.func128 (by kernel_rfl) rfl #[.string ((rd_T99 l0 (y)).f0),.string ((rd_T99 l0 a).f0)] (by rfl) rfl rfl (by (try simp only[mp_]);first|done|(simp only[z];rfl)|rfl|(simp only[List.length_drop,List.length_take];rfl)) ?_
      with_reducible refine(spec_Less.calls ((rd_T99 l0 (y)).f0) ((rd_T99 l0 a).f0) E _ ea.1).mono ?_
      rintro e w' ⟨rfl,⟨nd,rfl⟩⟩
      refine⟨_,rfl,?_⟩
      refine ho_ P ⟨((l.1.cell (World.block_lt_of_cell? w _ c)).trans c),((l.1.cell (World.block_lt_of_cell? w _ b)).trans b),((l.1.cell (World.block_lt_of_cell? w _ q)).trans q),((l.1.cell (World.block_lt_of_cell? w _ p)).trans p),((l.1.cell (World.block_lt_of_cell? w _ u)).trans u),((l.1.cell (World.block_lt_of_cell? w _ t)).trans t)⟩ (fun g=>?_)
      iterate 3 refine p_ d ?_
      have H:=AHz_.1
      clear AHz_
      replace H:=ib_ H;rcases H with⟨rfl,H⟩|⟨rfl,H⟩
      ·
       have H':=M_ H
       clear H
       refine done_ (done_of d.1 (by kernel_rfl)) ?_
       try go_wp2
       go_roundg Q
       case measure=>have:=L.1;omega
       case rel=>exact⟨(wrap64 (a+1)),rs_,H',⟨by have:=L.1;omega⟩,⟨hs_ l.1⟩⟩
      obtain rfl:=Option.some.inj H
      refine done_ (done_of d.1 (by kernel_rfl)) ?_
      try go_wp2
      go_ret
      exact⟨by first|rfl|(simp[errW_none,errW_some]<;>rfl)|(simp only[←z];first|rfl|(simp[errW_none,errW_some]<;>rfl))|(simp[*,errW_none,errW_some]<;>rfl),hs_ l.1⟩
     have Y:decide (0<a)=false:=decide_eq_false X
     clear X
     have H':=M_ H
     clear H
     refine start_ (n:=25) (S:=fun w'=>w'.cell? (j.add ((a).toNat*2))=some (.string ((rd_T99 l0 a).f0))∧d_ w' (j.add ((a).toNat*2)) 1 (.string ((rd_T99 l0 a).f1))) (ds:=[]) (b_ 0 25) (by kernel_rfl) rfl rfl ⟨((l.1.cell (World.block_lt_of_cell? w _ c)).trans c),((l.1.cell (World.block_lt_of_cell? w _ b)).trans b)⟩ (fun g=>?_);refine with_tabW spec_SetOk.tab4 spec_SetOk.bits4 (fun d A=>?_)
     generalize wr.drew=pa at l i m g ⊢
     iterate 3 refine p_ d ?_
     refine t0_ d A g ?_
     refine o1_ 4 (b_ 5 20) d (fun K P=>?_)
     refine gs_ Tryz.func136 #[.agg #[.string ((rd_T99 l0 a).f0),.string ((rd_T99 l0 a).f1)]] ?_
     with_reducible refine(spec_LabelOk.calls Q ((rd_T99 l0 a).f0) ((rd_T99 l0 a).f1) true _ A4.1).mono ?_
     rintro e qa ⟨rfl,hb⟩
     refine⟨_,rfl,?_⟩
     replace l:=st_ l hb
     (try clear hb)
     refine ho_ P ⟨((l.1.cell (World.block_lt_of_cell? w _ c)).trans c),((l.1.cell (World.block_lt_of_cell? w _ b)).trans b)⟩ (fun g=>?_)
     iterate 5 refine p_ d ?_
     iterate 13 refine v_ d ?_
     iterate 2 refine p_ d ?_
     refine done_ (done_of d.1 (by kernel_rfl)) ?_
     try go_wp2
     go_roundg Q
     case measure=>have:=L.1;omega
     case rel=>exact⟨(wrap64 (a+1)),rs_,H',⟨by have:=L.1;omega⟩,⟨hs_ l.1⟩⟩
    obtain rfl:=Option.some.inj H
    refine start_ (n:=25) (S:=fun w'=>w'.cell? (j.add ((a).toNat*2))=some (.string ((rd_T99 l0 a).f0))∧d_ w' (j.add ((a).toNat*2)) 1 (.string ((rd_T99 l0 a).f1))) (ds:=[]) (b_ 0 25) (by kernel_rfl) rfl rfl ⟨((l.1.cell (World.block_lt_of_cell? w _ c)).trans c),((l.1.cell (World.block_lt_of_cell? w _ b)).trans b)⟩ (fun g=>?_);refine with_tabW spec_SetOk.tab4 spec_SetOk.bits4 (fun d A=>?_)
    generalize wr.drew=ra at l i m g ⊢
    iterate 3 refine p_ d ?_
    refine t0_ d A g ?_
    refine o1_ 4 (b_ 5 20) d (fun K P=>?_)
    refine gs_ Tryz.func136 #[.agg #[.string ((rd_T99 l0 a).f0),.string ((rd_T99 l0 a).f1)]] ?_
    with_reducible refine(spec_LabelOk.calls Q ((rd_T99 l0 a).f0) ((rd_T99 l0 a).f1) false _ A4.1).mono ?_
    rintro e sa ⟨rfl,hb⟩
    refine⟨_,rfl,?_⟩
    replace l:=st_ l hb
    (try clear hb)
    refine ho_ P ⟨((l.1.cell (World.block_lt_of_cell? w _ c)).trans c),((l.1.cell (World.block_lt_of_cell? w _ b)).trans b)⟩ (fun g=>?_)
    iterate 2 refine p_ d ?_
    iterate 17 refine v_ d ?_
    refine p_ d ?_
    refine done_ (done_of d.1 (by kernel_rfl)) ?_
    try go_wp2
    go_ret
    exact an_ (hs_ l.1)
   have V:decide (a<(l0.length:Int))=false:=decide_eq_false U
   clear U
   obtain rfl:=Option.some.inj H
   go_wp2
   go_ret
   exact an_ (hs_ l.1)
def spec_SetText.l0:Nat→List S99→ByteArray→Int→Option (ByteArray)
 | 0,_,_,_=>none
 | k+1,b,c,a=>if a<(b.length:Int) then (if a>0 then (if c.size+2≤9223372036854775807 then (if 0≤a then (if (c++(⟨#[44,32]⟩:ByteArray)).size+((rd_T99 b a).f0).size≤9223372036854775807 then (if ((c++(⟨#[44,32]⟩:ByteArray))++((rd_T99 b a).f0)).size+2≤9223372036854775807 then (if (((c++(⟨#[44,32]⟩:ByteArray))++((rd_T99 b a).f0))++(⟨#[61,34]⟩:ByteArray)).size+((rd_T99 b a).f1).size≤9223372036854775807 then (if ((((c++(⟨#[44,32]⟩:ByteArray))++((rd_T99 b a).f0))++(⟨#[61,34]⟩:ByteArray))++((rd_T99 b a).f1)).size+1≤9223372036854775807 then (spec_SetText.l0 k b (((((c++(⟨#[44,32]⟩:ByteArray))++((rd_T99 b a).f0))++(⟨#[61,34]⟩:ByteArray))++((rd_T99 b a).f1))++(⟨#[34]⟩:ByteArray)) (wrap64 (a+1))) else (none)) else (none)) else (none)) else (none)) else (none)) else (none)) else (if 0≤a then (if c.size+((rd_T99 b a).f0).size≤9223372036854775807 then (if (c++((rd_T99 b a).f0)).size+2≤9223372036854775807 then (if ((c++((rd_T99 b a).f0))++(⟨#[61,34]⟩:ByteArray)).size+((rd_T99 b a).f1).size≤9223372036854775807 then (if (((c++((rd_T99 b a).f0))++(⟨#[61,34]⟩:ByteArray))++((rd_T99 b a).f1)).size+1≤9223372036854775807 then (spec_SetText.l0 k b ((((c++((rd_T99 b a).f0))++(⟨#[61,34]⟩:ByteArray))++((rd_T99 b a).f1))++(⟨#[34]⟩:ByteArray)) (wrap64 (a+1))) else (none)) else (none)) else (none)) else (none)) else (none))) else (if c.size+1≤9223372036854775807 then (some (c++(⟨#[125]⟩:ByteArray))) else (none))
def spec_SetText.f (k:Nat) (l0:List S99):Option (ByteArray):=(spec_SetOk.f k l0).bind fun a=>(if a=true then (spec_SetText.l0 k l0 (⟨#[123]⟩:ByteArray) 0) else (some (⟨#[]⟩:ByteArray)))
theorem spec_SetText.calls (k:Nat) (A0:Option Addr) (c0:Nat) (l0:List S99) (r:ByteArray) (w:World) (G:Kd.C k99 w A0 l0.length l0) (I:l0.length≤c0) (h:spec_SetText.f k l0=some r) :
  Calls Tryz.prog 99 #[.slice A0 l0.length c0] w fun e w'=>e=.returned (.string r)∧Below w.heap.size w w':=by
 have d:=M_ G
 have o:=M_ I
 clear G I
 have c:=M_ (Below.refl w.heap.size w)
 unfold spec_SetText.f at h
 have H:=h;clear h
 replace H:=bi_ H;obtain⟨J,K,H⟩:=H
 have AHz_:=M_ H
 clear H
 go_enter Tryz.func99,Tryz.ntmps99
 go_wp2_with (first|((go_at_call 118;(with_reducible refine(spec_SetOk.calls k _ _ l0 J _ ?_ ?_ K.1).mono ?_);exact cp_ (d.1);exact o.1;rintro e w4 ⟨rfl,hb⟩;replace c:=st_ c hb;(try clear hb));refine Aside0.out ?_))
 have H:=AHz_.1
 clear AHz_
 replace H:=ib_ H;rcases H with⟨rfl,H⟩|⟨rfl,H⟩
 ·
  have H':=M_ H
  clear H
  refine⟨?_⟩
  go_wp2
  repeat (go_quiet (first|(go_at_call 118;(with_reducible refine(spec_SetOk.calls k _ _ l0 true _ ?_ ?_ K.1).mono ?_);exact cp_ (d.1);exact o.1;rintro e w4 ⟨rfl,hb⟩;replace c:=st_ c hb;(try clear hb)));try go_wp2_with (first|(go_at_call 118;(with_reducible refine(spec_SetOk.calls k _ _ l0 true _ ?_ ?_ K.1).mono ?_);exact cp_ (d.1);exact o.1;rintro e w4 ⟨rfl,hb⟩;replace c:=st_ c hb;(try clear hb))))
  go_loopg [3,4] k (fun kq v3 v4 w'=>∃(b:ByteArray) (a:Int),v3=.string b∧v4=.int .i64 a∧Aside0 (spec_SetText.l0 kq l0 b a=some r)∧Aside0 (kq≤k)∧Aside0 (Below w.heap.size w w'))
  case atStart=>exact⟨((⟨#[123]⟩:ByteArray)),(0),rs_,rs_,H',⟨Nat.le_refl _⟩,⟨hs_ c.1⟩⟩
  case round=>
   clear H'
   obtain⟨b,a,rfl,rfl,HA,q,c⟩:=hrel
   cases gk with
   | zero=>exact absurd HA.1 (by simp[spec_SetText.l0])
   | succ k1=>
    have H:=HA.1
    clear HA
    simp only[spec_SetText.l0] at H
    replace H:=ie_ H;rcases H with⟨L,H⟩|⟨L,H⟩
    ·
     have M:=decide_eq_true L
     clear L
     replace H:=ie_ H;rcases H with⟨N,H⟩|⟨N,H⟩
     ·
      have O:decide (0<a)=true:=decide_eq_true N
      clear N
      replace H:=in_ H;obtain⟨c7,H⟩:=H
      have Za:=eq_true c7
      have ab:=decide_eq_true c7
      try have bb:(9223372036854775807<b.size+2)=False:=eq_false (Nat.not_lt.2 c7)
      replace H:=id_ H;obtain⟨cb,H⟩:=H
      replace H:=in_ H;obtain⟨c9,H⟩:=H
      have db:=eq_true c9
      have eb:=decide_eq_true c9
      try have fb:(9223372036854775807<(b++(⟨#[44,32]⟩:ByteArray)).size+((rd_T99 l0 a).f0).size)=False:=eq_false (Nat.not_lt.2 c9)
      have p:=c9
      simp only[ByteArray.size_append,show (⟨#[44,32]⟩:ByteArray).size=2 from rfl] at p
      have gb:=eq_false (Nat.not_lt.2 p)
      have ib:=decide_eq_true p
      have jb:=eq_true p
      clear p
      replace H:=in_ H;obtain⟨s,H⟩:=H
      have fa:=eq_true s
      have ga:=decide_eq_true s
      try have ha:(9223372036854775807<((b++(⟨#[44,32]⟩:ByteArray))++((rd_T99 l0 a).f0)).size+2)=False:=eq_false (Nat.not_lt.2 s)
      have g:=s
      simp only[ByteArray.size_append,show (⟨#[44,32]⟩:ByteArray).size=2 from rfl] at g
      have ia:=eq_false (Nat.not_lt.2 g)
      have ja:=decide_eq_true g
      have ka:=eq_true g
      clear g
      replace H:=in_ H;obtain⟨t,H⟩:=H
      have la:=eq_true t
      have ma:=decide_eq_true t
      try have na:(9223372036854775807<(((b++(⟨#[44,32]⟩:ByteArray))++((rd_T99 l0 a).f0))++(⟨#[61,34]⟩:ByteArray)).size+((rd_T99 l0 a).f1).size)=False:=eq_false (Nat.not_lt.2 t)
      have i:=t
      simp only[ByteArray.size_append,show (⟨#[44,32]⟩:ByteArray).size=2 from rfl,show (⟨#[61,34]⟩:ByteArray).size=2 from rfl] at i
      have oa:=eq_false (Nat.not_lt.2 i)
      have pa:=decide_eq_true i
      have qa:=eq_true i
      clear i
      replace H:=in_ H;obtain⟨u,H⟩:=H
      have ra:=eq_true u
      have sa:=decide_eq_true u
      try have ta:(9223372036854775807<((((b++(⟨#[44,32]⟩:ByteArray))++((rd_T99 l0 a).f0))++(⟨#[61,34]⟩:ByteArray))++((rd_T99 l0 a).f1)).size+1)=False:=eq_false (Nat.not_lt.2 u)
      have j:=u
      simp only[ByteArray.size_append,show (⟨#[44,32]⟩:ByteArray).size=2 from rfl,show (⟨#[61,34]⟩:ByteArray).size=2 from rfl] at j
      have ua:=eq_false (Nat.not_lt.2 j)
      have va:=decide_eq_true j
      have wa:=eq_true j
      clear j
      have H':=M_ H
      clear H
      obtain⟨z,P,Q,R,kb,lb⟩:=au_T99 d.1 c a
      cases P
      obtain⟨A,S,T,U,mb,nb⟩:=au_T99 d.1 c a
      obtain rfl:z=A:=(by injection S)
      go_wp2
      repeat (go_quiet (fail);try go_wp2)
      go_roundg k1
      case measure=>have:=q.1;omega
      case rel=>exact⟨(((((b++(⟨#[44,32]⟩:ByteArray))++((rd_T99 l0 a).f0))++(⟨#[61,34]⟩:ByteArray))++((rd_T99 l0 a).f1))++(⟨#[34]⟩:ByteArray)),(wrap64 (a+1)),rs_,rs_,H',⟨by have:=q.1;omega⟩,⟨hs_ c.1⟩⟩
     have O:decide (0<a)=false:=decide_eq_false N
     clear N
     replace H:=id_ H;obtain⟨xa,H⟩:=H
     replace H:=in_ H;obtain⟨B,H⟩:=H
     have ya:=eq_true B
     have za:=decide_eq_true B
     try have Aa:(9223372036854775807<b.size+((rd_T99 l0 a).f0).size)=False:=eq_false (Nat.not_lt.2 B)
     replace H:=in_ H;obtain⟨v,H⟩:=H
     have Ba:=eq_true v
     have Ca:=decide_eq_true v
     try have Da:(9223372036854775807<(b++((rd_T99 l0 a).f0)).size+2)=False:=eq_false (Nat.not_lt.2 v)
     have l:=v
     simp only[ByteArray.size_append] at l
     have Ea:=eq_false (Nat.not_lt.2 l)
     have Fa:=decide_eq_true l
     have Ga:=eq_true l
     clear l
     replace H:=in_ H;obtain⟨x,H⟩:=H
     have Ha:=eq_true x
     have Ia:=decide_eq_true x
     try have Ja:(9223372036854775807<((b++((rd_T99 l0 a).f0))++(⟨#[61,34]⟩:ByteArray)).size+((rd_T99 l0 a).f1).size)=False:=eq_false (Nat.not_lt.2 x)
     have m:=x
     simp only[ByteArray.size_append,show (⟨#[61,34]⟩:ByteArray).size=2 from rfl] at m
     have Ka:=eq_false (Nat.not_lt.2 m)
     have La:=decide_eq_true m
     have Ma:=eq_true m
     clear m
     replace H:=in_ H;obtain⟨y,H⟩:=H
     have Na:=eq_true y
     have Oa:=decide_eq_true y
     try have Pa:(9223372036854775807<(((b++((rd_T99 l0 a).f0))++(⟨#[61,34]⟩:ByteArray))++((rd_T99 l0 a).f1)).size+1)=False:=eq_false (Nat.not_lt.2 y)
     have n:=y
     simp only[ByteArray.size_append,show (⟨#[61,34]⟩:ByteArray).size=2 from rfl] at n
     have Qa:=eq_false (Nat.not_lt.2 n)
     have Ra:=decide_eq_true n
     have Sa:=eq_true n
     clear n
     have H':=M_ H
     clear H
     obtain⟨D,V,W,X,ob,pb⟩:=au_T99 d.1 c a
     cases V
     obtain⟨E,Y,Z,aa,qb,rb⟩:=au_T99 d.1 c a
     obtain rfl:D=E:=(by injection Y)
     go_wp2
     repeat (go_quiet (fail);try go_wp2)
     go_roundg k1
     case measure=>have:=q.1;omega
     case rel=>exact⟨((((b++((rd_T99 l0 a).f0))++(⟨#[61,34]⟩:ByteArray))++((rd_T99 l0 a).f1))++(⟨#[34]⟩:ByteArray)),(wrap64 (a+1)),rs_,rs_,H',⟨by have:=q.1;omega⟩,⟨hs_ c.1⟩⟩
    have M:decide (a<(l0.length:Int))=false:=decide_eq_false L
    clear L
    replace H:=in_ H;obtain⟨F,H⟩:=H
    have Ta:=eq_true F
    have Ua:=decide_eq_true F
    try have Va:(9223372036854775807<b.size+1)=False:=eq_false (Nat.not_lt.2 F)
    obtain rfl:=Option.some.inj H
    go_wp2
    repeat (go_quiet (fail);try go_wp2)
    go_ret
    exact an_ (hs_ c.1)
 obtain rfl:=Option.some.inj H
 refine⟨?_⟩
 go_wp2
 repeat (go_quiet (first|(go_at_call 118;(with_reducible refine(spec_SetOk.calls k _ _ l0 false _ ?_ ?_ K.1).mono ?_);exact cp_ (d.1);exact o.1;rintro e w4 ⟨rfl,hb⟩;replace c:=st_ c hb;(try clear hb)));try go_wp2_with (first|(go_at_call 118;(with_reducible refine(spec_SetOk.calls k _ _ l0 false _ ?_ ?_ K.1).mono ?_);exact cp_ (d.1);exact o.1;rintro e w4 ⟨rfl,hb⟩;replace c:=st_ c hb;(try clear hb))))
 go_ret
 exact an_ (hs_ c.1)
end Go.Proofs.YtanfohlpkppeiaaGreat.Print
end
