import Derived.Test.YtanfohlpkppeiaaGreatMFnStoresBent1
import Derived.Test.YtanfohlpkppeiaaGreatMFnStoresBent3
import Derived.Test.YtanfohlpkppeiaaGreatMFnStoresBent4
import Derived.Test.YtanfohlpkppeiaaGreatMFnStoresBent2
section
namespace Go.Proofs.YtanfohlpkppeiaaGreat.Print
open Go.RowKit Go.Proofs.YtanfohlpkppeiaaGreatV.PrintWords Go.Proofs.YtanfohlpkppeiaaGreatV.PrintLast Go.Proofs.YtanfohlpkppeiaaGreatV.PrintMore
attribute [local go_sem] max2_int min2_int max_two min_two max_three min_three max_four min_four
set_option linter.unusedVariables false
set_option linter.unusedSimpArgs false
set_option maxHeartbeats 80000000
set_option maxRecDepth 100000
def spec_FindAlarm.f (k:Nat) (c:List S26) (d:List S99):Option ((List S99)×Int×Int×ByteArray×Bool):=if (c.length:Int)=0 then (some (([]:List S99),0,0,(⟨#[]⟩:ByteArray),false)) else ((spec_HomeOf.f k c d).bind fun b=>(if 0≤b then (if b<(c.length:Int) then ((spec_FindIn.f k ((rd_T26 c b).f0) ((rd_T26 c b).f1) ((rd_T26 c b).f2) d).bind fun a=>(some (a.1,a.2.1,a.2.2.1,a.2.2.2.1,a.2.2.2.2))) else (none)) else (none)))
theorem spec_FindAlarm.calls (k:Nat) (A0:Option Addr) (c0:Nat) (m:List S26) (X:Option Addr) (Y:Nat) (A:List S99) (r1:List S99) (r2:Int) (r3:Int) (r4:ByteArray) (r5:Bool) (w:World) (J:Kd.C k26 w A0 m.length m) (K:m.length≤c0) (L:Kd.C k99 w X A.length A) (M:A.length≤Y) (h:spec_FindAlarm.f k m A=some (r1,r2,r3,r4,r5)) :
  Calls Tryz.prog 39 #[.slice A0 m.length c0,.slice X A.length Y] w fun e w'=>∃v0_:Value,e=.returned (.tuple #[.agg #[v0_,.int .i64 r2,.int .i64 r3,.string r4],.bool r5])∧Kd.R k99 99 w' w.heap.size (fun _=>True) v0_ r1∧Below w.heap.size w w':=by
 have hu29:=Tryz.underlying29
 have hu26:=Tryz.underlying26
 have N:=M_ J
 have ca:=M_ K
 clear J K
 have O:=M_ L
 have P:=M_ M
 clear L M
 have c:=M_ (Below.refl w.heap.size w)
 unfold spec_FindAlarm.f at h
 have H:=h;clear h
 replace H:=ie_ H;rcases H with⟨E,H⟩|⟨E,H⟩
 ·
  have Q:((m.length:Int)==0)=true:=beq_iff_eq.mpr E
  have S:((m.length:Int) !=0)=false:=bne_eq_false_iff_eq.mpr E
  clear E
  simp only[Option.some.injEq,Prod.mk.injEq] at H
  obtain⟨rfl,rfl,rfl,rfl,rfl⟩:=H
  go_enter Tryz.func39,Tryz.ntmps39
  go_wp2_with (first|((with_reducible refine gd_ 4 rfl ?_);refine bV_ 4 #[.slice none 0 0,.int .i64 0,.int .i64 0,.string (⟨#[]⟩:ByteArray)] 29 ?_;intro n hg w4 a hb;have B:=gq_ hg c;replace c:=st_ c hb;clear hb hg;obtain⟨ra,sa,ta,ua,va,wa,xa,ya⟩:=bc4_ a.1))
  refine bodyPost_ret (results_ct rfl _ _ n 29 #[.slice none 0 0,.int .i64 0,.int .i64 0,.string (⟨#[]⟩:ByteArray)] (0,0) _ rfl (bp_ a.1) Tryz.underlying29 rfl (by kernel_rfl)) rfl ?_
  exact⟨_,rr_,by first|exact Kd.R_nil _ _ _ _ _|exact Kd.N_nil _ _ _ _ _|exact Kd.V_nil _ _ _ _ _|exact Kd.Q_nil _ _ _ _ _|exact Kd.S_nil _ _ _ _ _,hs_ c.1⟩
 have Q:((m.length:Int)==0)=false:=beq_eq_false_iff_ne.mpr E
 have S:((m.length:Int) !=0)=true:=bne_iff_ne.mpr E
 have za:¬(m=[]):=fun h_=>E (by rw[h_];rfl)
 replace H:=bi_ H;obtain⟨b,A6,H⟩:=H
 replace H:=i2_ H;obtain⟨Aa,Ba,H⟩:=H
 replace H:=bi_ H;obtain⟨⟨t,u,v,x,F⟩,A9,H⟩:=H;(try dsimp only at H)
 simp only[Option.some.injEq,Prod.mk.injEq] at H
 obtain⟨rfl,rfl,rfl,rfl,rfl⟩:=H
 go_enter Tryz.func39,Tryz.ntmps39
 go_wp2_with (first|((with_reducible refine gd_ 4 rfl ?_);refine bV_ 4 #[.slice none 0 0,.int .i64 0,.int .i64 0,.string (⟨#[]⟩:ByteArray)] 29 ?_;intro n hg Ea a hb;have B:=gq_ hg c;replace c:=st_ c hb;clear hb hg)|((with_reducible refine gate_callee (f:=48) rfl ?_);refine gl_ (some 13) Tryz.func48 #[.slice A0 m.length c0,.slice X A.length Y] ?_;(with_reducible refine(spec_HomeOf.calls k _ _ m _ _ A b _ ?_ ?_ ?_ ?_ A6.1).mono ?_);exact cp_ ((Kd.C_below N.1 c.1));exact ca.1;exact cp_ ((Kd.C_below O.1 c.1));exact P.1;rintro e Fa ⟨rfl,hb⟩;refine⟨_,rfl,?_⟩;obtain⟨a,c⟩:=u2_ hb a c;(try clear hb);have o:0≤(b:Int):=of_decide_eq_true (by with_reducible assumption);have p:b<(m.length:Int):=of_decide_eq_true (by with_reducible assumption);obtain⟨Z,y,z,G,d,g,i,j,l⟩:=at_T26 N.1 b o p;cases G;replace d:=cl_ c.1 d;replace g:=cl_ c.1 g;replace i:=cl_ c.1 i;have r:=M_ l;have s:=M_ j;clear l j;replace o:=eq_true o;replace p:=eq_true p)|((with_reducible refine gate_callee (f:=12) rfl ?_);refine gl_ (some 17) Tryz.func12 #[.agg #[.int .i64 ((rd_T26 m b).f0),.int .i64 ((rd_T26 m b).f1),.slice y ((rd_T26 m b).f2).length z],.slice X A.length Y] ?_;(with_reducible refine(spec_FindIn.calls k ((rd_T26 m b).f0) ((rd_T26 m b).f1) _ _ ((rd_T26 m b).f2) _ _ A t u v x F _ ?_ ?_ ?_ ?_ A9.1).mono ?_);exact cp_ ((Kd.C_below r.1 c.1));exact s.1;exact cp_ ((Kd.C_below O.1 c.1));exact P.1;rintro e Ga ⟨da,rfl,I,hb⟩;refine⟨_,rfl,?_⟩;obtain⟨T,D⟩:=Kd.R_name I;have q:=rg_ D I c;obtain⟨a,c⟩:=u2_ hb a c;(try clear hb I);obtain⟨U,V,W⟩:=Kd.R_slice q.1;subst W;obtain⟨ea,fa,ga,ha,ia,ja,ka,la⟩:=bc4_ a.1))
 refine bodyPost_ret (results_ct rfl _ _ n 29 #[.slice U t.length V,.int .i64 u,.int .i64 v,.string x] (0,0) _ rfl (bp_ a.1) Tryz.underlying29 rfl (by kernel_rfl)) rfl ?_
 exact⟨_,rr_,Kd.R_mono (ry_ q.1 a.1) (fun _ hk=>trivial),hs_ c.1⟩
def spec_DrawAllAlarms.f (k:Nat) (c:List Int):Option ((List S26)):=(spec_l1New.f k c).bind fun a=>((spec_l8Any.f k a.1 a.2.1 a.2.2).bind fun b=>(some b.1))
theorem spec_DrawAllAlarms.calls (k:Nat) (t:Option Addr) (u:Nat) (i:List Int) (r:List S26) (w:World) (o:Kd.C (Kd.int .u8) w t i.length i) (p:i.length≤u) (h:spec_DrawAllAlarms.f k i=some r) :
  Calls Tryz.prog 40 #[.slice t i.length u] w fun e w'=>∃v0_:Value,e=.returned (v0_)∧Kd.R k26 26 w' w.heap.size (fun _=>True) v0_ r∧Below w.heap.size w w':=by
 have v:=M_ o
 have x:=M_ p
 clear o p
 have j:=M_ (Below.refl w.heap.size w)
 unfold spec_DrawAllAlarms.f at h
 have H:=h;clear h
 replace H:=bi_ H;obtain⟨⟨b,c,d⟩,z,H⟩:=H;(try dsimp only at H)
 replace H:=bi_ H;obtain⟨⟨l,m,n⟩,A,H⟩:=H;(try dsimp only at H)
 obtain rfl:=Option.some.inj H
 go_enter Tryz.func40,Tryz.ntmps40
 go_wp2_with (first|((with_reducible refine gate_callee (f:=50) rfl ?_);refine gl_ (some 5) Tryz.func50 #[.slice t i.length u] ?_;(with_reducible refine(spec_l1New.calls k _ _ i b c d w _ ?_ ?_ ?_ z.1).mono ?_);exact hs_ j.1;exact v.1;exact x.1;rintro e B ⟨g1101,rfl,hi,hb,hb2⟩;refine⟨_,rfl,?_⟩;replace j:=M_ (hb);have a:=M_ (hi);(try clear hb);(try clear hb2);(try clear hi))|((with_reducible refine gate_callee (f:=86) rfl ?_);refine gl_ (some 7) Tryz.func86 #[.pointer (some ⟨g1101,0,none⟩)] ?_;(with_reducible refine(spec_l8Any.calls k g1101 b c d l m n w _ ?_ ?_ A.1).mono ?_);exact IsS102.pk_ a.1;exact hs_ j.1;rintro e D ⟨y,rfl,q,hi,hb,hk⟩;refine⟨_,rfl,?_⟩;have g:=rw_ q j;have s:=M_ (hb);have n2_:=M_ (hi);clear j a;have j:=s;have a:=n2_;clear s n2_;(try clear hb);(try clear hb2);(try clear hk hi q)))
 go_ret
 exact⟨_,rr_,rp_ g.1,hs_ j.1⟩
def spec_DrawHomeOf.f (k:Nat) (d:List Int):Option ((List S26)×(List S99)):=(spec_l1New.f k d).bind fun a=>((spec_l8Any.f k a.1 a.2.1 a.2.2).bind fun b=>((spec_l2Draw.f k a.1 b.2.1 b.2.2).bind fun c=>(some (b.1,c.1))))
theorem spec_DrawHomeOf.calls (k:Nat) (x:Option Addr) (y:Nat) (o:List Int) (E:List S26) (F:List S99) (w:World) (t:Kd.C (Kd.int .u8) w x o.length o) (u:o.length≤y) (h:spec_DrawHomeOf.f k o=some (E,F)) :
  Calls Tryz.prog 41 #[.slice x o.length y] w fun e w'=>∃v0_ v1_:Value,e=.returned (.tuple #[v0_,v1_])∧Kd.R k26 26 w' w.heap.size (fun k_=>some k_≠(v1_:Value).ownBlock) v0_ E∧Kd.R k99 99 w' w.heap.size (fun _=>True) v1_ F∧Below w.heap.size w w':=by
 have z:=M_ t
 have A:=M_ u
 clear t u
 have m:=M_ (Below.refl w.heap.size w)
 unfold spec_DrawHomeOf.f at h
 have H:=h;clear h
 replace H:=bi_ H;obtain⟨⟨b,j,l⟩,G,H⟩:=H;(try dsimp only at H)
 replace H:=bi_ H;obtain⟨⟨p,d,g⟩,I,H⟩:=H;(try dsimp only at H)
 replace H:=bi_ H;obtain⟨⟨q,r,s⟩,J,H⟩:=H;(try dsimp only at H)
 simp only[Option.some.injEq,Prod.mk.injEq] at H
 obtain⟨rfl,rfl⟩:=H
 go_enter Tryz.func41,Tryz.ntmps41
 go_wp2_with (first|((with_reducible refine gate_callee (f:=50) rfl ?_);refine gl_ (some 7) Tryz.func50 #[.slice x o.length y] ?_;(with_reducible refine(spec_l1New.calls k _ _ o b j l w _ ?_ ?_ ?_ G.1).mono ?_);exact hs_ m.1;exact z.1;exact A.1;rintro e K ⟨g1110,rfl,hi,hb,hb2⟩;refine⟨_,rfl,?_⟩;replace m:=M_ (hb);have a:=M_ (hi);(try clear hb);(try clear hb2);(try clear hi))|((with_reducible refine gate_callee (f:=86) rfl ?_);refine gl_ (some 9) Tryz.func86 #[.pointer (some ⟨g1110,0,none⟩)] ?_;(with_reducible refine(spec_l8Any.calls k g1110 b j l p d g w _ ?_ ?_ I.1).mono ?_);exact IsS102.pk_ a.1;exact hs_ m.1;rintro e L ⟨B,rfl,i,hi,hb,hk⟩;refine⟨_,rfl,?_⟩;have c:=rw_ i m;have v:=M_ (hb);have n2_:=M_ (hi);clear m a;have m:=v;have a:=n2_;clear v n2_;(try clear hb);(try clear hb2);(try clear hk hi i))|((with_reducible refine gate_callee (f:=88) rfl ?_);refine gl_ (some 12) Tryz.func88 #[.pointer (some ⟨g1110,0,none⟩)] ?_;(with_reducible refine(spec_l2Draw.calls k g1110 b d g q r s w _ ?_ ?_ J.1).mono ?_);exact IsS102.pk_ a.1;exact hs_ m.1;rintro e M ⟨D,rfl,i,hi,hb,hk⟩;refine⟨_,rfl,?_⟩;replace c:=M_ (Kd.R_mono (Kd.R_told (Kd.R_oldK (IsS102.apart (show IsS102 w _ g1110 b d g from IsS102.pk_ a.1) (rp_ c.1) (by decide)) hk) (Kd.R_base i)) (fun _ h_=>h_.1));have n:=rw_ i m;replace m:=M_ (hb);replace a:=M_ (hi);(try clear hb);(try clear hb2);(try clear hk hi i)))
 go_ret2
 exact⟨_,_,rr_,Kd.R_mono (rp_ c.1) (fun _ hk=>hk.2),rp_ n.1,hs_ m.1⟩
def spec_DrawStoreNew.f (k:Nat) (c:List Int):Option (Int):=(spec_l1New.f k c).bind fun a=>((spec_l1Below.f a.1 a.2.1 a.2.2 6).bind fun b=>(some (wrap64 (b.1-1))))
theorem spec_DrawStoreNew.calls (k:Nat) (p:Option Addr) (q:Nat) (g:List Int) (r:Int) (w:World) (m:Kd.C (Kd.int .u8) w p g.length g) (n:g.length≤q) (h:spec_DrawStoreNew.f k g=some r) :
  Calls Tryz.prog 42 #[.slice p g.length q] w fun e w'=>e=.returned (.int .i64 r)∧Below w.heap.size w w':=by
 have s:=M_ m
 have t:=M_ n
 clear m n
 have o:=M_ (Below.refl w.heap.size w)
 unfold spec_DrawStoreNew.f at h
 have H:=h;clear h
 replace H:=bi_ H;obtain⟨⟨b,c,d⟩,u,H⟩:=H;(try dsimp only at H)
 replace H:=bi_ H;obtain⟨⟨i,j,l⟩,v,H⟩:=H;(try dsimp only at H)
 obtain rfl:=Option.some.inj H
 go_enter Tryz.func42,Tryz.ntmps42
 go_wp2_with (first|((with_reducible refine gate_callee (f:=50) rfl ?_);refine gl_ (some 5) Tryz.func50 #[.slice p g.length q] ?_;(with_reducible refine(spec_l1New.calls k _ _ g b c d w _ ?_ ?_ ?_ u.1).mono ?_);exact hs_ o.1;exact s.1;exact t.1;rintro e x ⟨g1124,rfl,hi,hb,hb2⟩;refine⟨_,rfl,?_⟩;replace o:=M_ (hb);have a:=M_ (hi);(try clear hb);(try clear hb2);(try clear hi))|((with_reducible refine gate_callee (f:=69) rfl ?_);refine gl_ (some 7) Tryz.func69 #[.pointer (some ⟨g1124,0,none⟩),.int .i64 6] ?_;(with_reducible refine(spec_l1Below.calls g1124 b c d 6 i j l w _ ?_ ?_ v.1).mono ?_);exact IsS102.pk_ a.1;exact hs_ o.1;rintro e y ⟨rfl,hi,hb,hk⟩;refine⟨_,rfl,?_⟩;replace o:=M_ (hb);replace a:=M_ (hi);(try clear hb);(try clear hb2);(try clear hk hi)))
 go_ret
 exact an_ (hs_ o.1)
mutual
def impl_StoreNew.j0:Nat→Int→Option ((List S26))
 | 0,_=>none
 | k+1,a=>impl_StoreNew.l0 k ([]:List S26) a 0
def impl_StoreNew.l0:Nat→List S26→Int→Int→Option ((List S26))
 | 0,_,_,_=>none
 | k+1,a,b,c=>if c<b then (if a.length<3518437208883 then (impl_StoreNew.l0 k (a++[(⟨(-1),0,([]:List S80)⟩:S26)]) b (wrap64 (c+1))) else (none)) else (some a)
end
def impl_StoreNew.f (k:Nat) (b:Int):Option ((List S26)):=(impl_in.f b 1 3).bind fun a=>(if a=true then (impl_StoreNew.j0 k b) else (impl_StoreNew.j0 k 1))
theorem impl_StoreNew.calls (k:Nat) (q:Int) (r:List S26) (w:World) (h:impl_StoreNew.f k q=some r) :
  Calls Tryz.prog 43 #[.int .i64 q] w fun e w'=>∃v0_:Value,e=.returned (v0_)∧Kd.R k26 26 w' w.heap.size (fun _=>True) v0_ r∧Below w.heap.size w w':=by
 have hu26:=Tryz.underlying26
 have j:=M_ (Below.refl w.heap.size w)
 unfold impl_StoreNew.f at h
 have H:=h;clear h
 replace H:=bi_ H;obtain⟨n,A,H⟩:=H
 have o:=M_ H
 clear H
 go_enter Tryz.func43,Tryz.ntmps43
 go_upto_if 6 with(first|((with_reducible refine gate_callee (f:=75) rfl ?_);refine gl_ (some 5) Tryz.func75 #[.int .i64 q,.int .i64 1,.int .i64 3] ?_;(with_reducible refine(impl_in.calls q 1 3 n _ A.1).mono ?_);rintro e w' ⟨rfl,⟨E,rfl⟩⟩;refine⟨_,rfl,?_⟩))
 (try simp only[Act.put,List.setIfInBounds_toArray,List.set_cons_zero,List.set_cons_succ])
 go_cut [0] (fun B wc=>∃(kq:Nat) (a:Int),B=.int .i64 a∧Aside0 (impl_StoreNew.j0 kq a=some r)∧Aside0 (kq≤k)∧Aside0 (Below w.heap.size w wc))
 case first=>
  have H:=o.1
  clear o
  replace H:=ib_ H;rcases H with⟨rfl,H⟩|⟨rfl,H⟩
  ·
   have H':=M_ H
   clear H
   go_wp2
   go_meet
   case rel=>exact⟨_,(q),rs_,H',⟨by first|omega|exact Nat.le_refl _⟩,⟨hs_ j.1⟩⟩
  have H':=M_ H
  clear H
  go_wp2
  go_meet
  case rel=>exact⟨_,(1),rs_,H',⟨by first|omega|exact Nat.le_refl _⟩,⟨hs_ j.1⟩⟩
 case rest=>
  clear o
  obtain⟨kq,a,rfl,p,HJ2,j⟩:=hcut
  cases kq with
  | zero=>exact absurd p.1 (by simp[impl_StoreNew.j0])
  | succ s=>
   have H:=p.1
   clear p
   simp only[impl_StoreNew.j0] at H
   have H':=M_ H
   clear H
   go_wp2
   go_loopg [3,8] s (fun kq C D w'=>∃(d:List S26) (c:Int),D=.int .i64 c∧Aside0 (impl_StoreNew.l0 kq d a c=some r)∧Aside0 (kq≤s)∧Aside0 (Kd.R k26 26 w' w.heap.size (fun _=>True) C d)∧Aside0 (Below w.heap.size w w'))
   case atStart=>exact⟨(([]:List S26)),(0),rs_,H',⟨Nat.le_refl _⟩,⟨by first|exact Kd.R_nil _ _ _ _ _|exact Kd.N_nil _ _ _ _ _|exact Kd.V_nil _ _ _ _ _|exact Kd.Q_nil _ _ _ _ _|exact Kd.S_nil _ _ _ _ _⟩,⟨hs_ j.1⟩⟩
   case round=>
    clear H'
    obtain⟨d,c,rfl,p,t,g,j⟩:=hrel
    cases gk with
    | zero=>exact absurd p.1 (by simp[impl_StoreNew.l0])
    | succ z=>
     have H:=p.1
     clear p
     simp only[impl_StoreNew.l0] at H
     replace H:=ie_ H;rcases H with⟨u,H⟩|⟨u,H⟩
     ·
      have v:=decide_eq_true u
      clear u
      replace H:=im_ H;obtain⟨x,H⟩:=H
      obtain⟨i,hy_⟩:∃y_:List S26,y_=(d++[(⟨(-1),0,([]:List S80)⟩:S26)]):=⟨_,rfl⟩
      replace H:(impl_StoreNew.l0 z i a (wrap64 (c+1)))=some r:=hm_
      have l:=M_ hy_;clear hy_
      have H':=M_ H
      clear H
      go_wp2_with (first|((with_reducible refine gate_builtin (b:=.append) (xs:=#[.tmp 10,.tmp 12]) rfl ?_);at_builtin;refine Kd.R_append k26 (w0:=w) w.heap.size rfl (.tmp 10) (.tmp 12) 54 26 (.agg #[(.int .i64 0),(.int .i64 0),(.slice none 0 0)]) 40 rfl Tryz.underlying54 info26 rfl (by decide) (by omega) u3 d (⟨(-1),0,([]:List S80)⟩:S26) [.int .i64 (-1),.int .i64 0,.slice none 0 0] (fun _=>True) (fun k_=>((fun _=>True)) k_∧some k_≠(u3:Value).ownBlock) rfl rfl ?aP (fun _ hk=>hk) ?aF ?aO ?aB ?aS ?aL ?_;(case aP=>exact k26_mkM _ _ _ (⟨(-1),0,([]:List S80)⟩:S26) (Kd.S_nil _ _ _ _ _));(case aB=>exact(hs_ j.1));(case aF=>exact(fun _ _=>trivial));(case aO=>exact(rp_ g.1));(case aS=>exact(below_size (hs_ j.1)));(case aL=>have:=x.1;omega);intro y F ho hb hg hat;rw[←l.1] at ho;replace j:=M_ (hb);have m:=M_ (ho);clear g;clear ho hb hg hat))
      go_roundg z
      case measure=>have:=HJ2.1;have:=t.1;omega
      case rel=>exact⟨(i),(wrap64 (c+1)),rs_,H',⟨by have:=HJ2.1;have:=t.1;omega⟩,⟨rp_ m.1⟩,⟨hs_ j.1⟩⟩
     have v:decide (c<a)=false:=decide_eq_false u
     clear u
     obtain rfl:=Option.some.inj H
     go_wp2
     go_ret
     exact⟨_,rr_,rp_ g.1,hs_ j.1⟩
def spec_AlarmOk.f (k:Nat) (a:List S99) (b:Int) (h:Int) (i:ByteArray):Option (Bool):=(spec_SetOk.f k a).bind fun c=>(if c=true then (if (a.length:Int)>0 then ((spec_l1In.f b 0 99999).bind fun d=>(if d=true then ((spec_l1In.f h b 99999).bind fun e=>(if e=true then ((spec_PlainOk.f k i).bind fun g=>(some g)) else (some false))) else (some false))) else (some false)) else (some false))
theorem spec_AlarmOk.calls (k:Nat) (d:Option Addr) (g:Nat) (a:List S99) (c:Int) (i:Int) (j:ByteArray) (r:Bool) (w:World) (m:Kd.C k99 w d a.length a) (n:a.length≤g) (h:spec_AlarmOk.f k a c i j=some r) :
  Calls Tryz.prog 108 #[.agg #[.slice d a.length g,.int .i64 c,.int .i64 i,.string j]] w fun e w'=>e=.returned (.bool r)∧Below w.heap.size w w':=by
 have hu29:=Tryz.underlying29
 have o:=M_ m
 have p:=M_ n
 clear m n
 have l:=M_ (Below.refl w.heap.size w)
 unfold spec_AlarmOk.f at h
 have H:=h;clear h
 replace H:=bi_ H;obtain⟨z,V,H⟩:=H
 have AHz_:=M_ H
 clear H
 go_enter Tryz.func108,Tryz.ntmps108
 go_wp2_with (first|(((with_reducible refine gd_ 1 rfl ?_);refine bV_ 1 #[.slice d a.length g,.int .i64 c,.int .i64 i,.string j] 29 ?_;intro x hg X b hb;have y:=gq_ hg l;replace l:=st_ l hb;clear hb hg;obtain⟨A,B,D,E,F,G,I,J⟩:=bc4_ b.1);refine Aside0.out ?_))
 have H:=AHz_.1
 clear AHz_
 replace H:=ib_ H;rcases H with⟨rfl,H⟩|⟨rfl,H⟩
 ·
  have AHz_:=M_ H
  clear H
  refine⟨?_⟩
  go_wp2_with (first|(((with_reducible refine gate_callee (f:=118) rfl ?_);refine gl_ (some 5) Tryz.func118 #[.slice d a.length g] ?_;(with_reducible refine(spec_SetOk.calls k _ _ a true _ ?_ ?_ V.1).mono ?_);exact cp_ ((Kd.C_below o.1 l.1));exact p.1;rintro e Y ⟨rfl,hb⟩;refine⟨_,rfl,?_⟩;obtain⟨b,l⟩:=u2_ hb b l;(try clear hb);obtain⟨K,L,M,N,O,P,Q,R⟩:=bc4_ b.1);refine Aside0.out ?_))
  have H:=AHz_.1
  clear AHz_
  replace H:=ie_ H;rcases H with⟨s,H⟩|⟨s,H⟩
  ·
   have t:decide (0<(a.length:Int))=true:=decide_eq_true s
   have u:decide (0<a.length)=true:=decide_eq_true (by omega)
   clear s
   replace H:=bi_ H;obtain⟨S,T,H⟩:=H
   replace H:=ib_ H;rcases H with⟨rfl,H⟩|⟨rfl,H⟩
   ·
    replace H:=bi_ H;obtain⟨U,W,H⟩:=H
    replace H:=ib_ H;rcases H with⟨rfl,H⟩|⟨rfl,H⟩
    ·
     replace H:=bi_ H;obtain⟨q,Z,H⟩:=H
     obtain rfl:=Option.some.inj H
     refine⟨?_⟩
     go_wp2_with (first|(go_at_call 78;(with_reducible refine(spec_l1In.calls c 0 99999 true _ T.1).mono ?_);rintro e w' ⟨rfl,⟨v,rfl⟩⟩)|(go_at_call 78;(with_reducible refine(spec_l1In.calls i c 99999 true _ W.1).mono ?_);rintro e w' ⟨rfl,⟨v,rfl⟩⟩)|(go_at_call 122;(with_reducible refine(spec_PlainOk.calls k j q _ Z.1).mono ?_);rintro e w' ⟨rfl,⟨v,rfl⟩⟩))
     go_ret
     exact an_ (hs_ l.1)
    obtain rfl:=Option.some.inj H
    refine⟨?_⟩
    go_wp2_with (first|(go_at_call 78;(with_reducible refine(spec_l1In.calls c 0 99999 true _ T.1).mono ?_);rintro e w' ⟨rfl,⟨v,rfl⟩⟩)|(go_at_call 78;(with_reducible refine(spec_l1In.calls i c 99999 false _ W.1).mono ?_);rintro e w' ⟨rfl,⟨v,rfl⟩⟩))
    go_ret
    exact an_ (hs_ l.1)
   obtain rfl:=Option.some.inj H
   refine⟨?_⟩
   go_wp2_with (first|(go_at_call 78;(with_reducible refine(spec_l1In.calls c 0 99999 false _ T.1).mono ?_);rintro e w' ⟨rfl,⟨v,rfl⟩⟩))
   go_ret
   exact an_ (hs_ l.1)
  have t:decide (0<(a.length:Int))=false:=decide_eq_false s
  have u:decide (0<a.length)=false:=decide_eq_false (by omega)
  clear s
  obtain rfl:=Option.some.inj H
  refine⟨?_⟩
  go_wp2
  go_ret
  exact an_ (hs_ l.1)
 obtain rfl:=Option.some.inj H
 refine⟨?_⟩
 go_wp2_with (first|((with_reducible refine gate_callee (f:=118) rfl ?_);refine gl_ (some 5) Tryz.func118 #[.slice d a.length g] ?_;(with_reducible refine(spec_SetOk.calls k _ _ a false _ ?_ ?_ V.1).mono ?_);exact cp_ ((Kd.C_below o.1 l.1));exact p.1;rintro e aa ⟨rfl,hb⟩;refine⟨_,rfl,?_⟩;obtain⟨b,l⟩:=u2_ hb b l;(try clear hb)))
 go_ret
 exact an_ (hs_ l.1)
mutual
def spec_ChainOk.l0:Nat→Int→Int→List S29→Option (Bool)
 | 0,_,_,_=>none
 | k+1,c,b,a=>if c<(a.length:Int) then (if 0≤c then ((spec_AlarmOk.f k ((rd_T29 a c).f0) ((rd_T29 a c).f1) ((rd_T29 a c).f2) ((rd_T29 a c).f3)).bind fun d=>(if d=true then ((spec_Finger.f k ((rd_T29 a c).f0)).bind fun e=>(spec_ChainOk.j1 k c (e !=b) b a)) else (spec_ChainOk.j1 k c true b a))) else (none)) else (some (decide ((a.length:Int)>0)))
def spec_ChainOk.j1:Nat→Int→Bool→Int→List S29→Option (Bool)
 | 0,_,_,_,_=>none
 | k+1,d,c,a,b=>if c=true then (some false) else (spec_ChainOk.l1 k d 0 a b)
def spec_ChainOk.l1:Nat→Int→Int→Int→List S29→Option (Bool)
 | 0,_,_,_,_=>none
 | k+1,d,e,b,a=>if e<d then (if 0≤e then (if e<(a.length:Int) then (if 0≤d then (if d<(a.length:Int) then ((spec_SameSet.f k ((rd_T29 a e).f0) ((rd_T29 a d).f0)).bind fun c=>(if c=true then (some false) else (spec_ChainOk.l1 k d (wrap64 (e+1)) b a))) else (none)) else (none)) else (none)) else (none)) else (spec_ChainOk.l0 k (wrap64 (d+1)) b a)
end
def spec_ChainOk.f (k:Nat) (a:Int) (b:List S29):Option (Bool):=spec_ChainOk.l0 k 0 a b
def spec_ChainOk.T4:Bool×List (List Nat×List Nat):=(true,[([],[]),([0],[0]),([],[]),([1,2],[1,2]),([3],[3]),([4],[4]),([5],[5]),([6,5],[6]),([7],[7]),([8,7],[7,8]),([7],[7]),([9,10,7],[7,9,10]),([11,7],[7,11]),([12,7],[7,12]),([13,7,7],[7,13]),([7],[7]),([15,7],[7,15]),([14,16,7],[7,14,16]),([7,17],[7,17])])
def spec_ChainOk.B4:List Nat:=[0,1,0,7,15,31,63,127,255,511,255,2047,4095,8191,16383,255,33023,131071,262143]
theorem spec_ChainOk.tab4:rtab .any (opsOf Tryz.f76 4)=spec_ChainOk.T4:=by kernel_rfl
theorem spec_ChainOk.bits4:waitsOk spec_ChainOk.T4.2 spec_ChainOk.B4=true:=by kernel_rfl
def spec_ChainOk.T9:Bool×List (List Nat×List Nat):=(true,[([],[]),([0],[0]),([],[]),([1,2],[1,2]),([3],[3]),([4],[4]),([],[]),([6],[6]),([],[]),([7,8],[7,8]),([9],[9]),([10],[10]),([5,11],[5,11])])
def spec_ChainOk.B9:List Nat:=[0,1,0,7,15,31,0,64,0,448,960,1984,4095]
theorem spec_ChainOk.tab9:rtab .any (opsOf Tryz.f76 9)=spec_ChainOk.T9:=by kernel_rfl
theorem spec_ChainOk.bits9:waitsOk spec_ChainOk.T9.2 spec_ChainOk.B9=true:=by kernel_rfl
theorem spec_ChainOk.calls (k:Nat) (aa:Int) (Da:Option Addr) (sa:Nat) (c:List S29) (r:Bool) (w:World) (Qa:Kd.C k29 w Da c.length c) (Ra:c.length≤sa) (h:spec_ChainOk.f k aa c=some r) :
  Calls Tryz.prog 76 #[.agg #[.int .i64 aa,.slice Da c.length sa]] w fun e w'=>e=.returned (.bool r)∧Below w.heap.size w w':=by
 have hu80:=Tryz.underlying80
 have hu29:=Tryz.underlying29
 have ta:=M_ Qa
 have mb:=M_ Ra
 clear Qa Ra
 have g:=M_ (Below.refl w.heap.size w)
 unfold spec_ChainOk.f at h
 have H:=h;clear h
 have H':=M_ H
 clear H
 go_enter Tryz.func76,Tryz.ntmps76
 go_wp2_with (first|((with_reducible refine gd_ 1 rfl ?_);refine bV_ 1 #[.int .i64 aa,.slice Da c.length sa] 80 ?_;intro R hg w2 b hb;have jb:=gq_ hg g;replace g:=st_ g hb;clear hb hg))
 go_loopg [3] k (fun kq v3 w'=>∃(a:Int),v3=.int .i64 a∧Aside0 (spec_ChainOk.l0 kq a aa c=some r)∧Aside0 (kq≤k)∧Aside0 (w'.heap[R]?=some (.cells #[.int .i64 aa,(.slice Da c.length sa)] 80 (0,0)))∧Aside0 (Below w.heap.size w w'))
 case atStart=>exact⟨(0),rs_,H',⟨Nat.le_refl _⟩,⟨bq_ b.1⟩,⟨hs_ g.1⟩⟩
 case round=>
  clear H'
  obtain⟨a,rfl,HA,Oa,b,g⟩:=hrel
  cases gk with
  | zero=>exact absurd HA.1 (by simp[spec_ChainOk.l0])
  | succ k1=>
   have H:=HA.1
   clear HA
   simp only[spec_ChainOk.l0] at H
   replace H:=ie_ H;rcases H with⟨c3,H⟩|⟨c3,H⟩
   ·
    have db:=decide_eq_true c3
    clear c3
    have Za:=M_ H
    clear H
    obtain⟨yb,zb,Ab,Bb⟩:=bc2_ b.1
    go_upto_region 4 with(fail)
    go_cut [30] (fun nb wc=>∃(kq:Nat) (Ia:Bool),nb=.bool Ia∧Aside0 (spec_ChainOk.j1 kq a Ia aa c=some r)∧Aside0 (kq≤k1)∧Aside0 (wc.heap[R]?=some (.cells #[.int .i64 aa,(.slice Da c.length sa)] 80 (0,0)))∧Aside0 (Below w.heap.size w wc))
    case first=>
     have H:=Za.1
     clear Za
     replace H:=id_ H;obtain⟨Ya,H⟩:=H
     (first|rw[Ya]|(simp only[i64_w,i32_w];rw[Ya])|skip)
     replace H:=bi_ H;obtain⟨ob,A7,H⟩:=H
     replace H:=ib_ H;rcases H with⟨rfl,H⟩|⟨rfl,H⟩
     ·
      replace H:=bi_ H;obtain⟨Ta,A9,H⟩:=H
      have H':=M_ H
      clear H
      try go_wp2
      obtain⟨b,g⟩:=y2_ b g
      obtain⟨ua,va⟩:0≤(a:Int)∧a<(c.length:Int):=pq_
      obtain⟨q,Y,Z,Ja,l,s,t,u,ba,ca⟩:=at_T29 ta.1 a ua va
      have v:=u
      have x:=t
      have y:=s
      have z:=l
      cases Ja
      replace l:=c4_ g l s t u;clear s t u;obtain⟨l,s,t,u⟩:=l
      have da:=M_ ca
      have Aa:=M_ ba
      clear ca ba
      replace ua:=eq_true ua;replace va:=eq_true va
      obtain⟨Ka,La⟩:0≤(a:Int)∧a<(c.length:Int):=pq_
      obtain⟨Va,eb,fb,ab,T,ea,fa,ga,Ea,Fa⟩:=at_T29 ta.1 a Ka La
      have U:=ga
      have V:=fa
      have W:=ea
      have X:=T
      obtain rfl:q=Va:=(by injection ab)
      replace T:=c4_ g T ea fa ga;clear ea fa ga;obtain⟨T,ea,fa,ga⟩:=T
      have Ga:=M_ Fa
      have Pa:=M_ Ea
      clear Fa Ea
      replace Ka:=eq_true Ka;replace La:=eq_true La
      have ea_:=Option.some.inj (l.symm.trans T)
      injection ea_ with ea_ en_ ec_
      subst ea_
      subst ec_
      clear en_
      refine start_ (n:=19) (S:=fun w'=>c_ w' R 0 (.int .i64 aa)∧c_ w' R 1 (.slice (some q) c.length sa)∧w'.cell? (q.add ((a).toNat*4))=some (.slice Y ((rd_T29 c a).f0).length Z)∧d_ w' (q.add ((a).toNat*4)) 1 (.int .i64 ((rd_T29 c a).f1))∧d_ w' (q.add ((a).toNat*4)) 2 (.int .i64 ((rd_T29 c a).f2))∧d_ w' (q.add ((a).toNat*4)) 3 (.string ((rd_T29 c a).f3))∧w'.cell? (q.add ((a).toNat*4))=some (.slice Y ((rd_T29 c a).f0).length Z)∧d_ w' (q.add ((a).toNat*4)) 1 (.int .i64 ((rd_T29 c a).f1))∧d_ w' (q.add ((a).toNat*4)) 2 (.int .i64 ((rd_T29 c a).f2))∧d_ w' (q.add ((a).toNat*4)) 3 (.string ((rd_T29 c a).f3))) (ds:=[]) (b_ 0 19) (by kernel_rfl) rfl rfl ⟨bx_ b.1 0,bx_ b.1 1,((g.1.cell (World.block_lt_of_cell? w _ z)).trans z),((g.1.cell (World.block_lt_of_cell? w _ y)).trans y),((g.1.cell (World.block_lt_of_cell? w _ x)).trans x),((g.1.cell (World.block_lt_of_cell? w _ v)).trans v),((g.1.cell (World.block_lt_of_cell? w _ X)).trans X),((g.1.cell (World.block_lt_of_cell? w _ W)).trans W),((g.1.cell (World.block_lt_of_cell? w _ V)).trans V),((g.1.cell (World.block_lt_of_cell? w _ U)).trans U)⟩ (fun i=>?_);refine with_tabW spec_ChainOk.tab4 spec_ChainOk.bits4 (fun d na=>?_)
      generalize wr.drew=Fb at b g da Ga l s t u T ea fa ga i ⊢
      refine p_ d ?_
      refine qw_ 2 (m_ 19 5) d ?_
      refine qt_ 1 (b_ 3 16) d na i ?_
      refine p_ d ?_
      refine t0_ d na i ?_
      refine o1_ 5 (b_ 6 13) d (fun K hK=>?_)
      refine gs_ Tryz.func108 #[.agg #[.slice Y ((rd_T29 c a).f0).length Z,.int .i64 ((rd_T29 c a).f1),.int .i64 ((rd_T29 c a).f2),.string ((rd_T29 c a).f3)]] ?_
      with_reducible refine(spec_AlarmOk.calls k1 _ _ ((rd_T29 c a).f0) ((rd_T29 c a).f1) ((rd_T29 c a).f2) ((rd_T29 c a).f3) true _ ?_ ?_ A7.1).mono ?_
      exact cp_ ((Kd.C_below da.1 g.1))
      exact Aa.1
      rintro e Gb ⟨rfl,hb⟩
      refine⟨_,rfl,?_⟩
      obtain⟨b,g⟩:=u2_ hb b g
      (try clear hb)
      refine ho_ hK ⟨bx_ b.1 0,bx_ b.1 1,((g.1.cell (World.block_lt_of_cell? w _ z)).trans z),((g.1.cell (World.block_lt_of_cell? w _ y)).trans y),((g.1.cell (World.block_lt_of_cell? w _ x)).trans x),((g.1.cell (World.block_lt_of_cell? w _ v)).trans v),((g.1.cell (World.block_lt_of_cell? w _ X)).trans X),((g.1.cell (World.block_lt_of_cell? w _ W)).trans W),((g.1.cell (World.block_lt_of_cell? w _ V)).trans V),((g.1.cell (World.block_lt_of_cell? w _ U)).trans U)⟩ (fun i=>?_)
      iterate 3 refine p_ d ?_
      refine qw_ 10 (m_ 19 1535) d ?_
      refine qw_ 15 (m_ 19 34303) d ?_
      refine qt_ 9 (m_ 19 34815) d na i ?_
      refine qw_ 11 (m_ 19 36863) d ?_
      refine qw_ 12 (m_ 19 40959) d ?_
      refine qt_ 13 (m_ 19 49151) d na i ?_
      refine qt_ 16 (m_ 19 114687) d na i ?_
      refine o1_ 14 (b_ 17 2) d (fun K hK=>?_)
      refine gs_ Tryz.func60 #[.slice Y ((rd_T29 c a).f0).length Z] ?_
      with_reducible refine(spec_Finger.calls k1 _ _ ((rd_T29 c a).f0) Ta _ ?_ ?_ A9.1).mono ?_
      exact cp_ ((Kd.C_below Ga.1 g.1))
      exact Pa.1
      rintro e Hb ⟨rfl,hb⟩
      refine⟨_,rfl,?_⟩
      obtain⟨b,g⟩:=u2_ hb b g
      (try clear hb)
      refine ho_ hK ⟨bx_ b.1 0,bx_ b.1 1,((g.1.cell (World.block_lt_of_cell? w _ z)).trans z),((g.1.cell (World.block_lt_of_cell? w _ y)).trans y),((g.1.cell (World.block_lt_of_cell? w _ x)).trans x),((g.1.cell (World.block_lt_of_cell? w _ v)).trans v),((g.1.cell (World.block_lt_of_cell? w _ X)).trans X),((g.1.cell (World.block_lt_of_cell? w _ W)).trans W),((g.1.cell (World.block_lt_of_cell? w _ V)).trans V),((g.1.cell (World.block_lt_of_cell? w _ U)).trans U)⟩ (fun i=>?_)
      iterate 2 refine p_ d ?_
      refine done_ (done_of d.1 (by kernel_rfl)) ?_
      try go_wp2
      go_meet
      case rel=>exact⟨_,((Ta !=aa)),rs_,H',⟨by have:=Oa.1;first|omega|exact Nat.le_refl _⟩,⟨bq_ b.1⟩,⟨hs_ g.1⟩⟩
     have H':=M_ H
     clear H
     try go_wp2
     obtain⟨b,g⟩:=y2_ b g
     obtain⟨ua,va⟩:0≤(a:Int)∧a<(c.length:Int):=pq_
     obtain⟨q,Y,Z,Ja,l,s,t,u,ba,ca⟩:=at_T29 ta.1 a ua va
     have v:=u
     have x:=t
     have y:=s
     have z:=l
     cases Ja
     replace l:=c4_ g l s t u;clear s t u;obtain⟨l,s,t,u⟩:=l
     have da:=M_ ca
     have Aa:=M_ ba
     clear ca ba
     replace ua:=eq_true ua;replace va:=eq_true va
     refine start_ (n:=19) (S:=fun w'=>c_ w' R 0 (.int .i64 aa)∧c_ w' R 1 (.slice (some q) c.length sa)∧w'.cell? (q.add ((a).toNat*4))=some (.slice Y ((rd_T29 c a).f0).length Z)∧d_ w' (q.add ((a).toNat*4)) 1 (.int .i64 ((rd_T29 c a).f1))∧d_ w' (q.add ((a).toNat*4)) 2 (.int .i64 ((rd_T29 c a).f2))∧d_ w' (q.add ((a).toNat*4)) 3 (.string ((rd_T29 c a).f3))) (ds:=[]) (b_ 0 19) (by kernel_rfl) rfl rfl ⟨bx_ b.1 0,bx_ b.1 1,((g.1.cell (World.block_lt_of_cell? w _ z)).trans z),((g.1.cell (World.block_lt_of_cell? w _ y)).trans y),((g.1.cell (World.block_lt_of_cell? w _ x)).trans x),((g.1.cell (World.block_lt_of_cell? w _ v)).trans v)⟩ (fun i=>?_);refine with_tabW spec_ChainOk.tab4 spec_ChainOk.bits4 (fun d na=>?_)
     generalize wr.drew=Ib at b g da l s t u i ⊢
     refine p_ d ?_
     refine qw_ 2 (m_ 19 5) d ?_
     refine qt_ 1 (b_ 3 16) d na i ?_
     refine p_ d ?_
     refine t0_ d na i ?_
     refine o1_ 5 (b_ 6 13) d (fun K hK=>?_)
     refine gs_ Tryz.func108 #[.agg #[.slice Y ((rd_T29 c a).f0).length Z,.int .i64 ((rd_T29 c a).f1),.int .i64 ((rd_T29 c a).f2),.string ((rd_T29 c a).f3)]] ?_
     with_reducible refine(spec_AlarmOk.calls k1 _ _ ((rd_T29 c a).f0) ((rd_T29 c a).f1) ((rd_T29 c a).f2) ((rd_T29 c a).f3) false _ ?_ ?_ A7.1).mono ?_
     exact cp_ ((Kd.C_below da.1 g.1))
     exact Aa.1
     rintro e Jb ⟨rfl,hb⟩
     refine⟨_,rfl,?_⟩
     obtain⟨b,g⟩:=u2_ hb b g
     (try clear hb)
     refine ho_ hK ⟨bx_ b.1 0,bx_ b.1 1,((g.1.cell (World.block_lt_of_cell? w _ z)).trans z),((g.1.cell (World.block_lt_of_cell? w _ y)).trans y),((g.1.cell (World.block_lt_of_cell? w _ x)).trans x),((g.1.cell (World.block_lt_of_cell? w _ v)).trans v)⟩ (fun i=>?_)
     iterate 2 refine p_ d ?_
     iterate 10 refine v_ d ?_
     refine p_ d ?_
     refine done_ (done_of d.1 (by kernel_rfl)) ?_
     try go_wp2
     go_meet
     case rel=>exact⟨_,(true),rs_,H',⟨by have:=Oa.1;first|omega|exact Nat.le_refl _⟩,⟨bq_ b.1⟩,⟨hs_ g.1⟩⟩
    case rest=>
     clear Za
     obtain⟨kq,Ia,rfl,HA,HJ3,b,g⟩:=hcut
     cases kq with
     | zero=>exact absurd HA.1 (by simp[spec_ChainOk.j1])
     | succ gb=>
      have H:=HA.1
      clear HA
      simp only[spec_ChainOk.j1] at H
      replace H:=ib_ H;rcases H with⟨rfl,H⟩|⟨rfl,H⟩
      ·
       obtain rfl:=Option.some.inj H
       go_wp2
       go_ret
       exact an_ (hs_ g.1)
      have H':=M_ H
      clear H
      go_wp2
      go_loopg [4] gb (fun kq v4 w'=>∃(p:Int),v4=.int .i64 p∧Aside0 (spec_ChainOk.l1 kq a p aa c=some r)∧Aside0 (kq≤gb)∧Aside0 (w'.heap[R]?=some (.cells #[.int .i64 aa,(.slice Da c.length sa)] 80 (0,0)))∧Aside0 (Below w.heap.size w w'))
      case atStart=>exact⟨(0),rs_,H',⟨Nat.le_refl _⟩,⟨bq_ b.1⟩,⟨hs_ g.1⟩⟩
      case round=>
       clear H'
       obtain⟨p,rfl,HA,Xa,b,g⟩:=hrel
       cases gk with
       | zero=>exact absurd HA.1 (by simp[spec_ChainOk.l1])
       | succ k3=>
        have H:=HA.1
        clear HA
        simp only[spec_ChainOk.l1] at H
        replace H:=ie_ H;rcases H with⟨Ua,H⟩|⟨Ua,H⟩
        ·
         have bb:=decide_eq_true Ua
         clear Ua
         replace H:=i2_ H;obtain⟨pb,qb,H⟩:=H
         replace H:=i2_ H;obtain⟨rb,sb,H⟩:=H
         replace H:=bi_ H;obtain⟨tb,ib,H⟩:=H
         replace H:=ib_ H;rcases H with⟨rfl,H⟩|⟨rfl,H⟩
         ·
          obtain rfl:=Option.some.inj H
          try go_wp2
          obtain⟨b,g⟩:=y2_ b g
          obtain⟨wa,xa⟩:0≤(p:Int)∧p<(c.length:Int):=pq_
          obtain⟨j,oa,pa,Ma,m,A,B,D,ha,ia⟩:=at_T29 ta.1 p wa xa
          have I:=D
          have J:=B
          have L:=A
          have M:=m
          cases Ma
          replace m:=c4_ g m A B D;clear A B D;obtain⟨m,A,B,D⟩:=m
          have ja:=M_ ia
          have Ba:=M_ ha
          clear ia ha
          replace wa:=eq_true wa;replace xa:=eq_true xa
          obtain⟨ya,za⟩:0≤(a:Int)∧a<(c.length:Int):=pq_
          obtain⟨Ha,qa,ra,Na,o,E,F,G,ka,la⟩:=at_T29 ta.1 a ya za
          have N:=G
          have O:=F
          have P:=E
          have Q:=o
          obtain rfl:j=Ha:=(by injection Na)
          replace o:=c4_ g o E F G;clear E F G;obtain⟨o,E,F,G⟩:=o
          have ma:=M_ la
          have Ca:=M_ ka
          clear la ka
          replace ya:=eq_true ya;replace za:=eq_true za
          refine start_ (n:=13) (S:=fun w'=>c_ w' R 0 (.int .i64 aa)∧c_ w' R 1 (.slice (some j) c.length sa)∧w'.cell? (j.add ((p).toNat*4))=some (.slice oa ((rd_T29 c p).f0).length pa)∧d_ w' (j.add ((p).toNat*4)) 1 (.int .i64 ((rd_T29 c p).f1))∧d_ w' (j.add ((p).toNat*4)) 2 (.int .i64 ((rd_T29 c p).f2))∧d_ w' (j.add ((p).toNat*4)) 3 (.string ((rd_T29 c p).f3))∧w'.cell? (j.add ((a).toNat*4))=some (.slice qa ((rd_T29 c a).f0).length ra)∧d_ w' (j.add ((a).toNat*4)) 1 (.int .i64 ((rd_T29 c a).f1))∧d_ w' (j.add ((a).toNat*4)) 2 (.int .i64 ((rd_T29 c a).f2))∧d_ w' (j.add ((a).toNat*4)) 3 (.string ((rd_T29 c a).f3))) (ds:=[]) (b_ 0 13) (by kernel_rfl) rfl rfl ⟨bx_ b.1 0,bx_ b.1 1,((g.1.cell (World.block_lt_of_cell? w _ M)).trans M),((g.1.cell (World.block_lt_of_cell? w _ L)).trans L),((g.1.cell (World.block_lt_of_cell? w _ J)).trans J),((g.1.cell (World.block_lt_of_cell? w _ I)).trans I),((g.1.cell (World.block_lt_of_cell? w _ Q)).trans Q),((g.1.cell (World.block_lt_of_cell? w _ P)).trans P),((g.1.cell (World.block_lt_of_cell? w _ O)).trans O),((g.1.cell (World.block_lt_of_cell? w _ N)).trans N)⟩ (fun i=>?_);refine with_tabW spec_ChainOk.tab9 spec_ChainOk.bits9 (fun d na=>?_)
          generalize wr.drew=Lb at b g ja ma m A B D o E F G i ⊢
          refine p_ d ?_
          refine qw_ 2 (m_ 13 5) d ?_
          refine qw_ 6 (m_ 13 69) d ?_
          refine qw_ 8 (m_ 13 325) d ?_
          refine qt_ 1 (m_ 13 327) d na i ?_
          refine qw_ 3 (m_ 13 335) d ?_
          refine qw_ 4 (m_ 13 351) d ?_
          refine qt_ 5 (m_ 13 383) d na i ?_
          refine qt_ 7 (b_ 9 4) d na i ?_
          iterate 2 refine p_ d ?_
          refine t0_ d na i ?_
          refine o1_ 12 (b_ 13 0) d (fun K hK=>?_)
          refine gs_ Tryz.func102 #[.slice oa ((rd_T29 c p).f0).length pa,.slice qa ((rd_T29 c a).f0).length ra] ?_
          with_reducible refine(spec_SameSet.calls k3 _ _ ((rd_T29 c p).f0) _ _ ((rd_T29 c a).f0) true _ ?_ ?_ ?_ ?_ ib.1).mono ?_
          exact cp_ ((Kd.C_below ja.1 g.1))
          exact Ba.1
          exact cp_ ((Kd.C_below ma.1 g.1))
          exact Ca.1
          rintro e w' ⟨rfl,⟨nd,rfl⟩⟩
          refine⟨_,rfl,?_⟩
          refine ho_ hK ⟨bx_ b.1 0,bx_ b.1 1,((g.1.cell (World.block_lt_of_cell? w _ M)).trans M),((g.1.cell (World.block_lt_of_cell? w _ L)).trans L),((g.1.cell (World.block_lt_of_cell? w _ J)).trans J),((g.1.cell (World.block_lt_of_cell? w _ I)).trans I),((g.1.cell (World.block_lt_of_cell? w _ Q)).trans Q),((g.1.cell (World.block_lt_of_cell? w _ P)).trans P),((g.1.cell (World.block_lt_of_cell? w _ O)).trans O),((g.1.cell (World.block_lt_of_cell? w _ N)).trans N)⟩ (fun i=>?_)
          refine done_ (done_of d.1 (by kernel_rfl)) ?_
          try go_wp2
          go_ret
          exact an_ (hs_ g.1)
         have H':=M_ H
         clear H
         try go_wp2
         obtain⟨b,g⟩:=y2_ b g
         obtain⟨wa,xa⟩:0≤(p:Int)∧p<(c.length:Int):=pq_
         obtain⟨j,oa,pa,Ma,m,A,B,D,ha,ia⟩:=at_T29 ta.1 p wa xa
         have I:=D
         have J:=B
         have L:=A
         have M:=m
         cases Ma
         replace m:=c4_ g m A B D;clear A B D;obtain⟨m,A,B,D⟩:=m
         have ja:=M_ ia
         have Ba:=M_ ha
         clear ia ha
         replace wa:=eq_true wa;replace xa:=eq_true xa
         obtain⟨ya,za⟩:0≤(a:Int)∧a<(c.length:Int):=pq_
         obtain⟨Ha,qa,ra,Na,o,E,F,G,ka,la⟩:=at_T29 ta.1 a ya za
         have N:=G
         have O:=F
         have P:=E
         have Q:=o
         obtain rfl:j=Ha:=(by injection Na)
         replace o:=c4_ g o E F G;clear E F G;obtain⟨o,E,F,G⟩:=o
         have ma:=M_ la
         have Ca:=M_ ka
         clear la ka
         replace ya:=eq_true ya;replace za:=eq_true za
         refine start_ (n:=13) (S:=fun w'=>c_ w' R 0 (.int .i64 aa)∧c_ w' R 1 (.slice (some j) c.length sa)∧w'.cell? (j.add ((p).toNat*4))=some (.slice oa ((rd_T29 c p).f0).length pa)∧d_ w' (j.add ((p).toNat*4)) 1 (.int .i64 ((rd_T29 c p).f1))∧d_ w' (j.add ((p).toNat*4)) 2 (.int .i64 ((rd_T29 c p).f2))∧d_ w' (j.add ((p).toNat*4)) 3 (.string ((rd_T29 c p).f3))∧w'.cell? (j.add ((a).toNat*4))=some (.slice qa ((rd_T29 c a).f0).length ra)∧d_ w' (j.add ((a).toNat*4)) 1 (.int .i64 ((rd_T29 c a).f1))∧d_ w' (j.add ((a).toNat*4)) 2 (.int .i64 ((rd_T29 c a).f2))∧d_ w' (j.add ((a).toNat*4)) 3 (.string ((rd_T29 c a).f3))) (ds:=[]) (b_ 0 13) (by kernel_rfl) rfl rfl ⟨bx_ b.1 0,bx_ b.1 1,((g.1.cell (World.block_lt_of_cell? w _ M)).trans M),((g.1.cell (World.block_lt_of_cell? w _ L)).trans L),((g.1.cell (World.block_lt_of_cell? w _ J)).trans J),((g.1.cell (World.block_lt_of_cell? w _ I)).trans I),((g.1.cell (World.block_lt_of_cell? w _ Q)).trans Q),((g.1.cell (World.block_lt_of_cell? w _ P)).trans P),((g.1.cell (World.block_lt_of_cell? w _ O)).trans O),((g.1.cell (World.block_lt_of_cell? w _ N)).trans N)⟩ (fun i=>?_);refine with_tabW spec_ChainOk.tab9 spec_ChainOk.bits9 (fun d na=>?_)
         generalize wr.drew=Nb at b g ja ma m A B D o E F G i ⊢
         refine p_ d ?_
         refine qw_ 2 (m_ 13 5) d ?_
         refine qw_ 6 (m_ 13 69) d ?_
         refine qw_ 8 (m_ 13 325) d ?_
         refine qt_ 1 (m_ 13 327) d na i ?_
         refine qw_ 3 (m_ 13 335) d ?_
         refine qw_ 4 (m_ 13 351) d ?_
         refine qt_ 5 (m_ 13 383) d na i ?_
         refine qt_ 7 (b_ 9 4) d na i ?_
         iterate 2 refine p_ d ?_
         refine t0_ d na i ?_
         refine o1_ 12 (b_ 13 0) d (fun K hK=>?_)
         refine gs_ Tryz.func102 #[.slice oa ((rd_T29 c p).f0).length pa,.slice qa ((rd_T29 c a).f0).length ra] ?_
         with_reducible refine(spec_SameSet.calls k3 _ _ ((rd_T29 c p).f0) _ _ ((rd_T29 c a).f0) false _ ?_ ?_ ?_ ?_ ib.1).mono ?_
         exact cp_ ((Kd.C_below ja.1 g.1))
         exact Ba.1
         exact cp_ ((Kd.C_below ma.1 g.1))
         exact Ca.1
         rintro e w' ⟨rfl,⟨nd,rfl⟩⟩
         refine⟨_,rfl,?_⟩
         refine ho_ hK ⟨bx_ b.1 0,bx_ b.1 1,((g.1.cell (World.block_lt_of_cell? w _ M)).trans M),((g.1.cell (World.block_lt_of_cell? w _ L)).trans L),((g.1.cell (World.block_lt_of_cell? w _ J)).trans J),((g.1.cell (World.block_lt_of_cell? w _ I)).trans I),((g.1.cell (World.block_lt_of_cell? w _ Q)).trans Q),((g.1.cell (World.block_lt_of_cell? w _ P)).trans P),((g.1.cell (World.block_lt_of_cell? w _ O)).trans O),((g.1.cell (World.block_lt_of_cell? w _ N)).trans N)⟩ (fun i=>?_)
         refine done_ (done_of d.1 (by kernel_rfl)) ?_
         try go_wp2
         go_roundg k3
         case measure=>have:=Oa.1;have:=HJ3.1;have:=Xa.1;omega
         case rel=>exact⟨(wrap64 (p+1)),rs_,H',⟨by have:=Oa.1;have:=HJ3.1;have:=Xa.1;omega⟩,⟨bq_ b.1⟩,⟨hs_ g.1⟩⟩
        have bb:decide (p<a)=false:=decide_eq_false Ua
        clear Ua
        have H':=M_ H
        clear H
        go_wp2
        go_roundg k3
        case measure=>have:=Oa.1;have:=HJ3.1;have:=Xa.1;omega
        case rel=>exact⟨(wrap64 (a+1)),rs_,H',⟨by have:=Oa.1;have:=HJ3.1;have:=Xa.1;omega⟩,⟨bq_ b.1⟩,⟨hs_ g.1⟩⟩
   have db:decide (a<(c.length:Int))=false:=decide_eq_false c3
   clear c3
   obtain rfl:=Option.some.inj H
   obtain⟨ub,vb,wb,xb⟩:=bc2_ b.1
   go_wp2
   go_ret
   exact an_ (hs_ g.1)
def spec_PartOk.l0:Nat→Int→Int→Int→Int→Int→List S80→Option (Bool)
 | 0,_,_,_,_,_,_=>none
 | k+1,j,l,d,b,c,a=>if d<(a.length:Int) then (if 0≤d then ((spec_ChainOk.f k ((rd_T80 a d).f0) ((rd_T80 a d).f1)).bind fun e=>(if e=true then (if d>0 then (if 0≤(wrap64 (d-1)) then (if (wrap64 (d-1))<(a.length:Int) then (if ((rd_T80 a (wrap64 (d-1))).f0)≥((rd_T80 a d).f0) then (some false) else ((spec_PartOf.f ((rd_T80 a d).f0) l).bind fun g=>(if g=j then (spec_PartOk.l0 k j l (wrap64 (d+1)) b c a) else (some false)))) else (none)) else (none)) else ((spec_PartOf.f ((rd_T80 a d).f0) l).bind fun h=>(if h=j then (spec_PartOk.l0 k j l (wrap64 (d+1)) b c a) else (some false)))) else (some false))) else (none)) else ((spec_l1In.f b (-1) 4).bind fun i=>(if i=true then (some (decide (c≥0))) else (some false)))
def spec_PartOk.f (k:Nat) (a:Int) (b:Int) (c:List S80) (d:Int) (e:Int):Option (Bool):=spec_PartOk.l0 k d e 0 a b c
def spec_PartOk.T4:Bool×List (List Nat×List Nat):=(true,[([],[]),([0],[0]),([],[]),([1,2],[1,2]),([3],[3]),([4],[4]),([5],[5]),([6,5],[6]),([7],[7]),([8,7],[7,8]),([9,7,7],[7,9]),([10],[10]),([11,10],[10,11]),([10],[10]),([13,10],[10,13]),([12,14,10],[10,12,14]),([15,10],[10,15]),([16,10],[10,16]),([10],[10]),([18,10],[10,18]),([10],[10]),([19,20,10],[10,19,20]),([21,10],[10,21]),([22,10],[10,22]),([17,23,10],[10,17,23]),([10,24,7],[7,10,24]),([7,25],[7,25]),([26,10],[26]),([27],[27]),([28,27],[27,28]),([27],[27]),([29,30,27],[27,29,30]),([31,27],[27,31]),([32,27],[27,32]),([27],[27]),([33,34,27,27],[27,33,34]),([27],[27]),([35,36,27],[27,35,36]),([27,37],[27,37])])
def spec_PartOk.B4:List Nat:=[0,1,0,7,15,31,63,127,255,511,1023,2047,4095,2047,10239,32767,65535,131071,2047,264191,2047,1837055,3934207,8128511,16777215,33554431,67108863,134217727,268435455,536870911,268435455,2147483647,4294967295,8589934591,268435455,34359738367,268435455,137438953471,274877906943]
theorem spec_PartOk.tab4:rtab .any (opsOf Tryz.f22 4)=spec_PartOk.T4:=by kernel_rfl
theorem spec_PartOk.bits4:waitsOk spec_PartOk.T4.2 spec_PartOk.B4=true:=by kernel_rfl
theorem spec_PartOk.calls (k:Nat) (R:Int) (U:Int) (Ea:Option Addr) (X:Nat) (c:List S80) (a1:Int) (a2:Int) (r:Bool) (w:World) (Ka:Kd.C k80 w Ea c.length c) (La:c.length≤X) (h:spec_PartOk.f k R U c a1 a2=some r) :
  Calls Tryz.prog 22 #[.agg #[.int .i64 R,.int .i64 U,.slice Ea c.length X],.int .i64 a1,.int .i64 a2] w fun e w'=>e=.returned (.bool r)∧Below w.heap.size w w':=by
 have hu26:=Tryz.underlying26
 have hu80:=Tryz.underlying80
 have Y:=M_ Ka
 have sb:=M_ La
 clear Ka La
 have m:=M_ (Below.refl w.heap.size w)
 unfold spec_PartOk.f at h
 have H:=h;clear h
 have H':=M_ H
 clear H
 go_enter Tryz.func22,Tryz.ntmps22
 go_wp2_with (first|((with_reducible refine gd_ 3 rfl ?_);refine bV_ 3 #[.int .i64 R,.int .i64 U,.slice Ea c.length X] 26 ?_;intro t hg w4 a hb;have qb:=gq_ hg m;replace m:=st_ m hb;clear hb hg))
 go_loopg [7] k (fun kq v7 w'=>∃(b:Int),v7=.int .i64 b∧Aside0 (spec_PartOk.l0 kq a1 a2 b R U c=some r)∧Aside0 (kq≤k)∧Aside0 (w'.heap[t]?=some (.cells #[.int .i64 R,.int .i64 U,(.slice Ea c.length X)] 26 (0,0)))∧Aside0 (Below w.heap.size w w'))
 case atStart=>exact⟨(0),rs_,H',⟨Nat.le_refl _⟩,⟨bq_ a.1⟩,⟨hs_ m.1⟩⟩
 case round=>
  clear H'
  obtain⟨b,rfl,HA,Ra,a,m⟩:=hrel
  cases gk with
  | zero=>exact absurd HA.1 (by simp[spec_PartOk.l0])
  | succ k1=>
   have H:=HA.1
   clear HA
   simp only[spec_PartOk.l0] at H
   replace H:=ie_ H;rcases H with⟨c5,H⟩|⟨c5,H⟩
   ·
    have kb:=decide_eq_true c5
    clear c5
    replace H:=id_ H;obtain⟨Mb,H⟩:=H
    replace H:=bi_ H;obtain⟨ub,A7,H⟩:=H
    have AHz_:=M_ H
    clear H
    obtain⟨vb,wb,xb,yb,zb,Ab⟩:=bc3_ a.1
    try go_wp2
    obtain⟨a,m⟩:=y2_ a m
    obtain⟨qa,ra⟩:0≤(b:Int)∧b<(c.length:Int):=pq_
    obtain⟨j,B,D,Xa,u,v,ca,da⟩:=at_T80 Y.1 b qa ra
    have g:=v
    have i:=u
    cases Xa
    replace u:=c2_ m u v;clear v;obtain⟨u,v⟩:=u
    have x:=M_ da
    have T:=M_ ca
    clear da ca
    replace qa:=eq_true qa;replace ra:=eq_true ra
    have H:=AHz_.1
    clear AHz_
    replace H:=ib_ H;rcases H with⟨rfl,H⟩|⟨rfl,H⟩
    ·
     replace H:=ie_ H;rcases H with⟨c9,H⟩|⟨c9,H⟩
     ·
      have nb:decide (0<b)=true:=decide_eq_true c9
      clear c9
      obtain⟨E,W⟩:∃j_:Int,(wrap64 (b-1))=j_:=⟨_,rfl⟩
      replace H:(if 0≤(E) then (if (E)<(c.length:Int) then (if ((rd_T80 c (E)).f0)≥((rd_T80 c b).f0) then (some false) else ((spec_PartOf.f ((rd_T80 c b).f0) a2).bind fun V=>(if V=a1 then (spec_PartOk.l0 k1 a1 a2 (wrap64 (b+1)) R U c) else (some false)))) else (none)) else (none))=some r:=by first|(rw[W] at H;exact H)|(simp only[W] at H ⊢;exact H)
      (try rw[W] at A7)
      have rb:(IntKind.i64.wrap (b-1))=E:=(i64_w _).trans W
      replace H:=i2_ H;obtain⟨Bb,Cb,H⟩:=H
      have AHz_:=M_ H
      clear H
      obtain⟨sa,ta⟩:0≤((E):Int)∧(E)<(c.length:Int):=pq_
      obtain⟨Sa,oa,pa,Ya,y,F,ea,fa⟩:=at_T80 Y.1 (E) sa ta
      have o:=F
      have p:=y
      obtain rfl:j=Sa:=(by injection Ya)
      replace y:=c2_ m y F;clear F;obtain⟨y,F⟩:=y
      have ga:=M_ fa
      have eb:=M_ ea
      clear fa ea
      replace sa:=eq_true sa;replace ta:=eq_true ta
      obtain⟨ua,va⟩:0≤(b:Int)∧b<(c.length:Int):=pq_
      obtain⟨Ta,Z,aa,Za,z,A,ha,ia⟩:=at_T80 Y.1 b ua va
      have q:=A
      have s:=z
      obtain rfl:j=Ta:=(by injection Za)
      replace z:=c2_ m z A;clear A;obtain⟨z,A⟩:=z
      have ja:=M_ ia
      have fb:=M_ ha
      clear ia ha
      replace ua:=eq_true ua;replace va:=eq_true va
      have H:=AHz_.1
      clear AHz_
      replace H:=ie_ H;rcases H with⟨Ma,H⟩|⟨Ma,H⟩
      ·
       have ab:decide (((rd_T80 c b).f0)≤((rd_T80 c (E)).f0))=true:=decide_eq_true Ma
       clear Ma
       obtain rfl:=Option.some.inj H
       refine start_ (n:=39) (S:=fun w'=>c_ w' t 0 (.int .i64 R)∧c_ w' t 1 (.int .i64 U)∧c_ w' t 2 (.slice (some j) c.length X)∧w'.cell? (j.add ((b).toNat*2))=some (.int .i64 ((rd_T80 c b).f0))∧d_ w' (j.add ((b).toNat*2)) 1 (.slice B ((rd_T80 c b).f1).length D)∧w'.cell? (j.add (((E)).toNat*2))=some (.int .i64 ((rd_T80 c (E)).f0))∧d_ w' (j.add (((E)).toNat*2)) 1 (.slice oa ((rd_T80 c (E)).f1).length pa)∧w'.cell? (j.add ((b).toNat*2))=some (.int .i64 ((rd_T80 c b).f0))∧d_ w' (j.add ((b).toNat*2)) 1 (.slice Z ((rd_T80 c b).f1).length aa)) (ds:=[]) (b_ 0 39) (by kernel_rfl) rfl rfl ⟨bx_ a.1 0,bx_ a.1 1,bx_ a.1 2,((m.1.cell (World.block_lt_of_cell? w _ i)).trans i),((m.1.cell (World.block_lt_of_cell? w _ g)).trans g),((m.1.cell (World.block_lt_of_cell? w _ p)).trans p),((m.1.cell (World.block_lt_of_cell? w _ o)).trans o),((m.1.cell (World.block_lt_of_cell? w _ s)).trans s),((m.1.cell (World.block_lt_of_cell? w _ q)).trans q)⟩ (fun l=>?_);refine with_tabW spec_PartOk.tab4 spec_PartOk.bits4 (fun d P=>?_)
       generalize wr.drew=Pb at a m x ga ja u v y F z A l ⊢
       refine p_ d ?_
       refine qw_ 2 (m_ 39 5) d ?_
       refine qt_ 1 (b_ 3 36) d P l ?_
       refine p_ d ?_
       refine t0_ d P l ?_
       refine o1_ 5 (b_ 6 33) d (fun K hK=>?_)
       refine gs_ Tryz.func76 #[.agg #[.int .i64 ((rd_T80 c b).f0),.slice B ((rd_T80 c b).f1).length D]] ?_
       with_reducible refine(spec_ChainOk.calls k1 ((rd_T80 c b).f0) _ _ ((rd_T80 c b).f1) true _ ?_ ?_ A7.1).mono ?_
       exact cp_ ((Kd.C_below x.1 m.1))
       exact T.1
       rintro e Qb ⟨rfl,hb⟩
       refine⟨_,rfl,?_⟩
       obtain⟨a,m⟩:=u2_ hb a m
       (try clear hb)
       refine ho_ hK ⟨bx_ a.1 0,bx_ a.1 1,bx_ a.1 2,((m.1.cell (World.block_lt_of_cell? w _ i)).trans i),((m.1.cell (World.block_lt_of_cell? w _ g)).trans g),((m.1.cell (World.block_lt_of_cell? w _ p)).trans p),((m.1.cell (World.block_lt_of_cell? w _ o)).trans o),((m.1.cell (World.block_lt_of_cell? w _ s)).trans s),((m.1.cell (World.block_lt_of_cell? w _ q)).trans q)⟩ (fun l=>?_)
       iterate 6 refine p_ d ?_
       refine qw_ 13 (m_ 39 12287) d ?_
       refine qw_ 14 (m_ 39 28671) d ?_
       refine qw_ 18 (m_ 39 290815) d ?_
       refine qw_ 20 (m_ 39 1339391) d ?_
       refine qt_ 12 (m_ 39 1343487) d P l ?_
       refine qw_ 15 (m_ 39 1376255) d ?_
       refine qw_ 16 (m_ 39 1441791) d ?_
       refine qt_ 17 (m_ 39 1572863) d P l ?_
       refine qt_ 19 (b_ 21 18) d P l ?_
       iterate 2 refine p_ d ?_
       refine t0_ d P l ?_
       iterate 4 refine p_ d ?_
       iterate 10 refine v_ d ?_
       refine p_ d ?_
       refine done_ (done_of d.1 (by kernel_rfl)) ?_
       try go_wp2
       go_ret
       exact⟨by first|rfl|(simp[errW_none,errW_some]<;>rfl)|(simp only[←W];first|rfl|(simp[errW_none,errW_some]<;>rfl))|(simp[*,errW_none,errW_some]<;>rfl),hs_ m.1⟩
      have ab:decide (((rd_T80 c b).f0)≤((rd_T80 c (E)).f0))=false:=decide_eq_false Ma
      clear Ma
      replace H:=bi_ H;obtain⟨V,Db,H⟩:=H
      have AHz_:=M_ H
      clear H
      obtain⟨wa,xa⟩:0≤(b:Int)∧b<(c.length:Int):=pq_
      obtain⟨Ua,ob,pb,bb,G,I,ka,la⟩:=at_T80 Y.1 b wa xa
      have J:=I
      have L:=G
      obtain rfl:j=Ua:=(by injection bb)
      replace G:=c2_ m G I;clear I;obtain⟨G,I⟩:=G
      have Ga:=M_ la
      have gb:=M_ ka
      clear la ka
      replace wa:=eq_true wa;replace xa:=eq_true xa
      have ea_:=Option.some.inj (A.symm.trans I)
      injection ea_ with ea_ en_ ec_
      subst ea_
      subst ec_
      clear en_
      refine start_ (n:=39) (S:=fun w'=>c_ w' t 0 (.int .i64 R)∧c_ w' t 1 (.int .i64 U)∧c_ w' t 2 (.slice (some j) c.length X)∧w'.cell? (j.add ((b).toNat*2))=some (.int .i64 ((rd_T80 c b).f0))∧d_ w' (j.add ((b).toNat*2)) 1 (.slice B ((rd_T80 c b).f1).length D)∧w'.cell? (j.add (((E)).toNat*2))=some (.int .i64 ((rd_T80 c (E)).f0))∧d_ w' (j.add (((E)).toNat*2)) 1 (.slice oa ((rd_T80 c (E)).f1).length pa)∧w'.cell? (j.add ((b).toNat*2))=some (.int .i64 ((rd_T80 c b).f0))∧d_ w' (j.add ((b).toNat*2)) 1 (.slice Z ((rd_T80 c b).f1).length aa)∧w'.cell? (j.add ((b).toNat*2))=some (.int .i64 ((rd_T80 c b).f0))∧d_ w' (j.add ((b).toNat*2)) 1 (.slice Z ((rd_T80 c b).f1).length aa)) (ds:=[]) (b_ 0 39) (by kernel_rfl) rfl rfl ⟨bx_ a.1 0,bx_ a.1 1,bx_ a.1 2,((m.1.cell (World.block_lt_of_cell? w _ i)).trans i),((m.1.cell (World.block_lt_of_cell? w _ g)).trans g),((m.1.cell (World.block_lt_of_cell? w _ p)).trans p),((m.1.cell (World.block_lt_of_cell? w _ o)).trans o),((m.1.cell (World.block_lt_of_cell? w _ s)).trans s),((m.1.cell (World.block_lt_of_cell? w _ q)).trans q),((m.1.cell (World.block_lt_of_cell? w _ L)).trans L),((m.1.cell (World.block_lt_of_cell? w _ J)).trans J)⟩ (fun l=>?_);refine with_tabW spec_PartOk.tab4 spec_PartOk.bits4 (fun d P=>?_)
      generalize wr.drew=Rb at a m x ga ja Ga u v y F z A G I l ⊢
      refine p_ d ?_
      refine qw_ 2 (m_ 39 5) d ?_
      refine qt_ 1 (b_ 3 36) d P l ?_
      refine p_ d ?_
      refine t0_ d P l ?_
      refine o1_ 5 (b_ 6 33) d (fun K hK=>?_)
      refine gs_ Tryz.func76 #[.agg #[.int .i64 ((rd_T80 c b).f0),.slice B ((rd_T80 c b).f1).length D]] ?_
      with_reducible refine(spec_ChainOk.calls k1 ((rd_T80 c b).f0) _ _ ((rd_T80 c b).f1) true _ ?_ ?_ A7.1).mono ?_
      exact cp_ ((Kd.C_below x.1 m.1))
      exact T.1
      rintro e Sb ⟨rfl,hb⟩
      refine⟨_,rfl,?_⟩
      obtain⟨a,m⟩:=u2_ hb a m
      (try clear hb)
      refine ho_ hK ⟨bx_ a.1 0,bx_ a.1 1,bx_ a.1 2,((m.1.cell (World.block_lt_of_cell? w _ i)).trans i),((m.1.cell (World.block_lt_of_cell? w _ g)).trans g),((m.1.cell (World.block_lt_of_cell? w _ p)).trans p),((m.1.cell (World.block_lt_of_cell? w _ o)).trans o),((m.1.cell (World.block_lt_of_cell? w _ s)).trans s),((m.1.cell (World.block_lt_of_cell? w _ q)).trans q),((m.1.cell (World.block_lt_of_cell? w _ L)).trans L),((m.1.cell (World.block_lt_of_cell? w _ J)).trans J)⟩ (fun l=>?_)
      iterate 6 refine p_ d ?_
      refine qw_ 13 (m_ 39 12287) d ?_
      refine qw_ 14 (m_ 39 28671) d ?_
      refine qw_ 18 (m_ 39 290815) d ?_
      refine qw_ 20 (m_ 39 1339391) d ?_
      refine qt_ 12 (m_ 39 1343487) d P l ?_
      refine qw_ 15 (m_ 39 1376255) d ?_
      refine qw_ 16 (m_ 39 1441791) d ?_
      refine qt_ 17 (m_ 39 1572863) d P l ?_
      refine qt_ 19 (b_ 21 18) d P l ?_
      iterate 2 refine p_ d ?_
      refine t0_ d P l ?_
      iterate 5 refine p_ d ?_
      refine qw_ 30 (m_ 39 1610612735) d ?_
      refine qw_ 34 (m_ 39 18790481919) d ?_
      refine qw_ 36 (m_ 39 87509958655) d ?_
      refine qt_ 29 (m_ 39 88046829567) d P l ?_
      refine qw_ 31 (m_ 39 90194313215) d ?_
      refine qw_ 32 (m_ 39 94489280511) d ?_
      refine qt_ 33 (m_ 39 103079215103) d P l ?_
      refine o1_ 35 (b_ 37 2) d (fun K hK=>?_)
      refine gs_ Tryz.func77 #[.int .i64 ((rd_T80 c b).f0),.int .i64 a2] ?_
      with_reducible refine(spec_PartOf.calls ((rd_T80 c b).f0) a2 V _ Db.1).mono ?_
      rintro e w' ⟨rfl,⟨nd,rfl⟩⟩
      refine⟨_,rfl,?_⟩
      refine ho_ hK ⟨bx_ a.1 0,bx_ a.1 1,bx_ a.1 2,((m.1.cell (World.block_lt_of_cell? w _ i)).trans i),((m.1.cell (World.block_lt_of_cell? w _ g)).trans g),((m.1.cell (World.block_lt_of_cell? w _ p)).trans p),((m.1.cell (World.block_lt_of_cell? w _ o)).trans o),((m.1.cell (World.block_lt_of_cell? w _ s)).trans s),((m.1.cell (World.block_lt_of_cell? w _ q)).trans q),((m.1.cell (World.block_lt_of_cell? w _ L)).trans L),((m.1.cell (World.block_lt_of_cell? w _ J)).trans J)⟩ (fun l=>?_)
      iterate 2 refine p_ d ?_
      have H:=AHz_.1
      clear AHz_
      replace H:=ie_ H;rcases H with⟨Ha,H⟩|⟨Ha,H⟩
      ·
       have ya:(V==a1)=true:=beq_iff_eq.mpr Ha
       have za:(V !=a1)=false:=bne_eq_false_iff_eq.mpr Ha
       clear Ha
       have H':=M_ H
       clear H
       (try simp only[ya,za])
       refine done_ (done_of d.1 (by kernel_rfl)) ?_
       try go_wp2
       go_roundg k1
       case measure=>have:=Ra.1;omega
       case rel=>exact⟨(wrap64 (b+1)),rs_,H',⟨by have:=Ra.1;omega⟩,⟨bq_ a.1⟩,⟨hs_ m.1⟩⟩
      have ya:(V==a1)=false:=beq_eq_false_iff_ne.mpr Ha
      have za:(V !=a1)=true:=bne_iff_ne.mpr Ha
      obtain rfl:=Option.some.inj H
      (try simp only[ya,za])
      refine done_ (done_of d.1 (by kernel_rfl)) ?_
      try go_wp2
      go_ret
      exact⟨by first|rfl|(simp[errW_none,errW_some]<;>rfl)|(simp only[←W];first|rfl|(simp[errW_none,errW_some]<;>rfl))|(simp[*,errW_none,errW_some]<;>rfl),hs_ m.1⟩
     have nb:decide (0<b)=false:=decide_eq_false c9
     clear c9
     replace H:=bi_ H;obtain⟨ba,Eb,H⟩:=H
     have AHz_:=M_ H
     clear H
     obtain⟨Aa,Ba⟩:0≤(b:Int)∧b<(c.length:Int):=pq_
     obtain⟨Va,Oa,Pa,cb,M,Q,ma,na⟩:=at_T80 Y.1 b Aa Ba
     have N:=Q
     have O:=M
     obtain rfl:j=Va:=(by injection cb)
     replace M:=c2_ m M Q;clear Q;obtain⟨M,Q⟩:=M
     have Ia:=M_ na
     have ib:=M_ ma
     clear na ma
     replace Aa:=eq_true Aa;replace Ba:=eq_true Ba
     refine start_ (n:=39) (S:=fun w'=>c_ w' t 0 (.int .i64 R)∧c_ w' t 1 (.int .i64 U)∧c_ w' t 2 (.slice (some j) c.length X)∧w'.cell? (j.add ((b).toNat*2))=some (.int .i64 ((rd_T80 c b).f0))∧d_ w' (j.add ((b).toNat*2)) 1 (.slice B ((rd_T80 c b).f1).length D)∧w'.cell? (j.add ((b).toNat*2))=some (.int .i64 ((rd_T80 c b).f0))∧d_ w' (j.add ((b).toNat*2)) 1 (.slice Oa ((rd_T80 c b).f1).length Pa)) (ds:=[]) (b_ 0 39) (by kernel_rfl) rfl rfl ⟨bx_ a.1 0,bx_ a.1 1,bx_ a.1 2,((m.1.cell (World.block_lt_of_cell? w _ i)).trans i),((m.1.cell (World.block_lt_of_cell? w _ g)).trans g),((m.1.cell (World.block_lt_of_cell? w _ O)).trans O),((m.1.cell (World.block_lt_of_cell? w _ N)).trans N)⟩ (fun l=>?_);refine with_tabW spec_PartOk.tab4 spec_PartOk.bits4 (fun d P=>?_)
     generalize wr.drew=Tb at a m x Ia u v M Q l ⊢
     refine p_ d ?_
     refine qw_ 2 (m_ 39 5) d ?_
     refine qt_ 1 (b_ 3 36) d P l ?_
     refine p_ d ?_
     refine t0_ d P l ?_
     refine o1_ 5 (b_ 6 33) d (fun K hK=>?_)
     refine gs_ Tryz.func76 #[.agg #[.int .i64 ((rd_T80 c b).f0),.slice B ((rd_T80 c b).f1).length D]] ?_
     with_reducible refine(spec_ChainOk.calls k1 ((rd_T80 c b).f0) _ _ ((rd_T80 c b).f1) true _ ?_ ?_ A7.1).mono ?_
     exact cp_ ((Kd.C_below x.1 m.1))
     exact T.1
     rintro e Ub ⟨rfl,hb⟩
     refine⟨_,rfl,?_⟩
     obtain⟨a,m⟩:=u2_ hb a m
     (try clear hb)
     refine ho_ hK ⟨bx_ a.1 0,bx_ a.1 1,bx_ a.1 2,((m.1.cell (World.block_lt_of_cell? w _ i)).trans i),((m.1.cell (World.block_lt_of_cell? w _ g)).trans g),((m.1.cell (World.block_lt_of_cell? w _ O)).trans O),((m.1.cell (World.block_lt_of_cell? w _ N)).trans N)⟩ (fun l=>?_)
     iterate 5 refine p_ d ?_
     iterate 14 refine v_ d ?_
     iterate 4 refine p_ d ?_
     refine qw_ 30 (m_ 39 1610612735) d ?_
     refine qw_ 34 (m_ 39 18790481919) d ?_
     refine qw_ 36 (m_ 39 87509958655) d ?_
     refine qt_ 29 (m_ 39 88046829567) d P l ?_
     refine qw_ 31 (m_ 39 90194313215) d ?_
     refine qw_ 32 (m_ 39 94489280511) d ?_
     refine qt_ 33 (m_ 39 103079215103) d P l ?_
     refine o1_ 35 (b_ 37 2) d (fun K hK=>?_)
     refine gs_ Tryz.func77 #[.int .i64 ((rd_T80 c b).f0),.int .i64 a2] ?_
     with_reducible refine(spec_PartOf.calls ((rd_T80 c b).f0) a2 ba _ Eb.1).mono ?_
     rintro e w' ⟨rfl,⟨nd,rfl⟩⟩
     refine⟨_,rfl,?_⟩
     refine ho_ hK ⟨bx_ a.1 0,bx_ a.1 1,bx_ a.1 2,((m.1.cell (World.block_lt_of_cell? w _ i)).trans i),((m.1.cell (World.block_lt_of_cell? w _ g)).trans g),((m.1.cell (World.block_lt_of_cell? w _ O)).trans O),((m.1.cell (World.block_lt_of_cell? w _ N)).trans N)⟩ (fun l=>?_)
     iterate 2 refine p_ d ?_
     have H:=AHz_.1
     clear AHz_
     replace H:=ie_ H;rcases H with⟨Ja,H⟩|⟨Ja,H⟩
     ·
      have Ca:(ba==a1)=true:=beq_iff_eq.mpr Ja
      have Da:(ba !=a1)=false:=bne_eq_false_iff_eq.mpr Ja
      clear Ja
      have H':=M_ H
      clear H
      (try simp only[Ca,Da])
      refine done_ (done_of d.1 (by kernel_rfl)) ?_
      try go_wp2
      go_roundg k1
      case measure=>have:=Ra.1;omega
      case rel=>exact⟨(wrap64 (b+1)),rs_,H',⟨by have:=Ra.1;omega⟩,⟨bq_ a.1⟩,⟨hs_ m.1⟩⟩
     have Ca:(ba==a1)=false:=beq_eq_false_iff_ne.mpr Ja
     have Da:(ba !=a1)=true:=bne_iff_ne.mpr Ja
     obtain rfl:=Option.some.inj H
     (try simp only[Ca,Da])
     refine done_ (done_of d.1 (by kernel_rfl)) ?_
     try go_wp2
     go_ret
     exact an_ (hs_ m.1)
    obtain rfl:=Option.some.inj H
    refine start_ (n:=39) (S:=fun w'=>c_ w' t 0 (.int .i64 R)∧c_ w' t 1 (.int .i64 U)∧c_ w' t 2 (.slice (some j) c.length X)∧w'.cell? (j.add ((b).toNat*2))=some (.int .i64 ((rd_T80 c b).f0))∧d_ w' (j.add ((b).toNat*2)) 1 (.slice B ((rd_T80 c b).f1).length D)) (ds:=[]) (b_ 0 39) (by kernel_rfl) rfl rfl ⟨bx_ a.1 0,bx_ a.1 1,bx_ a.1 2,((m.1.cell (World.block_lt_of_cell? w _ i)).trans i),((m.1.cell (World.block_lt_of_cell? w _ g)).trans g)⟩ (fun l=>?_);refine with_tabW spec_PartOk.tab4 spec_PartOk.bits4 (fun d P=>?_)
    generalize wr.drew=Vb at a m x u v l ⊢
    refine p_ d ?_
    refine qw_ 2 (m_ 39 5) d ?_
    refine qt_ 1 (b_ 3 36) d P l ?_
    refine p_ d ?_
    refine t0_ d P l ?_
    refine o1_ 5 (b_ 6 33) d (fun K hK=>?_)
    refine gs_ Tryz.func76 #[.agg #[.int .i64 ((rd_T80 c b).f0),.slice B ((rd_T80 c b).f1).length D]] ?_
    with_reducible refine(spec_ChainOk.calls k1 ((rd_T80 c b).f0) _ _ ((rd_T80 c b).f1) false _ ?_ ?_ A7.1).mono ?_
    exact cp_ ((Kd.C_below x.1 m.1))
    exact T.1
    rintro e Wb ⟨rfl,hb⟩
    refine⟨_,rfl,?_⟩
    obtain⟨a,m⟩:=u2_ hb a m
    (try clear hb)
    refine ho_ hK ⟨bx_ a.1 0,bx_ a.1 1,bx_ a.1 2,((m.1.cell (World.block_lt_of_cell? w _ i)).trans i),((m.1.cell (World.block_lt_of_cell? w _ g)).trans g)⟩ (fun l=>?_)
    iterate 2 refine p_ d ?_
    iterate 18 refine v_ d ?_
    iterate 2 refine p_ d ?_
    iterate 10 refine v_ d ?_
    refine p_ d ?_
    refine done_ (done_of d.1 (by kernel_rfl)) ?_
    try go_wp2
    go_ret
    exact an_ (hs_ m.1)
   have kb:decide (b<(c.length:Int))=false:=decide_eq_false c5
   clear c5
   replace H:=bi_ H;obtain⟨db,Fb,H⟩:=H
   have AHz_:=M_ H
   clear H
   obtain⟨Gb,Hb,Ib,Jb,Kb,Lb⟩:=bc3_ a.1
   go_wp2_with (first|(((with_reducible refine gate_callee (f:=78) rfl ?_);refine gl_ (some 56) Tryz.func78 #[.int .i64 R,.int .i64 (-1),.int .i64 4] ?_;(with_reducible refine(spec_l1In.calls R (-1) 4 db _ Fb.1).mono ?_);rintro e w' ⟨rfl,⟨nd,rfl⟩⟩;refine⟨_,rfl,?_⟩);refine Aside0.out ?_))
   have H:=AHz_.1
   clear AHz_
   replace H:=ib_ H;rcases H with⟨rfl,H⟩|⟨rfl,H⟩
   ·
    obtain rfl:=Option.some.inj H
    refine⟨?_⟩
    go_wp2
    go_ret
    exact an_ (hs_ m.1)
   obtain rfl:=Option.some.inj H
   refine⟨?_⟩
   go_wp2
   go_ret
   exact an_ (hs_ m.1)
def spec_StoreOk.l0:Nat→List S26→Int→Option (Bool)
 | 0,_,_=>none
 | k+1,a,b=>if b<(a.length:Int) then (if 0≤b then ((spec_PartOk.f k ((rd_T26 a b).f0) ((rd_T26 a b).f1) ((rd_T26 a b).f2) b (a.length:Int)).bind fun c=>(if c=true then (spec_StoreOk.l0 k a (wrap64 (b+1))) else (some false))) else (none)) else ((spec_l1In.f (a.length:Int) 1 3).bind fun d=>(some d))
def spec_StoreOk.f (k:Nat) (l0:List S26):Option (Bool):=spec_StoreOk.l0 k l0 0
theorem spec_StoreOk.calls (k:Nat) (F:Option Addr) (G:Nat) (l0:List S26) (r:Bool) (w:World) (v:Kd.C k26 w F l0.length l0) (x:l0.length≤G) (h:spec_StoreOk.f k l0=some r) :
  Calls Tryz.prog 44 #[.slice F l0.length G] w fun e w'=>e=.returned (.bool r)∧Below w.heap.size w w':=by
 have hu26:=Tryz.underlying26
 have D:=M_ v
 have K:=M_ x
 clear v x
 have q:=M_ (Below.refl w.heap.size w)
 unfold spec_StoreOk.f at h
 have H:=h;clear h
 have H':=M_ H
 clear H
 go_enter Tryz.func44,Tryz.ntmps44
 go_wp2
 go_loopg [3] k (fun kq L w'=>∃(a:Int),L=.int .i64 a∧Aside0 (spec_StoreOk.l0 kq l0 a=some r)∧Aside0 (kq≤k)∧Aside0 (Below w.heap.size w w'))
 case atStart=>exact⟨(0),rs_,H',⟨Nat.le_refl _⟩,⟨hs_ q.1⟩⟩
 case round=>
  clear H'
  obtain⟨a,rfl,E,y,q⟩:=hrel
  cases gk with
  | zero=>exact absurd E.1 (by simp[spec_StoreOk.l0])
  | succ I=>
   have H:=E.1
   clear E
   simp only[spec_StoreOk.l0] at H
   replace H:=ie_ H;rcases H with⟨z,H⟩|⟨z,H⟩
   ·
    have A:=decide_eq_true z
    clear z
    replace H:=id_ H;obtain⟨J,H⟩:=H
    replace H:=bi_ H;obtain⟨s,M,H⟩:=H
    have AHz_:=M_ H
    clear H
    obtain⟨j,l⟩:0≤(a:Int)∧a<(l0.length:Int):=pq_
    obtain⟨B,o,p,t,b,c,d,g,i⟩:=at_T26 D.1 a j l
    cases t
    replace b:=c2_ q b c;clear c;obtain⟨b,c⟩:=b
    replace d:=cl_ q.1 d
    have m:=M_ i
    have n:=M_ g
    clear i g
    replace j:=eq_true j;replace l:=eq_true l
    go_wp2_with (first|(((with_reducible refine gate_callee (f:=22) rfl ?_);refine gl_ (some 17) Tryz.func22 #[.agg #[.int .i64 ((rd_T26 l0 a).f0),.int .i64 ((rd_T26 l0 a).f1),.slice o ((rd_T26 l0 a).f2).length p],.int .i64 a,.int .i64 (l0.length:Int)] ?_;(with_reducible refine(spec_PartOk.calls I ((rd_T26 l0 a).f0) ((rd_T26 l0 a).f1) _ _ ((rd_T26 l0 a).f2) a (l0.length:Int) s _ ?_ ?_ M.1).mono ?_);exact cp_ ((Kd.C_below m.1 q.1));exact n.1;rintro e O ⟨rfl,hb⟩;refine⟨_,rfl,?_⟩;replace q:=st_ q hb;(try clear hb));refine Aside0.out ?_))
    have H:=AHz_.1
    clear AHz_
    replace H:=ib_ H;rcases H with⟨rfl,H⟩|⟨rfl,H⟩
    ·
     have H':=M_ H
     clear H
     refine⟨?_⟩
     go_wp2
     go_roundg I
     case measure=>have:=y.1;omega
     case rel=>exact⟨(wrap64 (a+1)),rs_,H',⟨by have:=y.1;omega⟩,⟨hs_ q.1⟩⟩
    obtain rfl:=Option.some.inj H
    refine⟨?_⟩
    go_wp2
    go_ret
    exact an_ (hs_ q.1)
   have A:decide (a<(l0.length:Int))=false:=decide_eq_false z
   clear z
   replace H:=bi_ H;obtain⟨u,N,H⟩:=H
   obtain rfl:=Option.some.inj H
   go_wp2_with (first|((with_reducible refine gate_callee (f:=78) rfl ?_);refine gl_ (some 21) Tryz.func78 #[.int .i64 (l0.length:Int),.int .i64 1,.int .i64 3] ?_;(with_reducible refine(spec_l1In.calls (l0.length:Int) 1 3 u _ N.1).mono ?_);rintro e w' ⟨rfl,⟨P,rfl⟩⟩;refine⟨_,rfl,?_⟩))
   go_ret
   exact an_ (hs_ q.1)
def impl_sameAlarms.l0:Nat→List S29→List S29→Int→Int→Option (Bool)
 | 0,_,_,_,_=>none
 | k+1,c,d,e,a=>if a<e then (if 0≤a then (if a<(c.length:Int) then (if a<(d.length:Int) then ((impl_SameAlarm.f k ((rd_T29 c a).f0) ((rd_T29 c a).f1) ((rd_T29 c a).f2) ((rd_T29 c a).f3) ((rd_T29 d a).f0) ((rd_T29 d a).f1) ((rd_T29 d a).f2) ((rd_T29 d a).f3)).bind fun b=>(if b=true then (impl_sameAlarms.l0 k c d e (wrap64 (a+1))) else (some false))) else (none)) else (none)) else (none)) else (some true)
def impl_sameAlarms.f (k:Nat) (l0:List S29) (a:List S29):Option (Bool):=if (l0.length:Int)=(a.length:Int) then (impl_sameAlarms.l0 k l0 a (l0.length:Int) 0) else (some false)
def impl_sameAlarms.T6:Bool×List (List Nat×List Nat):=(true,[([],[]),([],[]),([0,1],[0,1]),([2],[2]),([],[]),([],[]),([4,5],[4,5]),([6],[6]),([3,7],[3,7]),([8],[8])])
def impl_sameAlarms.B6:List Nat:=[0,0,3,7,0,0,48,112,255,511]
theorem impl_sameAlarms.tab6:rtab .any (opsOf Tryz.f105 6)=impl_sameAlarms.T6:=by kernel_rfl
theorem impl_sameAlarms.bits6:waitsOk impl_sameAlarms.T6.2 impl_sameAlarms.B6=true:=by kernel_rfl
theorem impl_sameAlarms.calls (k:Nat) (A0:Option Addr) (c0:Nat) (l0:List S29) (A1:Option Addr) (c1:Nat) (M:List S29) (r:Bool) (w:World) (ca:Kd.C k29 w A0 l0.length l0) (da:l0.length≤c0) (ea:Kd.C k29 w A1 M.length M) (fa:M.length≤c1) (h:impl_sameAlarms.f k l0 M=some r) :
  Calls Tryz.prog 105 #[.slice A0 l0.length c0,.slice A1 M.length c1] w fun e w'=>e=.returned (.bool r)∧Below w.heap.size w w':=by
 have hu29:=Tryz.underlying29
 have ga:=M_ ca
 have Ba:=M_ da
 clear ca da
 have ha:=M_ ea
 have Ca:=M_ fa
 clear ea fa
 have y:=M_ (Below.refl w.heap.size w)
 unfold impl_sameAlarms.f at h
 have H:=h;clear h
 replace H:=ie_ H;rcases H with⟨c3,H⟩|⟨c3,H⟩
 ·
  have ia:((l0.length:Int)==(M.length:Int))=true:=beq_iff_eq.mpr c3
  have ja:((l0.length:Int) !=(M.length:Int))=false:=bne_eq_false_iff_eq.mpr c3
  have ka:(l0.length==M.length)=true:=by first|simpa using c3|(simp at c3 ⊢;omega)
  clear c3
  have H':=M_ H
  clear H
  go_enter Tryz.func105,Tryz.ntmps105
  go_wp2
  go_loopg [13] k (fun kq oa w'=>∃(a:Int),oa=.int .i64 a∧Aside0 (impl_sameAlarms.l0 kq l0 M (l0.length:Int) a=some r)∧Aside0 (kq≤k)∧Aside0 (Below w.heap.size w w'))
  case atStart=>exact⟨(0),rs_,H',⟨Nat.le_refl _⟩,⟨hs_ y.1⟩⟩
  case round=>
   clear H'
   obtain⟨a,rfl,HA,la,y⟩:=hrel
   cases gk with
   | zero=>exact absurd HA.1 (by simp[impl_sameAlarms.l0])
   | succ k1=>
    have H:=HA.1
    clear HA
    simp only[impl_sameAlarms.l0] at H
    replace H:=ie_ H;rcases H with⟨c4,H⟩|⟨c4,H⟩
    ·
     have na:=decide_eq_true c4
     clear c4
     replace H:=i2_ H;obtain⟨xa,ya,H⟩:=H
     replace H:=id_ H;obtain⟨za,H⟩:=H
     replace H:=bi_ H;obtain⟨ra,A8,H⟩:=H
     replace H:=ib_ H;rcases H with⟨rfl,H⟩|⟨rfl,H⟩
     ·
      have H':=M_ H
      clear H
      try go_wp2
      replace y:=db_ y
      obtain⟨R,T⟩:0≤(a:Int)∧a<(l0.length:Int):=pq_
      obtain⟨z,N,O,Y,b,d,g,i,B,D⟩:=at_T29 ga.1 a R T
      have o:=i
      have p:=g
      have q:=d
      have s:=b
      cases Y
      replace b:=c4_ y b d g i;clear d g i;obtain⟨b,d,g,i⟩:=b
      have E:=M_ D
      have W:=M_ B
      clear D B
      replace R:=eq_true R;replace T:=eq_true T
      obtain⟨U,V⟩:0≤(a:Int)∧a<(M.length:Int):=pq_
      obtain⟨A,P,Q,Z,c,j,l,m,F,G⟩:=at_T29 ha.1 a U V
      have t:=m
      have u:=l
      have v:=j
      have x:=c
      cases Z
      replace c:=c4_ y c j l m;clear j l m;obtain⟨c,j,l,m⟩:=c
      have I:=M_ G
      have X:=M_ F
      clear G F
      replace U:=eq_true U;replace V:=eq_true V
      refine start_ (n:=10) (S:=fun w'=>w'.cell? (z.add ((a).toNat*4))=some (.slice N ((rd_T29 l0 a).f0).length O)∧d_ w' (z.add ((a).toNat*4)) 1 (.int .i64 ((rd_T29 l0 a).f1))∧d_ w' (z.add ((a).toNat*4)) 2 (.int .i64 ((rd_T29 l0 a).f2))∧d_ w' (z.add ((a).toNat*4)) 3 (.string ((rd_T29 l0 a).f3))∧w'.cell? (A.add ((a).toNat*4))=some (.slice P ((rd_T29 M a).f0).length Q)∧d_ w' (A.add ((a).toNat*4)) 1 (.int .i64 ((rd_T29 M a).f1))∧d_ w' (A.add ((a).toNat*4)) 2 (.int .i64 ((rd_T29 M a).f2))∧d_ w' (A.add ((a).toNat*4)) 3 (.string ((rd_T29 M a).f3))) (ds:=[]) (b_ 0 10) (by kernel_rfl) rfl rfl ⟨((y.1.cell (World.block_lt_of_cell? w _ s)).trans s),((y.1.cell (World.block_lt_of_cell? w _ q)).trans q),((y.1.cell (World.block_lt_of_cell? w _ p)).trans p),((y.1.cell (World.block_lt_of_cell? w _ o)).trans o),((y.1.cell (World.block_lt_of_cell? w _ x)).trans x),((y.1.cell (World.block_lt_of_cell? w _ v)).trans v),((y.1.cell (World.block_lt_of_cell? w _ u)).trans u),((y.1.cell (World.block_lt_of_cell? w _ t)).trans t)⟩ (fun J=>?_);refine with_tabW impl_sameAlarms.tab6 impl_sameAlarms.bits6 (fun L aa=>?_)
      generalize wr.drew=Da at y E I b d g i c j l m J ⊢
      iterate 3 refine p_ L ?_
      refine qw_ 4 (m_ 10 23) L ?_
      refine qw_ 5 (m_ 10 55) L ?_
      refine qw_ 6 (m_ 10 119) L ?_
      refine qt_ 3 (b_ 7 3) L aa J ?_
      refine t0_ L aa J ?_
      refine o1_ 8 (b_ 9 1) L (fun K hK=>?_)
      refine gs_ Tryz.func19 #[.agg #[.slice N ((rd_T29 l0 a).f0).length O,.int .i64 ((rd_T29 l0 a).f1),.int .i64 ((rd_T29 l0 a).f2),.string ((rd_T29 l0 a).f3)],.agg #[.slice P ((rd_T29 M a).f0).length Q,.int .i64 ((rd_T29 M a).f1),.int .i64 ((rd_T29 M a).f2),.string ((rd_T29 M a).f3)]] ?_
      with_reducible refine(impl_SameAlarm.calls k1 _ _ ((rd_T29 l0 a).f0) ((rd_T29 l0 a).f1) ((rd_T29 l0 a).f2) ((rd_T29 l0 a).f3) _ _ ((rd_T29 M a).f0) ((rd_T29 M a).f1) ((rd_T29 M a).f2) ((rd_T29 M a).f3) true _ ?_ ?_ ?_ ?_ A8.1).mono ?_
      exact cp_ ((Kd.C_below E.1 y.1))
      exact W.1
      exact cp_ ((Kd.C_below I.1 y.1))
      exact X.1
      rintro e Ea ⟨rfl,hb⟩
      refine⟨_,rfl,?_⟩
      replace y:=st_ y hb
      (try clear hb)
      refine ho_ hK ⟨((y.1.cell (World.block_lt_of_cell? w _ s)).trans s),((y.1.cell (World.block_lt_of_cell? w _ q)).trans q),((y.1.cell (World.block_lt_of_cell? w _ p)).trans p),((y.1.cell (World.block_lt_of_cell? w _ o)).trans o),((y.1.cell (World.block_lt_of_cell? w _ x)).trans x),((y.1.cell (World.block_lt_of_cell? w _ v)).trans v),((y.1.cell (World.block_lt_of_cell? w _ u)).trans u),((y.1.cell (World.block_lt_of_cell? w _ t)).trans t)⟩ (fun J=>?_)
      refine p_ L ?_
      refine done_ (done_of L.1 (by kernel_rfl)) ?_
      try go_wp2
      go_roundg k1
      case measure=>have:=la.1;omega
      case rel=>exact⟨(wrap64 (a+1)),rs_,H',⟨by have:=la.1;omega⟩,⟨hs_ y.1⟩⟩
     obtain rfl:=Option.some.inj H
     try go_wp2
     replace y:=db_ y
     obtain⟨R,T⟩:0≤(a:Int)∧a<(l0.length:Int):=pq_
     obtain⟨z,N,O,Y,b,d,g,i,B,D⟩:=at_T29 ga.1 a R T
     have o:=i
     have p:=g
     have q:=d
     have s:=b
     cases Y
     replace b:=c4_ y b d g i;clear d g i;obtain⟨b,d,g,i⟩:=b
     have E:=M_ D
     have W:=M_ B
     clear D B
     replace R:=eq_true R;replace T:=eq_true T
     obtain⟨U,V⟩:0≤(a:Int)∧a<(M.length:Int):=pq_
     obtain⟨A,P,Q,Z,c,j,l,m,F,G⟩:=at_T29 ha.1 a U V
     have t:=m
     have u:=l
     have v:=j
     have x:=c
     cases Z
     replace c:=c4_ y c j l m;clear j l m;obtain⟨c,j,l,m⟩:=c
     have I:=M_ G
     have X:=M_ F
     clear G F
     replace U:=eq_true U;replace V:=eq_true V
     refine start_ (n:=10) (S:=fun w'=>w'.cell? (z.add ((a).toNat*4))=some (.slice N ((rd_T29 l0 a).f0).length O)∧d_ w' (z.add ((a).toNat*4)) 1 (.int .i64 ((rd_T29 l0 a).f1))∧d_ w' (z.add ((a).toNat*4)) 2 (.int .i64 ((rd_T29 l0 a).f2))∧d_ w' (z.add ((a).toNat*4)) 3 (.string ((rd_T29 l0 a).f3))∧w'.cell? (A.add ((a).toNat*4))=some (.slice P ((rd_T29 M a).f0).length Q)∧d_ w' (A.add ((a).toNat*4)) 1 (.int .i64 ((rd_T29 M a).f1))∧d_ w' (A.add ((a).toNat*4)) 2 (.int .i64 ((rd_T29 M a).f2))∧d_ w' (A.add ((a).toNat*4)) 3 (.string ((rd_T29 M a).f3))) (ds:=[]) (b_ 0 10) (by kernel_rfl) rfl rfl ⟨((y.1.cell (World.block_lt_of_cell? w _ s)).trans s),((y.1.cell (World.block_lt_of_cell? w _ q)).trans q),((y.1.cell (World.block_lt_of_cell? w _ p)).trans p),((y.1.cell (World.block_lt_of_cell? w _ o)).trans o),((y.1.cell (World.block_lt_of_cell? w _ x)).trans x),((y.1.cell (World.block_lt_of_cell? w _ v)).trans v),((y.1.cell (World.block_lt_of_cell? w _ u)).trans u),((y.1.cell (World.block_lt_of_cell? w _ t)).trans t)⟩ (fun J=>?_);refine with_tabW impl_sameAlarms.tab6 impl_sameAlarms.bits6 (fun L aa=>?_)
     generalize wr.drew=Fa at y E I b d g i c j l m J ⊢
     iterate 3 refine p_ L ?_
     refine qw_ 4 (m_ 10 23) L ?_
     refine qw_ 5 (m_ 10 55) L ?_
     refine qw_ 6 (m_ 10 119) L ?_
     refine qt_ 3 (b_ 7 3) L aa J ?_
     refine t0_ L aa J ?_
     refine o1_ 8 (b_ 9 1) L (fun K hK=>?_)
     refine gs_ Tryz.func19 #[.agg #[.slice N ((rd_T29 l0 a).f0).length O,.int .i64 ((rd_T29 l0 a).f1),.int .i64 ((rd_T29 l0 a).f2),.string ((rd_T29 l0 a).f3)],.agg #[.slice P ((rd_T29 M a).f0).length Q,.int .i64 ((rd_T29 M a).f1),.int .i64 ((rd_T29 M a).f2),.string ((rd_T29 M a).f3)]] ?_
     with_reducible refine(impl_SameAlarm.calls k1 _ _ ((rd_T29 l0 a).f0) ((rd_T29 l0 a).f1) ((rd_T29 l0 a).f2) ((rd_T29 l0 a).f3) _ _ ((rd_T29 M a).f0) ((rd_T29 M a).f1) ((rd_T29 M a).f2) ((rd_T29 M a).f3) false _ ?_ ?_ ?_ ?_ A8.1).mono ?_
     exact cp_ ((Kd.C_below E.1 y.1))
     exact W.1
     exact cp_ ((Kd.C_below I.1 y.1))
     exact X.1
     rintro e Ga ⟨rfl,hb⟩
     refine⟨_,rfl,?_⟩
     replace y:=st_ y hb
     (try clear hb)
     refine ho_ hK ⟨((y.1.cell (World.block_lt_of_cell? w _ s)).trans s),((y.1.cell (World.block_lt_of_cell? w _ q)).trans q),((y.1.cell (World.block_lt_of_cell? w _ p)).trans p),((y.1.cell (World.block_lt_of_cell? w _ o)).trans o),((y.1.cell (World.block_lt_of_cell? w _ x)).trans x),((y.1.cell (World.block_lt_of_cell? w _ v)).trans v),((y.1.cell (World.block_lt_of_cell? w _ u)).trans u),((y.1.cell (World.block_lt_of_cell? w _ t)).trans t)⟩ (fun J=>?_)
     refine p_ L ?_
     refine done_ (done_of L.1 (by kernel_rfl)) ?_
     try go_wp2
     go_ret
     exact an_ (hs_ y.1)
    have na:decide (a<(l0.length:Int))=false:=decide_eq_false c4
    clear c4
    obtain rfl:=Option.some.inj H
    go_wp2
    go_ret
    exact an_ (hs_ y.1)
 have ia:((l0.length:Int)==(M.length:Int))=false:=beq_eq_false_iff_ne.mpr c3
 have ja:((l0.length:Int) !=(M.length:Int))=true:=bne_iff_ne.mpr c3
 have ka:(l0.length==M.length)=false:=by first|simpa using c3|(simp at c3 ⊢;omega)
 obtain rfl:=Option.some.inj H
 go_enter Tryz.func105,Tryz.ntmps105
 go_wp2
 go_ret
 exact an_ (hs_ y.1)
def impl_SameChain.f (k:Nat) (b:Int) (c:List S29) (d:Int) (e:List S29):Option (Bool):=if b=d then ((impl_sameAlarms.f k c e).bind fun a=>(some a)) else (some false)
theorem impl_SameChain.calls (k:Nat) (b:Int) (m:Option Addr) (n:Nat) (c:List S29) (d:Int) (o:Option Addr) (p:Nat) (g:List S29) (r:Bool) (w:World) (q:Kd.C k29 w m c.length c) (s:c.length≤n) (t:Kd.C k29 w o g.length g) (u:g.length≤p) (h:impl_SameChain.f k b c d g=some r) :
  Calls Tryz.prog 71 #[.agg #[.int .i64 b,.slice m c.length n],.agg #[.int .i64 d,.slice o g.length p]] w fun e w'=>e=.returned (.bool r)∧Below w.heap.size w w':=by
 have hu80:=Tryz.underlying80
 have x:=M_ q
 have y:=M_ s
 clear q s
 have z:=M_ t
 have A:=M_ u
 clear t u
 have l:=M_ (Below.refl w.heap.size w)
 unfold impl_SameChain.f at h
 have H:=h;clear h
 have AHz_:=M_ H
 clear H
 go_enter Tryz.func71,Tryz.ntmps71
 go_wp2_with (first|((with_reducible refine gd_ 2 rfl ?_);refine bV_ 2 #[.int .i64 b,.slice m c.length n] 80 ?_;intro G hg W a hb;have I:=gq_ hg l;replace l:=st_ l hb;clear hb hg)|(((with_reducible refine gd_ 3 rfl ?_);refine bV_ 3 #[.int .i64 d,.slice o g.length p] 80 ?_;intro J hg X i hb;have K:=gq_ hg l;replace l:=st_ l hb;obtain⟨j,v,a⟩:=nb_ a hg hb;clear hb hg;have L:=n2_ j;obtain⟨M,N,O,P⟩:=bc2_ a.1;obtain⟨Q,R,S,T⟩:=bc2_ i.1);refine Aside0.out ?_))
 have H:=AHz_.1
 clear AHz_
 replace H:=ie_ H;rcases H with⟨D,H⟩|⟨D,H⟩
 ·
  have E:(b==d)=true:=beq_iff_eq.mpr D
  have F:(b !=d)=false:=bne_eq_false_iff_eq.mpr D
  clear D
  replace H:=bi_ H;obtain⟨B,U,H⟩:=H
  obtain rfl:=Option.some.inj H
  refine⟨?_⟩
  go_wp2_with (first|(go_at_call 105;(with_reducible refine(impl_sameAlarms.calls k _ _ c _ _ g B _ ?_ ?_ ?_ ?_ U.1).mono ?_);exact cp_ ((Kd.C_below x.1 l.1));exact y.1;exact cp_ ((Kd.C_below z.1 l.1));exact A.1;rintro e V ⟨rfl,hb⟩;obtain⟨a,i,l⟩:=u3_ hb a i l;(try clear hb)))
  go_ret
  exact an_ (hs_ l.1)
 have E:(b==d)=false:=beq_eq_false_iff_ne.mpr D
 have F:(b !=d)=true:=bne_iff_ne.mpr D
 obtain rfl:=Option.some.inj H
 refine⟨?_⟩
 go_wp2
 go_ret
 exact an_ (hs_ l.1)
mutual
def impl_SamePart.j0:Nat→Bool→Int→Int→List S80→Int→Int→List S80→Option (Bool)
 | 0,_,_,_,_,_,_,_=>none
 | k+1,g,b,c,a,d,e,f=>if g=true then (some false) else (impl_SamePart.l0 k (a.length:Int) 0 b c a d e f)
def impl_SamePart.l0:Nat→Int→Int→Int→Int→List S80→Int→Int→List S80→Option (Bool)
 | 0,_,_,_,_,_,_,_,_=>none
 | k+1,j,c,d,e,a,g,h,b=>if c<j then (if 0≤c then (if c<(a.length:Int) then (if c<(b.length:Int) then ((impl_SameChain.f k ((rd_T80 a c).f0) ((rd_T80 a c).f1) ((rd_T80 b c).f0) ((rd_T80 b c).f1)).bind fun i=>(if i=true then (impl_SamePart.l0 k j (wrap64 (c+1)) d e a g h b) else (some false))) else (none)) else (none)) else (none)) else (some true)
end
def impl_SamePart.f (k:Nat) (a:Int) (b:Int) (c:List S80) (d:Int) (e:Int) (f:List S80):Option (Bool):=if a=d then (if b=e then (impl_SamePart.j0 k ((c.length:Int) !=(f.length:Int)) a b c d e f) else (impl_SamePart.j0 k true a b c d e f)) else (impl_SamePart.j0 k true a b c d e f)
def impl_SamePart.T6:Bool×List (List Nat×List Nat):=(true,[([],[]),([0],[0]),([],[]),([1,2],[1,2]),([3],[3]),([],[]),([5],[5]),([],[]),([6,7],[6,7]),([8],[8]),([4,9],[4,9]),([10],[10])])
def impl_SamePart.B6:List Nat:=[0,1,0,7,15,0,32,0,224,480,1023,2047]
theorem impl_SamePart.tab6:rtab .any (opsOf Tryz.f18 6)=impl_SamePart.T6:=by kernel_rfl
theorem impl_SamePart.bits6:waitsOk impl_SamePart.T6.2 impl_SamePart.B6=true:=by kernel_rfl
theorem impl_SamePart.calls (k:Nat) (A:Int) (B:Int) (da:Option Addr) (aa:Nat) (i:List S80) (D:Int) (E:Int) (ea:Option Addr) (ba:Nat) (j:List S80) (r:Bool) (w:World) (ja:Kd.C k80 w da i.length i) (ka:i.length≤aa) (la:Kd.C k80 w ea j.length j) (ma:j.length≤ba) (h:impl_SamePart.f k A B i D E j=some r) :
  Calls Tryz.prog 18 #[.agg #[.int .i64 A,.int .i64 B,.slice da i.length aa],.agg #[.int .i64 D,.int .i64 E,.slice ea j.length ba]] w fun e w'=>e=.returned (.bool r)∧Below w.heap.size w w':=by
 have hu26:=Tryz.underlying26
 have hu80:=Tryz.underlying80
 have na:=M_ ja
 have Ea:=M_ ka
 clear ja ka
 have oa:=M_ la
 have Fa:=M_ ma
 clear la ma
 have v:=M_ (Below.refl w.heap.size w)
 unfold impl_SamePart.f at h
 have H:=h;clear h
 have ra:=M_ H
 clear H
 go_enter Tryz.func18,Tryz.ntmps18
 go_upto_region 1 with(first|((with_reducible refine gd_ 2 rfl ?_);refine bV_ 2 #[.int .i64 A,.int .i64 B,.slice da i.length aa] 26 ?_;intro y hg w4 b hb;have Ca:=gq_ hg v;replace v:=st_ v hb;clear hb hg)|((with_reducible refine gd_ 3 rfl ?_);refine bV_ 3 #[.int .i64 D,.int .i64 E,.slice ea j.length ba] 26 ?_;intro z hg w5 c hb;have Da:=gq_ hg v;replace v:=st_ v hb;obtain⟨x,qa,b⟩:=nb_ b hg hb;clear hb hg))
 (try simp only[Act.put,List.setIfInBounds_toArray,List.set_cons_zero,List.set_cons_succ])
 go_cut [26] (fun Ga wc=>∃(kq:Nat) (ga:Bool),Ga=.bool ga∧Aside0 (impl_SamePart.j0 kq ga A B i D E j=some r)∧Aside0 (kq≤k)∧Aside0 (wc.heap[y]?=some (.cells #[.int .i64 A,.int .i64 B,(.slice da i.length aa)] 26 (0,0)))∧Aside0 (wc.heap[z]?=some (.cells #[.int .i64 D,.int .i64 E,(.slice ea j.length ba)] 26 (0,0)))∧Aside0 (Below w.heap.size w wc))
 case first=>
  have H:=ra.1
  clear ra
  replace H:=ie_ H;rcases H with⟨c6,H⟩|⟨c6,H⟩
  ·
   have fa:(A==D)=true:=beq_iff_eq.mpr c6
   have wa:(A !=D)=false:=bne_eq_false_iff_eq.mpr c6
   clear c6
   (first|rw[fa]|(simp only[i64_w,i32_w];rw[fa])|skip)
   replace H:=ie_ H;rcases H with⟨c7,H⟩|⟨c7,H⟩
   ·
    have xa:(B==E)=true:=beq_iff_eq.mpr c7
    have ya:(B !=E)=false:=bne_eq_false_iff_eq.mpr c7
    clear c7
    have H':=M_ H
    clear H
    have Cb:=n2_ x
    obtain⟨Db,Eb,Fb,Gb,Hb,Ib⟩:=bc3_ b.1
    obtain⟨Ha,Ia,Ja,Ka,La,Ma⟩:=bc3_ c.1
    go_wp2
    go_meet
    case rel=>exact⟨_,(((i.length:Int) !=(j.length:Int))),rs_,H',⟨by first|omega|exact Nat.le_refl _⟩,⟨bq_ b.1⟩,⟨bq_ c.1⟩,⟨hs_ v.1⟩⟩
   have xa:(B==E)=false:=beq_eq_false_iff_ne.mpr c7
   have ya:(B !=E)=true:=bne_iff_ne.mpr c7
   have H':=M_ H
   clear H
   have Na:=n2_ x
   obtain⟨Oa,Pa,Qa,Ra,Sa,Ta⟩:=bc3_ b.1
   obtain⟨Ua,Va,Wa,Xa,Ya,Za⟩:=bc3_ c.1
   go_wp2
   go_meet
   case rel=>exact⟨_,(true),rs_,H',⟨by first|omega|exact Nat.le_refl _⟩,⟨bq_ b.1⟩,⟨bq_ c.1⟩,⟨hs_ v.1⟩⟩
  have fa:(A==D)=false:=beq_eq_false_iff_ne.mpr c6
  have wa:(A !=D)=true:=bne_iff_ne.mpr c6
  (first|rw[fa]|(simp only[i64_w,i32_w];rw[fa])|skip)
  have H':=M_ H
  clear H
  have ab:=n2_ x
  obtain⟨bb,cb,db,eb,fb,gb⟩:=bc3_ b.1
  obtain⟨ib,jb,kb,lb,mb,nb⟩:=bc3_ c.1
  go_wp2
  go_meet
  case rel=>exact⟨_,(true),rs_,H',⟨by first|omega|exact Nat.le_refl _⟩,⟨bq_ b.1⟩,⟨bq_ c.1⟩,⟨hs_ v.1⟩⟩
 case rest=>
  clear ra
  obtain⟨kq,ga,rfl,HA,HJ2,b,c,v⟩:=hcut
  cases kq with
  | zero=>exact absurd HA.1 (by simp[impl_SamePart.j0])
  | succ za=>
   have H:=HA.1
   clear HA
   simp only[impl_SamePart.j0] at H
   replace H:=ib_ H;rcases H with⟨rfl,H⟩|⟨rfl,H⟩
   ·
    obtain rfl:=Option.some.inj H
    go_wp2
    go_ret
    exact an_ (hs_ v.1)
   have H':=M_ H
   clear H
   have ob:=n2_ x
   obtain⟨pb,qb,rb,sb,tb,ub⟩:=bc3_ b.1
   go_wp2
   go_loopg [30] za (fun kq vb w'=>∃(a:Int),vb=.int .i64 a∧Aside0 (impl_SamePart.l0 kq (i.length:Int) a A B i D E j=some r)∧Aside0 (kq≤za)∧Aside0 (w'.heap[y]?=some (.cells #[.int .i64 A,.int .i64 B,(.slice da i.length aa)] 26 (0,0)))∧Aside0 (w'.heap[z]?=some (.cells #[.int .i64 D,.int .i64 E,(.slice ea j.length ba)] 26 (0,0)))∧Aside0 (Below w.heap.size w w'))
   case atStart=>exact⟨(0),rs_,H',⟨Nat.le_refl _⟩,⟨bq_ b.1⟩,⟨bq_ c.1⟩,⟨hs_ v.1⟩⟩
   case round=>
    clear H'
    obtain⟨a,rfl,HA,Aa,b,c,v⟩:=hrel
    cases gk with
    | zero=>exact absurd HA.1 (by simp[impl_SamePart.l0])
    | succ k2=>
     have H:=HA.1
     clear HA
     simp only[impl_SamePart.l0] at H
     replace H:=ie_ H;rcases H with⟨pa,H⟩|⟨pa,H⟩
     ·
      have ta:=decide_eq_true pa
      clear pa
      replace H:=i2_ H;obtain⟨xb,yb,H⟩:=H
      replace H:=id_ H;obtain⟨zb,H⟩:=H
      replace H:=bi_ H;obtain⟨Ab,Ba,H⟩:=H
      replace H:=ib_ H;rcases H with⟨rfl,H⟩|⟨rfl,H⟩
      ·
       have H':=M_ H
       clear H
       try go_wp2
       obtain⟨b,c,v⟩:=y3_ b c v
       obtain⟨U,V⟩:0≤(a:Int)∧a<(i.length:Int):=pq_
       obtain⟨N,P,Q,ha,d,l,F,G⟩:=at_T80 na.1 a U V
       have o:=l
       have p:=d
       cases ha
       replace d:=c2_ v d l;clear l;obtain⟨d,l⟩:=d
       have I:=M_ G
       have Y:=M_ F
       clear G F
       replace U:=eq_true U;replace V:=eq_true V
       obtain⟨W,X⟩:0≤(a:Int)∧a<(j.length:Int):=pq_
       obtain⟨O,R,T,ia,g,m,J,L⟩:=at_T80 oa.1 a W X
       have q:=m
       have s:=g
       cases ia
       replace g:=c2_ v g m;clear m;obtain⟨g,m⟩:=g
       have M:=M_ L
       have Z:=M_ J
       clear L J
       replace W:=eq_true W;replace X:=eq_true X
       refine start_ (n:=12) (S:=fun w'=>c_ w' y 0 (.int .i64 A)∧c_ w' y 1 (.int .i64 B)∧c_ w' y 2 (.slice (some N) i.length aa)∧c_ w' z 0 (.int .i64 D)∧c_ w' z 1 (.int .i64 E)∧c_ w' z 2 (.slice (some O) j.length ba)∧w'.cell? (N.add ((a).toNat*2))=some (.int .i64 ((rd_T80 i a).f0))∧d_ w' (N.add ((a).toNat*2)) 1 (.slice P ((rd_T80 i a).f1).length Q)∧w'.cell? (O.add ((a).toNat*2))=some (.int .i64 ((rd_T80 j a).f0))∧d_ w' (O.add ((a).toNat*2)) 1 (.slice R ((rd_T80 j a).f1).length T)) (ds:=[]) (b_ 0 12) (by kernel_rfl) rfl rfl ⟨bx_ b.1 0,bx_ b.1 1,bx_ b.1 2,bx_ c.1 0,bx_ c.1 1,bx_ c.1 2,((v.1.cell (World.block_lt_of_cell? w _ p)).trans p),((v.1.cell (World.block_lt_of_cell? w _ o)).trans o),((v.1.cell (World.block_lt_of_cell? w _ s)).trans s),((v.1.cell (World.block_lt_of_cell? w _ q)).trans q)⟩ (fun t=>?_);refine with_tabW impl_SamePart.tab6 impl_SamePart.bits6 (fun u ca=>?_)
       generalize wr.drew=Jb at b c v I M d l g m t ⊢
       refine p_ u ?_
       refine qw_ 2 (m_ 12 5) u ?_
       refine qw_ 5 (m_ 12 37) u ?_
       refine qw_ 7 (m_ 12 165) u ?_
       refine qt_ 1 (m_ 12 167) u ca t ?_
       refine qw_ 3 (m_ 12 175) u ?_
       refine qt_ 4 (m_ 12 191) u ca t ?_
       refine qt_ 6 (b_ 8 4) u ca t ?_
       refine p_ u ?_
       refine t0_ u ca t ?_
       refine o1_ 10 (b_ 11 1) u (fun K hK=>?_)
       refine gs_ Tryz.func71 #[.agg #[.int .i64 ((rd_T80 i a).f0),.slice P ((rd_T80 i a).f1).length Q],.agg #[.int .i64 ((rd_T80 j a).f0),.slice R ((rd_T80 j a).f1).length T]] ?_
       with_reducible refine(impl_SameChain.calls k2 ((rd_T80 i a).f0) _ _ ((rd_T80 i a).f1) ((rd_T80 j a).f0) _ _ ((rd_T80 j a).f1) true _ ?_ ?_ ?_ ?_ Ba.1).mono ?_
       exact cp_ ((Kd.C_below I.1 v.1))
       exact Y.1
       exact cp_ ((Kd.C_below M.1 v.1))
       exact Z.1
       rintro e Kb ⟨rfl,hb⟩
       refine⟨_,rfl,?_⟩
       obtain⟨b,c,v⟩:=u3_ hb b c v
       (try clear hb)
       refine ho_ hK ⟨bx_ b.1 0,bx_ b.1 1,bx_ b.1 2,bx_ c.1 0,bx_ c.1 1,bx_ c.1 2,((v.1.cell (World.block_lt_of_cell? w _ p)).trans p),((v.1.cell (World.block_lt_of_cell? w _ o)).trans o),((v.1.cell (World.block_lt_of_cell? w _ s)).trans s),((v.1.cell (World.block_lt_of_cell? w _ q)).trans q)⟩ (fun t=>?_)
       refine p_ u ?_
       refine done_ (done_of u.1 (by kernel_rfl)) ?_
       try go_wp2
       go_roundg k2
       case measure=>have:=HJ2.1;have:=Aa.1;omega
       case rel=>exact⟨(wrap64 (a+1)),rs_,H',⟨by have:=HJ2.1;have:=Aa.1;omega⟩,⟨bq_ b.1⟩,⟨bq_ c.1⟩,⟨hs_ v.1⟩⟩
      obtain rfl:=Option.some.inj H
      try go_wp2
      obtain⟨b,c,v⟩:=y3_ b c v
      obtain⟨U,V⟩:0≤(a:Int)∧a<(i.length:Int):=pq_
      obtain⟨N,P,Q,ha,d,l,F,G⟩:=at_T80 na.1 a U V
      have o:=l
      have p:=d
      cases ha
      replace d:=c2_ v d l;clear l;obtain⟨d,l⟩:=d
      have I:=M_ G
      have Y:=M_ F
      clear G F
      replace U:=eq_true U;replace V:=eq_true V
      obtain⟨W,X⟩:0≤(a:Int)∧a<(j.length:Int):=pq_
      obtain⟨O,R,T,ia,g,m,J,L⟩:=at_T80 oa.1 a W X
      have q:=m
      have s:=g
      cases ia
      replace g:=c2_ v g m;clear m;obtain⟨g,m⟩:=g
      have M:=M_ L
      have Z:=M_ J
      clear L J
      replace W:=eq_true W;replace X:=eq_true X
      refine start_ (n:=12) (S:=fun w'=>c_ w' y 0 (.int .i64 A)∧c_ w' y 1 (.int .i64 B)∧c_ w' y 2 (.slice (some N) i.length aa)∧c_ w' z 0 (.int .i64 D)∧c_ w' z 1 (.int .i64 E)∧c_ w' z 2 (.slice (some O) j.length ba)∧w'.cell? (N.add ((a).toNat*2))=some (.int .i64 ((rd_T80 i a).f0))∧d_ w' (N.add ((a).toNat*2)) 1 (.slice P ((rd_T80 i a).f1).length Q)∧w'.cell? (O.add ((a).toNat*2))=some (.int .i64 ((rd_T80 j a).f0))∧d_ w' (O.add ((a).toNat*2)) 1 (.slice R ((rd_T80 j a).f1).length T)) (ds:=[]) (b_ 0 12) (by kernel_rfl) rfl rfl ⟨bx_ b.1 0,bx_ b.1 1,bx_ b.1 2,bx_ c.1 0,bx_ c.1 1,bx_ c.1 2,((v.1.cell (World.block_lt_of_cell? w _ p)).trans p),((v.1.cell (World.block_lt_of_cell? w _ o)).trans o),((v.1.cell (World.block_lt_of_cell? w _ s)).trans s),((v.1.cell (World.block_lt_of_cell? w _ q)).trans q)⟩ (fun t=>?_);refine with_tabW impl_SamePart.tab6 impl_SamePart.bits6 (fun u ca=>?_)
      generalize wr.drew=Lb at b c v I M d l g m t ⊢
      refine p_ u ?_
      refine qw_ 2 (m_ 12 5) u ?_
      refine qw_ 5 (m_ 12 37) u ?_
      refine qw_ 7 (m_ 12 165) u ?_
      refine qt_ 1 (m_ 12 167) u ca t ?_
      refine qw_ 3 (m_ 12 175) u ?_
      refine qt_ 4 (m_ 12 191) u ca t ?_
      refine qt_ 6 (b_ 8 4) u ca t ?_
      refine p_ u ?_
      refine t0_ u ca t ?_
      refine o1_ 10 (b_ 11 1) u (fun K hK=>?_)
      refine gs_ Tryz.func71 #[.agg #[.int .i64 ((rd_T80 i a).f0),.slice P ((rd_T80 i a).f1).length Q],.agg #[.int .i64 ((rd_T80 j a).f0),.slice R ((rd_T80 j a).f1).length T]] ?_
      with_reducible refine(impl_SameChain.calls k2 ((rd_T80 i a).f0) _ _ ((rd_T80 i a).f1) ((rd_T80 j a).f0) _ _ ((rd_T80 j a).f1) false _ ?_ ?_ ?_ ?_ Ba.1).mono ?_
      exact cp_ ((Kd.C_below I.1 v.1))
      exact Y.1
      exact cp_ ((Kd.C_below M.1 v.1))
      exact Z.1
      rintro e Mb ⟨rfl,hb⟩
      refine⟨_,rfl,?_⟩
      obtain⟨b,c,v⟩:=u3_ hb b c v
      (try clear hb)
      refine ho_ hK ⟨bx_ b.1 0,bx_ b.1 1,bx_ b.1 2,bx_ c.1 0,bx_ c.1 1,bx_ c.1 2,((v.1.cell (World.block_lt_of_cell? w _ p)).trans p),((v.1.cell (World.block_lt_of_cell? w _ o)).trans o),((v.1.cell (World.block_lt_of_cell? w _ s)).trans s),((v.1.cell (World.block_lt_of_cell? w _ q)).trans q)⟩ (fun t=>?_)
      refine p_ u ?_
      refine done_ (done_of u.1 (by kernel_rfl)) ?_
      try go_wp2
      go_ret
      exact an_ (hs_ v.1)
     have ta:decide (a<(i.length:Int))=false:=decide_eq_false pa
     clear pa
     obtain rfl:=Option.some.inj H
     go_wp2
     go_ret
     exact an_ (hs_ v.1)
def laws_sameStore.l0:Nat→List S26→List S26→Int→Option (Bool)
 | 0,_,_,_=>none
 | k+1,c,d,a=>if a<(c.length:Int) then (if 0≤a then (if a<(d.length:Int) then ((impl_SamePart.f k ((rd_T26 c a).f0) ((rd_T26 c a).f1) ((rd_T26 c a).f2) ((rd_T26 d a).f0) ((rd_T26 d a).f1) ((rd_T26 d a).f2)).bind fun b=>(if b=true then (laws_sameStore.l0 k c d (wrap64 (a+1))) else (some false))) else (none)) else (none)) else (some true)
def laws_sameStore.f (k:Nat) (l0:List S26) (a:List S26):Option (Bool):=if (l0.length:Int)=(a.length:Int) then (laws_sameStore.l0 k l0 a 0) else (some false)
def laws_sameStore.T6:Bool×List (List Nat×List Nat):=(true,[([],[]),([],[]),([0,1],[0,1]),([2],[2]),([],[]),([],[]),([4,5],[4,5]),([6],[6]),([3,7],[3,7]),([8],[8])])
def laws_sameStore.B6:List Nat:=[0,0,3,7,0,0,48,112,255,511]
theorem laws_sameStore.tab6:rtab .any (opsOf Tryz.f45 6)=laws_sameStore.T6:=by kernel_rfl
theorem laws_sameStore.bits6:waitsOk laws_sameStore.T6.2 laws_sameStore.B6=true:=by kernel_rfl
theorem laws_sameStore.calls (k:Nat) (A0:Option Addr) (c0:Nat) (l0:List S26) (A1:Option Addr) (c1:Nat) (M:List S26) (r:Bool) (w:World) (Y:Kd.C k26 w A0 l0.length l0) (Z:l0.length≤c0) (aa:Kd.C k26 w A1 M.length M) (ba:M.length≤c1) (h:laws_sameStore.f k l0 M=some r) :
  Calls Tryz.prog 45 #[.slice A0 l0.length c0,.slice A1 M.length c1] w fun e w'=>e=.returned (.bool r)∧Below w.heap.size w w':=by
 have hu26:=Tryz.underlying26
 have ca:=M_ Y
 have va:=M_ Z
 clear Y Z
 have da:=M_ aa
 have wa:=M_ ba
 clear aa ba
 have t:=M_ (Below.refl w.heap.size w)
 unfold laws_sameStore.f at h
 have H:=h;clear h
 replace H:=ie_ H;rcases H with⟨X,H⟩|⟨X,H⟩
 ·
  have ea:((l0.length:Int)==(M.length:Int))=true:=beq_iff_eq.mpr X
  have fa:((l0.length:Int) !=(M.length:Int))=false:=bne_eq_false_iff_eq.mpr X
  have ga:(l0.length==M.length)=true:=by first|simpa using X|(simp at X ⊢;omega)
  clear X
  have H':=M_ H
  clear H
  go_enter Tryz.func45,Tryz.ntmps45
  go_wp2
  go_loopg [5] k (fun kq v5 w'=>∃(a:Int),v5=.int .i64 a∧Aside0 (laws_sameStore.l0 kq l0 M a=some r)∧Aside0 (kq≤k)∧Aside0 (Below w.heap.size w w'))
  case atStart=>exact⟨(0),rs_,H',⟨Nat.le_refl _⟩,⟨hs_ t.1⟩⟩
  case round=>
   clear H'
   obtain⟨a,rfl,HA,ha,t⟩:=hrel
   cases gk with
   | zero=>exact absurd HA.1 (by simp[laws_sameStore.l0])
   | succ k1=>
    have H:=HA.1
    clear HA
    simp only[laws_sameStore.l0] at H
    replace H:=ie_ H;rcases H with⟨c4,H⟩|⟨c4,H⟩
    ·
     have ja:=decide_eq_true c4
     clear c4
     replace H:=i2_ H;obtain⟨sa,ta,H⟩:=H
     replace H:=bi_ H;obtain⟨ma,A7,H⟩:=H
     replace H:=ib_ H;rcases H with⟨rfl,H⟩|⟨rfl,H⟩
     ·
      have H':=M_ H
      clear H
      try go_wp2
      replace t:=db_ t
      obtain⟨N,O⟩:0≤(a:Int)∧a<(l0.length:Int):=pq_
      obtain⟨B,G,I,U,b,d,i,u,v⟩:=at_T26 ca.1 a N O
      have j:=i
      have l:=d
      have m:=b
      cases U
      replace b:=c2_ t b d;clear d;obtain⟨b,d⟩:=b
      replace i:=cl_ t.1 i
      have x:=M_ v
      have R:=M_ u
      clear v u
      replace N:=eq_true N;replace O:=eq_true O
      obtain⟨P,Q⟩:0≤(a:Int)∧a<(M.length:Int):=pq_
      obtain⟨D,J,L,V,c,g,o,y,z⟩:=at_T26 da.1 a P Q
      have p:=o
      have q:=g
      have s:=c
      cases V
      replace c:=c2_ t c g;clear g;obtain⟨c,g⟩:=c
      replace o:=cl_ t.1 o
      have A:=M_ z
      have T:=M_ y
      clear z y
      replace P:=eq_true P;replace Q:=eq_true Q
      refine start_ (n:=10) (S:=fun w'=>w'.cell? (B.add ((a).toNat*3))=some (.int .i64 ((rd_T26 l0 a).f0))∧d_ w' (B.add ((a).toNat*3)) 1 (.int .i64 ((rd_T26 l0 a).f1))∧d_ w' (B.add ((a).toNat*3)) 2 (.slice G ((rd_T26 l0 a).f2).length I)∧w'.cell? (D.add ((a).toNat*3))=some (.int .i64 ((rd_T26 M a).f0))∧d_ w' (D.add ((a).toNat*3)) 1 (.int .i64 ((rd_T26 M a).f1))∧d_ w' (D.add ((a).toNat*3)) 2 (.slice J ((rd_T26 M a).f2).length L)) (ds:=[]) (b_ 0 10) (by kernel_rfl) rfl rfl ⟨((t.1.cell (World.block_lt_of_cell? w _ m)).trans m),((t.1.cell (World.block_lt_of_cell? w _ l)).trans l),((t.1.cell (World.block_lt_of_cell? w _ j)).trans j),((t.1.cell (World.block_lt_of_cell? w _ s)).trans s),((t.1.cell (World.block_lt_of_cell? w _ q)).trans q),((t.1.cell (World.block_lt_of_cell? w _ p)).trans p)⟩ (fun E=>?_);refine with_tabW laws_sameStore.tab6 laws_sameStore.bits6 (fun F W=>?_)
      generalize wr.drew=w9 at t x A b d i c g o E ⊢
      iterate 3 refine p_ F ?_
      refine qw_ 4 (m_ 10 23) F ?_
      refine qw_ 5 (m_ 10 55) F ?_
      refine qw_ 6 (m_ 10 119) F ?_
      refine qt_ 3 (b_ 7 3) F W E ?_
      refine t0_ F W E ?_
      refine o1_ 8 (b_ 9 1) F (fun K hK=>?_)
      refine gs_ Tryz.func18 #[.agg #[.int .i64 ((rd_T26 l0 a).f0),.int .i64 ((rd_T26 l0 a).f1),.slice G ((rd_T26 l0 a).f2).length I],.agg #[.int .i64 ((rd_T26 M a).f0),.int .i64 ((rd_T26 M a).f1),.slice J ((rd_T26 M a).f2).length L]] ?_
      with_reducible refine(impl_SamePart.calls k1 ((rd_T26 l0 a).f0) ((rd_T26 l0 a).f1) _ _ ((rd_T26 l0 a).f2) ((rd_T26 M a).f0) ((rd_T26 M a).f1) _ _ ((rd_T26 M a).f2) true _ ?_ ?_ ?_ ?_ A7.1).mono ?_
      exact cp_ ((Kd.C_below x.1 t.1))
      exact R.1
      exact cp_ ((Kd.C_below A.1 t.1))
      exact T.1
      rintro e ya ⟨rfl,hb⟩
      refine⟨_,rfl,?_⟩
      replace t:=st_ t hb
      (try clear hb)
      refine ho_ hK ⟨((t.1.cell (World.block_lt_of_cell? w _ m)).trans m),((t.1.cell (World.block_lt_of_cell? w _ l)).trans l),((t.1.cell (World.block_lt_of_cell? w _ j)).trans j),((t.1.cell (World.block_lt_of_cell? w _ s)).trans s),((t.1.cell (World.block_lt_of_cell? w _ q)).trans q),((t.1.cell (World.block_lt_of_cell? w _ p)).trans p)⟩ (fun E=>?_)
      refine p_ F ?_
      refine done_ (done_of F.1 (by kernel_rfl)) ?_
      try go_wp2
      go_roundg k1
      case measure=>have:=ha.1;omega
      case rel=>exact⟨(wrap64 (a+1)),rs_,H',⟨by have:=ha.1;omega⟩,⟨hs_ t.1⟩⟩
     obtain rfl:=Option.some.inj H
     try go_wp2
     replace t:=db_ t
     obtain⟨N,O⟩:0≤(a:Int)∧a<(l0.length:Int):=pq_
     obtain⟨B,G,I,U,b,d,i,u,v⟩:=at_T26 ca.1 a N O
     have j:=i
     have l:=d
     have m:=b
     cases U
     replace b:=c2_ t b d;clear d;obtain⟨b,d⟩:=b
     replace i:=cl_ t.1 i
     have x:=M_ v
     have R:=M_ u
     clear v u
     replace N:=eq_true N;replace O:=eq_true O
     obtain⟨P,Q⟩:0≤(a:Int)∧a<(M.length:Int):=pq_
     obtain⟨D,J,L,V,c,g,o,y,z⟩:=at_T26 da.1 a P Q
     have p:=o
     have q:=g
     have s:=c
     cases V
     replace c:=c2_ t c g;clear g;obtain⟨c,g⟩:=c
     replace o:=cl_ t.1 o
     have A:=M_ z
     have T:=M_ y
     clear z y
     replace P:=eq_true P;replace Q:=eq_true Q
     refine start_ (n:=10) (S:=fun w'=>w'.cell? (B.add ((a).toNat*3))=some (.int .i64 ((rd_T26 l0 a).f0))∧d_ w' (B.add ((a).toNat*3)) 1 (.int .i64 ((rd_T26 l0 a).f1))∧d_ w' (B.add ((a).toNat*3)) 2 (.slice G ((rd_T26 l0 a).f2).length I)∧w'.cell? (D.add ((a).toNat*3))=some (.int .i64 ((rd_T26 M a).f0))∧d_ w' (D.add ((a).toNat*3)) 1 (.int .i64 ((rd_T26 M a).f1))∧d_ w' (D.add ((a).toNat*3)) 2 (.slice J ((rd_T26 M a).f2).length L)) (ds:=[]) (b_ 0 10) (by kernel_rfl) rfl rfl ⟨((t.1.cell (World.block_lt_of_cell? w _ m)).trans m),((t.1.cell (World.block_lt_of_cell? w _ l)).trans l),((t.1.cell (World.block_lt_of_cell? w _ j)).trans j),((t.1.cell (World.block_lt_of_cell? w _ s)).trans s),((t.1.cell (World.block_lt_of_cell? w _ q)).trans q),((t.1.cell (World.block_lt_of_cell? w _ p)).trans p)⟩ (fun E=>?_);refine with_tabW laws_sameStore.tab6 laws_sameStore.bits6 (fun F W=>?_)
     generalize wr.drew=za at t x A b d i c g o E ⊢
     iterate 3 refine p_ F ?_
     refine qw_ 4 (m_ 10 23) F ?_
     refine qw_ 5 (m_ 10 55) F ?_
     refine qw_ 6 (m_ 10 119) F ?_
     refine qt_ 3 (b_ 7 3) F W E ?_
     refine t0_ F W E ?_
     refine o1_ 8 (b_ 9 1) F (fun K hK=>?_)
     refine gs_ Tryz.func18 #[.agg #[.int .i64 ((rd_T26 l0 a).f0),.int .i64 ((rd_T26 l0 a).f1),.slice G ((rd_T26 l0 a).f2).length I],.agg #[.int .i64 ((rd_T26 M a).f0),.int .i64 ((rd_T26 M a).f1),.slice J ((rd_T26 M a).f2).length L]] ?_
     with_reducible refine(impl_SamePart.calls k1 ((rd_T26 l0 a).f0) ((rd_T26 l0 a).f1) _ _ ((rd_T26 l0 a).f2) ((rd_T26 M a).f0) ((rd_T26 M a).f1) _ _ ((rd_T26 M a).f2) false _ ?_ ?_ ?_ ?_ A7.1).mono ?_
     exact cp_ ((Kd.C_below x.1 t.1))
     exact R.1
     exact cp_ ((Kd.C_below A.1 t.1))
     exact T.1
     rintro e Aa ⟨rfl,hb⟩
     refine⟨_,rfl,?_⟩
     replace t:=st_ t hb
     (try clear hb)
     refine ho_ hK ⟨((t.1.cell (World.block_lt_of_cell? w _ m)).trans m),((t.1.cell (World.block_lt_of_cell? w _ l)).trans l),((t.1.cell (World.block_lt_of_cell? w _ j)).trans j),((t.1.cell (World.block_lt_of_cell? w _ s)).trans s),((t.1.cell (World.block_lt_of_cell? w _ q)).trans q),((t.1.cell (World.block_lt_of_cell? w _ p)).trans p)⟩ (fun E=>?_)
     refine p_ F ?_
     refine done_ (done_of F.1 (by kernel_rfl)) ?_
     try go_wp2
     go_ret
     exact an_ (hs_ t.1)
    have ja:decide (a<(l0.length:Int))=false:=decide_eq_false c4
    clear c4
    obtain rfl:=Option.some.inj H
    go_wp2
    go_ret
    exact an_ (hs_ t.1)
 have ea:((l0.length:Int)==(M.length:Int))=false:=beq_eq_false_iff_ne.mpr X
 have fa:((l0.length:Int) !=(M.length:Int))=true:=bne_iff_ne.mpr X
 have ga:(l0.length==M.length)=false:=by first|simpa using X|(simp at X ⊢;omega)
 obtain rfl:=Option.some.inj H
 go_enter Tryz.func45,Tryz.ntmps45
 go_wp2
 go_ret
 exact an_ (hs_ t.1)
noncomputable def laws_FnStoresBent.f (k:Nat) (n:List Int):Option (Bool):=(laws_big.f n).bind fun o=>(if o=true then (some true) else ((spec_DrawStoreOk.f k n).bind fun l=>((spec_DrawPutAlarm.f k n).bind fun a=>((impl_PutAlarm.f k a.1 a.2.1 a.2.2.1 a.2.2.2.1 a.2.2.2.2).bind fun i=>((spec_PutAlarm.f k a.1 a.2.1 a.2.2.1 a.2.2.2.1 a.2.2.2.2).bind fun j=>((spec_DrawFindAlarm.f k n).bind fun d=>((impl_FindAlarm.f k d.1 d.2).bind fun b=>((spec_FindAlarm.f k d.1 d.2).bind fun c=>((spec_DrawAllAlarms.f k n).bind fun g=>((spec_DrawHomeOf.f k n).bind fun e=>((spec_DrawStoreNew.f k n).bind fun m=>((impl_StoreNew.f k m).bind fun h=>((impl_StoreOk.f k l).bind fun p=>((spec_StoreOk.f k l).bind fun q=>(if (p==q)=true then ((laws_sameStore.f k i.1 j.1).bind fun r=>(if r=true then (if (i.2==j.2)=true then (if (b.2.2.2.2==c.2.2.2.2)=true then ((impl_SameAlarm.f k b.1 b.2.1 b.2.2.1 b.2.2.2.1 c.1 c.2.1 c.2.2.1 c.2.2.2.1).bind fun s=>(if s=true then ((impl_AllAlarms.f k g).bind fun t=>((spec_AllAlarms.f k g).bind fun u=>((laws_sameList.f k t u).bind fun v=>(if v=true then ((impl_CountOf.f k g).bind fun w=>((impl_AllAlarms.f k g).bind fun x=>(if w=(x.length:Int) then ((impl_HomeOf.f k e.1 e.2).bind fun y=>((spec_HomeOf.f k e.1 e.2).bind fun z=>(if y=z then ((spec_StoreNew.f k m).bind fun A=>((laws_sameStore.f k h A).bind fun B=>(if B=true then ((impl_StoreOk.f k h).bind fun C=>(if C=true then ((impl_CountOf.f k h).bind fun D=>(some (D==0))) else (none))) else (none)))) else (none)))) else (none)))) else (none))))) else (none))) else (none)) else (none)) else (none))) else (none))))))))))))))))
theorem laws_FnStoresBent.calls (k:Nat) (A0:Option Addr) (c0:Nat) (l0:List Int) (r:Bool) (w:World) (mb:Kd.C (Kd.int .u8) w A0 l0.length l0) (nb:l0.length≤c0) (h:laws_FnStoresBent.f k l0=some r) :
  Calls Tryz.prog 5 #[.slice A0 l0.length c0] w fun e w'=>e=.returned (.bool r)∧Below w.heap.size w w':=by
 have hu29:=Tryz.underlying29
 have ta:=M_ mb
 have ua:=M_ nb
 clear mb nb
 have u:=M_ (Below.refl w.heap.size w)
 unfold laws_FnStoresBent.f at h
 have H:=h;clear h
 replace H:=bi_ H;obtain⟨ib,A2,H⟩:=H
 have AHz_:=M_ H
 clear H
 go_enter Tryz.func5,Tryz.ntmps5
 go_wp2_with (first|(((with_reducible refine gate_callee (f:=6) rfl ?_);refine gl_ (some 22) Tryz.func6 #[.slice A0 l0.length c0] ?_;(with_reducible refine(laws_big.calls _ _ l0 ib _ ?_ ?_ A2.1).mono ?_);exact cp_ (ta.1);exact ua.1;rintro e w' ⟨rfl,⟨nd,rfl⟩⟩;refine⟨_,rfl,?_⟩);refine Aside0.out ?_))
 have H:=AHz_.1
 clear AHz_
 replace H:=ib_ H;rcases H with⟨rfl,H⟩|⟨rfl,H⟩
 ·
  obtain rfl:=Option.some.inj H
  refine⟨?_⟩
  go_wp2
  go_ret
  exact an_ (hs_ u.1)
 replace H:=bi_ H;obtain⟨va,A4,H⟩:=H
 replace H:=bi_ H;obtain⟨⟨U,I,V,W,X⟩,A5,H⟩:=H;(try dsimp only at H)
 replace H:=bi_ H;obtain⟨⟨Na,ca⟩,A6,H⟩:=H;(try dsimp only at H)
 replace H:=bi_ H;obtain⟨⟨Oa,da⟩,A7,H⟩:=H;(try dsimp only at H)
 replace H:=bi_ H;obtain⟨⟨Y,N⟩,A8,H⟩:=H;(try dsimp only at H)
 replace H:=bi_ H;obtain⟨⟨wa,xa,ya,za,ea⟩,A9,H⟩:=H;(try dsimp only at H)
 replace H:=bi_ H;obtain⟨⟨Aa,Ba,Ca,Da,fa⟩,cc,H⟩:=H;(try dsimp only at H)
 replace H:=bi_ H;obtain⟨aa,dc,H⟩:=H
 replace H:=bi_ H;obtain⟨⟨Ea,Fa⟩,ec,H⟩:=H;(try dsimp only at H)
 replace H:=bi_ H;obtain⟨ga,fc,H⟩:=H
 replace H:=bi_ H;obtain⟨ha,gc,H⟩:=H
 replace H:=bi_ H;obtain⟨ia,hc,H⟩:=H
 replace H:=bi_ H;obtain⟨ja,ic,H⟩:=H
 replace H:=in_ H;obtain⟨Xa,H⟩:=H
 have jc:(ia==ja)=true:=Xa
 (try (have kc:decide (ia=ja)=true:=by simpa using Xa))
 (try (have lc:(ia==ja)=true:=by simpa using Xa))
 clear Xa
 replace H:=bi_ H;obtain⟨mc,nc,H⟩:=H
 replace H:=in_ H;obtain⟨rfl,H⟩:=H
 replace H:=in_ H;obtain⟨Ya,H⟩:=H
 have oc:(ca==da)=true:=Ya
 (try (have pc:decide (ca=da)=true:=by simpa using Ya))
 (try (have qc:(ca==da)=true:=by simpa using Ya))
 clear Ya
 replace H:=in_ H;obtain⟨Za,H⟩:=H
 have rc:(ea==fa)=true:=Za
 (try (have sc:decide (ea=fa)=true:=by simpa using Za))
 (try (have tc:(ea==fa)=true:=by simpa using Za))
 clear Za
 replace H:=bi_ H;obtain⟨uc,vc,H⟩:=H
 replace H:=in_ H;obtain⟨rfl,H⟩:=H
 replace H:=bi_ H;obtain⟨Pa,ob,H⟩:=H
 replace H:=bi_ H;obtain⟨Qa,wc,H⟩:=H
 replace H:=bi_ H;obtain⟨xc,yc,H⟩:=H
 replace H:=in_ H;obtain⟨rfl,H⟩:=H
 replace H:=bi_ H;obtain⟨Ga,zc,H⟩:=H
 replace H:=bi_ H;obtain⟨Ha,pb,H⟩:=H
 replace H:=in_ H;obtain⟨jb,H⟩:=H
 have Ac:(Ga==(Ha.length:Int))=true:=beq_iff_eq.mpr jb
 have Bc:(Ga !=(Ha.length:Int))=false:=bne_eq_false_iff_eq.mpr jb
 clear jb
 replace H:=bi_ H;obtain⟨Ia,Cc,H⟩:=H
 replace H:=bi_ H;obtain⟨Ja,Dc,H⟩:=H
 replace H:=in_ H;obtain⟨kb,H⟩:=H
 have Ec:(Ia==Ja)=true:=beq_iff_eq.mpr kb
 have Fc:(Ia !=Ja)=false:=bne_eq_false_iff_eq.mpr kb
 clear kb
 replace H:=bi_ H;obtain⟨Ra,Gc,H⟩:=H
 replace H:=bi_ H;obtain⟨Hc,Ic,H⟩:=H
 replace H:=in_ H;obtain⟨rfl,H⟩:=H
 replace H:=bi_ H;obtain⟨Jc,Kc,H⟩:=H
 replace H:=in_ H;obtain⟨rfl,H⟩:=H
 replace H:=bi_ H;obtain⟨lb,Lc,H⟩:=H
 obtain rfl:=Option.some.inj H
 refine⟨?_⟩
 go_wp2_with (first|((with_reducible refine gate_callee (f:=35) rfl ?_);refine gl_ (some 24) Tryz.func35 #[.slice A0 l0.length c0] ?_;(with_reducible refine(spec_DrawStoreOk.calls k _ _ l0 va _ ?_ ?_ A4.1).mono ?_);exact cp_ (ta.1);exact ua.1;rintro e Ie ⟨Mc,rfl,s,hb⟩;refine⟨_,rfl,?_⟩;obtain⟨qb,ab⟩:=Kd.R_name s;have i:=rg_ ab s u;have rb:=st_ u hb;clear u;have u:=rb;clear rb;(try clear hb s))|((with_reducible refine gate_callee (f:=36) rfl ?_);refine gl_ (some 27) Tryz.func36 #[.slice A0 l0.length c0] ?_;(with_reducible refine(spec_DrawPutAlarm.calls k _ _ l0 U I V W X _ ?_ ?_ A5.1).mono ?_);exact cp_ ((Kd.C_below ta.1 u.1));exact ua.1;rintro e Je ⟨Nc,Oc,rfl,s,oa,hb⟩;refine⟨_,rfl,?_⟩;obtain⟨pa,ka⟩:=Kd.R_name s;replace i:=ru_ ka (rp_ i.1) hb;have v:=rg_ ka s u;have x:=rg_ ka oa u;replace u:=st_ u hb;(try clear hb s oa))|((with_reducible refine gd_ 5 rfl ?_);refine bV_ 5 #[.slice none 0 0,.int .i64 0,.int .i64 0,.string (⟨#[]⟩:ByteArray)] 29 ?_;intro E hg Ke a hb;replace i:=M_ (Kd.R_below (Kd.R_elderB (rp_ i.1) E (Nat.le_of_eq hg.symm)) hb);replace v:=M_ (Kd.R_below (Kd.R_elderB (rp_ v.1) E (Nat.le_of_eq hg.symm)) hb);replace x:=rb_ x hb;have Xb:=gq_ hg u;replace u:=st_ u hb;clear hb hg;obtain⟨Ka,qa,sb⟩:=Kd.R_slice x.1;subst sb;obtain⟨Pc,Qc,Rc,Sc,Tc,Uc,Vc,Wc⟩:=bc4_ a.1;obtain⟨fb,Sa,tb⟩:=Kd.R_slice v.1;subst tb)|((with_reducible refine gate_callee (f:=29) rfl ?_);refine gl_ (some 33) Tryz.func29 #[.slice fb U.length Sa,.agg #[.slice Ka I.length qa,.int .i64 V,.int .i64 W,.string X]] ?_;(with_reducible refine(impl_PutAlarm.calls k _ _ U _ _ I V W X Na ca _ ?side1 ?side2 ?side3 ?side4 A6.1).mono ?_);(case side1=>refine(Kd.R_reads' (e:=26) (base:=w.heap.size) (ok:=fun k_=>((some k_≠(.slice Ka I.length qa:Value).ownBlock∧pa≤k_)∧k_≠E)) (n:=U.length) (c:=Sa) ?_).2.2;exact(rf_ E v.1 (fun _ hk=>hk.2)));(case side2=>exact(Kd.R_reads' v.1).2.1);(case side3=>refine(Kd.R_reads' (e:=99) (base:=w.heap.size) (ok:=fun k_=>(True∧pa≤k_)) (n:=I.length) (c:=qa) ?_).2.2;exact(ry_ x.1 a.1));(case side4=>exact(Kd.R_reads' x.1).2.1);rintro e Le ⟨Xc,rfl,s,hb⟩;refine⟨_,rfl,?_⟩;obtain⟨ub,Z⟩:=Kd.R_name s;replace i:=ru_ Z (rf_ E i.1 (fun _ hk=>hk.2)) hb;replace v:=ru_ Z (rf_ E v.1 (fun _ hk=>hk.2)) hb;replace x:=ru_ Z (ry_ x.1 a.1) hb;have o:=M_ (Kd.R_lower (Kd.R_newB (Kd.R_gez Z s) (bp_ a.1)) (below_size (hs_ u.1)));replace a:=by_ a #[.slice Ka I.length qa,.int .i64 V,.int .i64 W,.string X] hb;replace u:=st_ u hb;(try clear hb s);obtain⟨Yc,Zc,ad,bd,cd,dd,ed,fd⟩:=bc4_ a.1)|((with_reducible refine gate_callee (f:=37) rfl ?_);refine gl_ (some 39) Tryz.func37 #[.slice fb U.length Sa,.agg #[.slice Ka I.length qa,.int .i64 V,.int .i64 W,.string X]] ?_;(with_reducible refine(spec_PutAlarm.calls k _ _ U _ _ I V W X Oa da _ ?_ ?_ ?_ ?_ A7.1).mono ?_);exact cp_ ((Kd.R_reads' v.1).2.2);exact(Kd.R_reads' v.1).2.1;exact cp_ ((Kd.R_reads' x.1).2.2);exact(Kd.R_reads' x.1).2.1;rintro e Me ⟨gd,rfl,s,hb⟩;refine⟨_,rfl,?_⟩;obtain⟨vb,O⟩:=Kd.R_name s;replace i:=ru_ O (rp_ i.1) hb;replace v:=ru_ O (rp_ v.1) hb;replace x:=ru_ O (rp_ x.1) hb;replace o:=ru_ O (rp_ o.1) hb;have p:=M_ (Kd.R_lower (Kd.R_newB (Kd.R_gez O s) (pb_ a.1)) (below_size (hs_ u.1)));obtain⟨a,u⟩:=u2_ hb a u;(try clear hb s))|((with_reducible refine gate_callee (f:=38) rfl ?_);refine gl_ (some 44) Tryz.func38 #[.slice A0 l0.length c0] ?_;(with_reducible refine(spec_DrawFindAlarm.calls k _ _ l0 Y N _ ?_ ?_ A8.1).mono ?_);exact cp_ ((Kd.C_below ta.1 u.1));exact ua.1;rintro e Ne ⟨hd,jd,rfl,s,oa,hb⟩;refine⟨_,rfl,?_⟩;obtain⟨ra,P⟩:=Kd.R_name s;replace i:=ru_ P (rp_ i.1) hb;replace o:=ru_ P (rp_ o.1) hb;replace p:=ru_ P (rp_ p.1) hb;have y:=M_ (Kd.R_lower (Kd.R_newB (Kd.R_gez P s) (pb_ a.1)) (below_size (hs_ u.1)));have z:=rg_ P oa u;obtain⟨a,u⟩:=u2_ hb a u;(try clear hb s oa);obtain⟨gb,Ta,wb⟩:=Kd.R_slice y.1;subst wb;obtain⟨Ua,La,xb⟩:=Kd.R_slice z.1;subst xb)|((with_reducible refine gate_callee (f:=30) rfl ?_);refine gl_ (some 50) Tryz.func30 #[.slice gb Y.length Ta,.slice Ua N.length La] ?_;(with_reducible refine(impl_FindAlarm.calls k _ _ Y _ _ N wa xa ya za ea _ ?_ ?_ ?_ ?_ A9.1).mono ?_);exact cp_ ((Kd.R_reads' y.1).2.2);exact(Kd.R_reads' y.1).2.1;exact cp_ ((Kd.R_reads' z.1).2.2);exact(Kd.R_reads' z.1).2.1;rintro e Oe ⟨kd,rfl,s,hb⟩;refine⟨_,rfl,?_⟩;obtain⟨sa,J⟩:=Kd.R_name s;replace i:=ru_ J (rp_ i.1) hb;replace o:=ru_ J (rp_ o.1) hb;replace p:=ru_ J (rp_ p.1) hb;replace y:=ru_ J (rp_ y.1) hb;replace z:=ru_ J (rp_ z.1) hb;have q:=rg_ J s u;obtain⟨a,u⟩:=u2_ hb a u;(try clear hb s))|((with_reducible refine gd_ 12 rfl ?_);refine bV_ 12 #[.slice none 0 0,.int .i64 0,.int .i64 0,.string (⟨#[]⟩:ByteArray)] 29 ?_;intro A hg Pe b hb;replace i:=M_ (Kd.R_below (Kd.R_elderB (rp_ i.1) A (Nat.le_of_eq hg.symm)) hb);replace o:=M_ (Kd.R_below (Kd.R_elderB (rp_ o.1) A (Nat.le_of_eq hg.symm)) hb);replace p:=M_ (Kd.R_below (Kd.R_elderB (rp_ p.1) A (Nat.le_of_eq hg.symm)) hb);replace y:=M_ (Kd.R_below (Kd.R_elderB (rp_ y.1) A (Nat.le_of_eq hg.symm)) hb);obtain⟨z,q⟩:=u2_ hb z q;have Yb:=gq_ hg u;have Zb:=gq_ hg u;replace u:=st_ u hb;obtain⟨bb,la,a⟩:=nb_ a hg hb;clear hb hg;obtain⟨yb,zb,Ab⟩:=Kd.R_slice q.1;subst Ab;have ld:=n2_ la;obtain⟨md,od,pd,qd,rd,sd,td,ud⟩:=bc4_ b.1)|((with_reducible refine gate_callee (f:=39) rfl ?_);refine gl_ (some 56) Tryz.func39 #[.slice gb Y.length Ta,.slice Ua N.length La] ?_;(with_reducible refine(spec_FindAlarm.calls k _ _ Y _ _ N Aa Ba Ca Da fa _ ?side1 ?side2 ?side3 ?side4 cc.1).mono ?_);(case side1=>refine(Kd.R_reads' (e:=26) (base:=w.heap.size) (ok:=fun k_=>((((some k_≠(.slice Ua N.length La:Value).ownBlock∧ra≤k_)∧k_≠E)∧k_<sa)∧k_≠A)) (n:=Y.length) (c:=Ta) ?_).2.2;exact(rf_ A y.1 (fun _ hk=>hk.2)));(case side2=>exact(Kd.R_reads' y.1).2.1);(case side3=>refine(Kd.R_reads' (e:=99) (base:=w.heap.size) (ok:=fun k_=>((True∧ra≤k_)∧k_<sa)) (n:=N.length) (c:=La) ?_).2.2;exact(ry_ z.1 b.1));(case side4=>exact(Kd.R_reads' z.1).2.1);rintro e Qe ⟨vd,rfl,s,hb⟩;refine⟨_,rfl,?_⟩;obtain⟨Bb,F⟩:=Kd.R_name s;replace i:=ru_ F (rf_ A i.1 (fun _ hk=>hk.2)) hb;replace o:=ru_ F (rf_ A o.1 (fun _ hk=>hk.2)) hb;replace p:=ru_ F (rf_ A p.1 (fun _ hk=>hk.2)) hb;replace y:=ru_ F (rf_ A y.1 (fun _ hk=>hk.2)) hb;replace z:=ru_ F (ry_ z.1 b.1) hb;replace q:=ru_ F (ry_ q.1 b.1) hb;have t:=rg_ F s u;replace a:=bk2_ a hb;replace b:=by_ b #[.slice yb wa.length zb,.int .i64 xa,.int .i64 ya,.string za] hb;replace u:=st_ u hb;(try clear hb s))|((with_reducible refine gd_ 14 rfl ?_);refine bV_ 14 #[.slice none 0 0,.int .i64 0,.int .i64 0,.string (⟨#[]⟩:ByteArray)] 29 ?_;intro K hg Re d hb;replace i:=M_ (Kd.R_below (Kd.R_elderB (rp_ i.1) K (Nat.le_of_eq hg.symm)) hb);replace o:=M_ (Kd.R_below (Kd.R_elderB (rp_ o.1) K (Nat.le_of_eq hg.symm)) hb);replace p:=M_ (Kd.R_below (Kd.R_elderB (rp_ p.1) K (Nat.le_of_eq hg.symm)) hb);obtain⟨q,t⟩:=u2_ hb q t;have ac:=gq_ hg u;have bc:=gq_ hg u;replace u:=st_ u hb;obtain⟨cb,ma,a⟩:=nb_ a hg hb;obtain⟨db,na,b⟩:=nb_ b hg hb;clear hb hg;obtain⟨Cb,Db,Eb⟩:=Kd.R_slice t.1;subst Eb;have wd:=n2_ ma;have xd:=n2_ na;obtain⟨yd,zd,Ad,Bd,Cd,Dd,Ed,Fd⟩:=bc4_ d.1)|((with_reducible refine gate_callee (f:=40) rfl ?_);refine gl_ (some 60) Tryz.func40 #[.slice A0 l0.length c0] ?_;(with_reducible refine(spec_DrawAllAlarms.calls k _ _ l0 aa _ ?_ ?_ dc.1).mono ?_);exact Kd.C_below ta.1 (hs_ u.1);exact ua.1;rintro e Se ⟨Gd,rfl,s,hb⟩;refine⟨_,rfl,?_⟩;obtain⟨Fb,L⟩:=Kd.R_name s;replace i:=ru_ L (rf_ K i.1 (fun _ hk=>hk.2)) hb;replace o:=ru_ L (rf_ K o.1 (fun _ hk=>hk.2)) hb;replace p:=ru_ L (rf_ K p.1 (fun _ hk=>hk.2)) hb;replace q:=ru_ L (ry_ q.1 d.1) hb;replace t:=ru_ L (ry_ t.1 d.1) hb;have j:=M_ (Kd.R_lower (Kd.R_newB (Kd.R_newB (Kd.R_newB (Kd.R_gez L s) (bq_ a.1)) (bq_ b.1)) (bp_ d.1)) (below_size (hs_ u.1)));obtain⟨a,b⟩:=u2_ hb a b;replace d:=by_ d #[.slice Cb Aa.length Db,.int .i64 Ba,.int .i64 Ca,.string Da] hb;replace u:=st_ u hb;(try clear hb s))|((with_reducible refine gate_callee (f:=41) rfl ?_);refine gl_ (some 63) Tryz.func41 #[.slice A0 l0.length c0] ?_;(with_reducible refine(spec_DrawHomeOf.calls k _ _ l0 Ea Fa _ ?_ ?_ ec.1).mono ?_);exact cp_ ((Kd.C_below ta.1 u.1));exact ua.1;rintro e Te ⟨Hd,Id,rfl,s,oa,hb⟩;refine⟨_,rfl,?_⟩;obtain⟨Gb,D⟩:=Kd.R_name s;replace i:=ru_ D (rp_ i.1) hb;replace o:=ru_ D (rp_ o.1) hb;replace p:=ru_ D (rp_ p.1) hb;replace q:=ru_ D (rp_ q.1) hb;replace t:=ru_ D (rp_ t.1) hb;replace j:=ru_ D (rp_ j.1) hb;have l:=M_ (Kd.R_lower (Kd.R_newB (Kd.R_newB (Kd.R_newB (Kd.R_gez D s) (pb_ a.1)) (pb_ b.1)) (pb_ d.1)) (below_size (hs_ u.1)));have m:=rg_ D oa u;obtain⟨a,b,d,u⟩:=u4_ hb a b d u;(try clear hb s oa))|((with_reducible refine gate_callee (f:=42) rfl ?_);refine gl_ (some 67) Tryz.func42 #[.slice A0 l0.length c0] ?_;(with_reducible refine(spec_DrawStoreNew.calls k _ _ l0 ga _ ?_ ?_ fc.1).mono ?_);exact cp_ ((Kd.C_below ta.1 u.1));exact ua.1;rintro e Ue ⟨rfl,hb⟩;refine⟨_,rfl,?_⟩;obtain⟨i,o,p,q,t,j,l,m,a,b⟩:=u10_ hb i o p q t j l m a b;obtain⟨d,u⟩:=u2_ hb d u;(try clear hb))|((with_reducible refine gate_callee (f:=43) rfl ?_);refine gl_ (some 69) Tryz.func43 #[.int .i64 ga] ?_;(with_reducible refine(impl_StoreNew.calls k ga ha _ gc.1).mono ?_);rintro e Ve ⟨Jd,rfl,s,hb⟩;refine⟨_,rfl,?_⟩;obtain⟨Hb,B⟩:=Kd.R_name s;replace i:=ru_ B (rp_ i.1) hb;replace o:=ru_ B (rp_ o.1) hb;replace p:=ru_ B (rp_ p.1) hb;replace q:=ru_ B (rp_ q.1) hb;replace t:=ru_ B (rp_ t.1) hb;replace j:=ru_ B (rp_ j.1) hb;replace l:=ru_ B (rp_ l.1) hb;replace m:=ru_ B (rp_ m.1) hb;have g:=M_ (Kd.R_lower (Kd.R_newB (Kd.R_newB (Kd.R_newB (Kd.R_gez B s) (pb_ a.1)) (pb_ b.1)) (pb_ d.1)) (below_size (hs_ u.1)));obtain⟨a,b,d,u⟩:=u4_ hb a b d u;(try clear hb s);obtain⟨fe,ge,Ib⟩:=Kd.R_slice i.1;subst Ib)|(go_at_call 32;(with_reducible refine(impl_StoreOk.calls k _ _ va ia _ ?_ ?_ hc.1).mono ?_);exact cp_ ((Kd.R_reads' i.1).2.2);exact(Kd.R_reads' i.1).2.1;rintro e We ⟨rfl,hb⟩;obtain⟨i,o,p,q,t,j,l,m,g,a⟩:=u10_ hb i o p q t j l m g a;obtain⟨b,d,u⟩:=u3_ hb b d u;(try clear hb))|(go_at_call 44;(with_reducible refine(spec_StoreOk.calls k _ _ va ja _ ?_ ?_ ic.1).mono ?_);exact cp_ ((Kd.R_reads' i.1).2.2);exact(Kd.R_reads' i.1).2.1;rintro e Xe ⟨rfl,hb⟩;obtain⟨i,o,p,q,t,j,l,m,g,a⟩:=u10_ hb i o p q t j l m g a;obtain⟨b,d,u⟩:=u3_ hb b d u;(try clear hb);obtain⟨he,ie,Jb⟩:=Kd.R_slice o.1;subst Jb;obtain⟨je,ke,Kb⟩:=Kd.R_slice p.1;subst Kb)|(go_at_call 45;(with_reducible refine(laws_sameStore.calls k _ _ Na _ _ Oa true _ ?_ ?_ ?_ ?_ nc.1).mono ?_);exact cp_ ((Kd.R_reads' o.1).2.2);exact(Kd.R_reads' o.1).2.1;exact cp_ ((Kd.R_reads' p.1).2.2);exact(Kd.R_reads' p.1).2.1;rintro e Ye ⟨rfl,hb⟩;obtain⟨o,p,q,t,j,l,m,g,a,b⟩:=u10_ hb o p q t j l m g a b;obtain⟨d,u⟩:=u2_ hb d u;(try clear hb);obtain⟨Ld,Md,Nd,Od,Pd,Qd,Rd,Sd⟩:=bc4_ b.1;obtain⟨Td,Ud,Vd,Wd,Xd,Yd,Zd,ae⟩:=bc4_ d.1)|(go_at_call 19;(with_reducible refine(impl_SameAlarm.calls k _ _ wa xa ya za _ _ Aa Ba Ca Da true _ ?_ ?_ ?_ ?_ vc.1).mono ?_);exact cp_ ((Kd.R_reads' q.1).2.2);exact(Kd.R_reads' q.1).2.1;exact cp_ ((Kd.R_reads' t.1).2.2);exact(Kd.R_reads' t.1).2.1;rintro e Ze ⟨rfl,hb⟩;obtain⟨q,t,j,l,m,g,a,b,d,u⟩:=u10_ hb q t j l m g a b d u;(try clear hb);obtain⟨le,me,Lb⟩:=Kd.R_slice j.1;subst Lb)|(go_at_call 31;(with_reducible refine(impl_AllAlarms.calls k _ _ aa Pa _ ?_ ?_ ob.1).mono ?_);exact cp_ ((Kd.R_reads' j.1).2.2);exact(Kd.R_reads' j.1).2.1;rintro e af ⟨be,rfl,s,hb⟩;obtain⟨Mb,Q⟩:=Kd.S_name s;replace j:=ru_ Q (rp_ j.1) hb;replace l:=ru_ Q (rp_ l.1) hb;replace m:=ru_ Q (rp_ m.1) hb;replace g:=ru_ Q (rp_ g.1) hb;have G:=M_ (Kd.S_lower (Kd.S_newB (Kd.S_newB (Kd.S_newB (Kd.S_gez Q s) (pb_ a.1)) (pb_ b.1)) (pb_ d.1)) (below_size (hs_ u.1)));obtain⟨a,b,d,u⟩:=u4_ hb a b d u;(try clear hb s);(try clear ob))|(go_at_call 46;(with_reducible refine(spec_AllAlarms.calls k _ _ aa Qa _ ?_ ?_ wc.1).mono ?_);exact cp_ ((Kd.R_reads' j.1).2.2);exact(Kd.R_reads' j.1).2.1;rintro e bf ⟨ce,rfl,s,hb⟩;obtain⟨Nb,M⟩:=Kd.S_name s;replace j:=ru_ M (rp_ j.1) hb;replace l:=ru_ M (rp_ l.1) hb;replace m:=ru_ M (rp_ m.1) hb;replace g:=ru_ M (rp_ g.1) hb;replace G:=su_ M (sp_ G.1) hb;have R:=M_ (Kd.S_lower (Kd.S_newB (Kd.S_newB (Kd.S_newB (Kd.S_gez M s) (pb_ a.1)) (pb_ b.1)) (pb_ d.1)) (below_size (hs_ u.1)));obtain⟨a,b,d,u⟩:=u4_ hb a b d u;(try clear hb s);obtain⟨ne,oe,Ob⟩:=Kd.S_slice G.1;subst Ob;obtain⟨pe,qe,Pb⟩:=Kd.S_slice R.1;subst Pb)|(go_at_call 20;(with_reducible refine(laws_sameList.calls k _ _ Pa _ _ Qa true _ ?_ ?_ ?_ ?_ yc.1).mono ?_);exact cp_ ((Kd.S_reads' G.1).2.2);exact(Kd.S_reads' G.1).2.1;exact cp_ ((Kd.S_reads' R.1).2.2);exact(Kd.S_reads' R.1).2.1;rintro e cf ⟨rfl,hb⟩;obtain⟨j,l,m,g,G,R,a,b,d,u⟩:=u10_ hb j l m g G R a b d u;(try clear hb))|(go_at_call 34;(with_reducible refine(impl_CountOf.calls k _ _ aa Ga _ ?_ ?_ zc.1).mono ?_);exact cp_ ((Kd.R_reads' j.1).2.2);exact(Kd.R_reads' j.1).2.1;rintro e df ⟨rfl,hb⟩;obtain⟨j,l,m,g,a,b,d,u⟩:=u8_ hb j l m g a b d u;(try clear hb))|(go_at_call 31;(with_reducible refine(impl_AllAlarms.calls k _ _ aa Ha _ ?_ ?_ pb.1).mono ?_);exact cp_ ((Kd.R_reads' j.1).2.2);exact(Kd.R_reads' j.1).2.1;rintro e ef ⟨de,rfl,s,hb⟩;obtain⟨Qb,S⟩:=Kd.S_name s;replace j:=ru_ S (rp_ j.1) hb;replace l:=ru_ S (rp_ l.1) hb;replace m:=ru_ S (rp_ m.1) hb;replace g:=ru_ S (rp_ g.1) hb;have eb:=M_ (Kd.S_lower (Kd.S_newB (Kd.S_newB (Kd.S_newB (Kd.S_gez S s) (pb_ a.1)) (pb_ b.1)) (pb_ d.1)) (below_size (hs_ u.1)));obtain⟨a,b,d,u⟩:=u4_ hb a b d u;(try clear hb s);(try clear pb);obtain⟨re,se,Rb⟩:=Kd.S_slice eb.1;subst Rb;obtain⟨te,ue,Sb⟩:=Kd.R_slice l.1;subst Sb;obtain⟨ve,we,Tb⟩:=Kd.R_slice m.1;subst Tb)|(go_at_call 47;(with_reducible refine(impl_HomeOf.calls k _ _ Ea _ _ Fa Ia _ ?_ ?_ ?_ ?_ Cc.1).mono ?_);exact cp_ ((Kd.R_reads' l.1).2.2);exact(Kd.R_reads' l.1).2.1;exact cp_ ((Kd.R_reads' m.1).2.2);exact(Kd.R_reads' m.1).2.1;rintro e ff ⟨rfl,hb⟩;obtain⟨l,m,g,a,b,d,u⟩:=u7_ hb l m g a b d u;(try clear hb))|(go_at_call 48;(with_reducible refine(spec_HomeOf.calls k _ _ Ea _ _ Fa Ja _ ?_ ?_ ?_ ?_ Dc.1).mono ?_);exact cp_ ((Kd.R_reads' l.1).2.2);exact(Kd.R_reads' l.1).2.1;exact cp_ ((Kd.R_reads' m.1).2.2);exact(Kd.R_reads' m.1).2.1;rintro e gf ⟨rfl,hb⟩;obtain⟨l,m,g,a,b,d,u⟩:=u7_ hb l m g a b d u;(try clear hb))|(go_at_call 49;(with_reducible refine(spec_StoreNew.calls k ga Ra _ Gc.1).mono ?_);rintro e hf ⟨ee,rfl,s,hb⟩;obtain⟨Ub,Ma⟩:=Kd.R_name s;replace g:=ru_ Ma (rp_ g.1) hb;have T:=M_ (Kd.R_lower (Kd.R_newB (Kd.R_newB (Kd.R_newB (Kd.R_gez Ma s) (pb_ a.1)) (pb_ b.1)) (pb_ d.1)) (below_size (hs_ u.1)));obtain⟨a,b,d,u⟩:=u4_ hb a b d u;(try clear hb s);obtain⟨xe,ye,Vb⟩:=Kd.R_slice g.1;subst Vb;obtain⟨ze,Ae,Wb⟩:=Kd.R_slice T.1;subst Wb)|(go_at_call 45;(with_reducible refine(laws_sameStore.calls k _ _ ha _ _ Ra true _ ?_ ?_ ?_ ?_ Ic.1).mono ?_);exact cp_ ((Kd.R_reads' g.1).2.2);exact(Kd.R_reads' g.1).2.1;exact cp_ ((Kd.R_reads' T.1).2.2);exact(Kd.R_reads' T.1).2.1;rintro e jf ⟨rfl,hb⟩;obtain⟨g,T,a,b,d,u⟩:=u6_ hb g T a b d u;(try clear hb))|(go_at_call 32;(with_reducible refine(impl_StoreOk.calls k _ _ ha true _ ?_ ?_ Kc.1).mono ?_);exact cp_ ((Kd.R_reads' g.1).2.2);exact(Kd.R_reads' g.1).2.1;rintro e kf ⟨rfl,hb⟩;obtain⟨g,a,b,d,u⟩:=u5_ hb g a b d u;(try clear hb))|(go_at_call 34;(with_reducible refine(impl_CountOf.calls k _ _ ha lb _ ?_ ?_ Lc.1).mono ?_);exact cp_ ((Kd.R_reads' g.1).2.2);exact(Kd.R_reads' g.1).2.1;rintro e lf ⟨rfl,hb⟩;obtain⟨g,a,b,d,u⟩:=u5_ hb g a b d u;(try clear hb)))
 go_ret
 exact an_ (hs_ u.1)
/-- THE ONE PURE STATEMENT of laws_FnStoresBent: yours. -/
noncomputable def laws_FnStoresBent.Pure:Prop:=∀(l0:List Int),l0.length≤maxLen→l0.length*1≤140737488351232→(∀x∈l0,(Lit.int .u8 x).wf=true)→∃k,laws_FnStoresBent.f k l0=some true
theorem laws_FnStoresBent.walk (P:laws_FnStoresBent.Pure) (a:Option Addr) (len0 cap0:Nat) (z0:List Int) (w:World) (j:(a=none∧len0=0∧cap0=0∧z0=[])∨∃x,a=some x∧len0≤cap0∧cap0≤maxLen∧z0.length=cap0∧(∀i,i<z0.length→w.cell? (x.add i)=some (.int .u8 (z0.getD i 0)))∧∀n∈z0,(Lit.int .u8 n).wf=true) (l:len0*1≤140737488351232) :
  Calls Tryz.prog 5 #[.slice a len0 cap0] w fun e w'=>e=.returned (.bool true)∧Below w.heap.size w w':=by
 obtain⟨g,rfl,b,hm0,c,f⟩:=ReadsInt.ofRowC j
 obtain⟨k,h⟩:=P g hm0 l c
 refine(laws_FnStoresBent.calls k _ _ g true w (Kd.C_of_reads (d:=(0:Int)) (h1:=fun _=>rfl) b) f h).mono ?_
 rintro e w' ⟨rfl,hd⟩
 exact⟨rfl,hd⟩
end Go.Proofs.YtanfohlpkppeiaaGreat.Print
end
section
namespace Go.Proofs.YtanfohlpkppeiaaGreat.Print
open Go.RowKit Go.Proofs.YtanfohlpkppeiaaGreatV.PrintWords Go.Proofs.YtanfohlpkppeiaaGreatV.PrintLast Go.Proofs.YtanfohlpkppeiaaGreatV.PrintMore
set_option linter.unusedVariables false
set_option linter.unusedSimpArgs false
theorem wrap_id {x:Int} (h1:-9223372036854775808≤x) (h2:x≤9223372036854775807):wrap64 x=x:=by unfold wrap64;omega
theorem wrap_up (n:Nat) (h:n<9223372036854775807):wrap64 ((n:Int)+1)=((n+1:Nat):Int):=by unfold wrap64;omega
theorem Ev.uniq {α:Type} {g:Nat→Option α} {a b:α} (h:Ev g a) (h':Ev g b):a=b:=by
  obtain⟨K,h⟩:=h
  obtain⟨K',h'⟩:=h'
  exact Option.some.inj ((h (max K K') (Nat.le_max_left _ _)).symm.trans (h' _ (Nat.le_max_right _ _)))
theorem lt_mid {α:Type} (pre suf:List α) (y:α):(pre.length:Int)<((pre++y::suf).length:Int):=by simp only[List.length_append,List.length_cons];omega
theorem not_lt_end {α:Type} (pre:List α):¬((pre.length:Int)<((pre++[]).length:Int)):=by simp
theorem nn (n:Nat):(0:Int)≤(n:Int):=by omega
theorem mid_assoc {α:Type} (pre suf:List α) (y:α):pre++y::suf=(pre++[y])++suf:=by simp
/-- A loop that goes on or stops with an answer. -/
def scan {ρ:Type} (step:Nat→Option ρ) (fin:ρ):Nat→Nat→ρ
  | 0,_=>fin
  | d+1,i=>match step i with
    | some r=>r
    | none=>scan step fin d (i+1)
/-- What one round does. -/
def goOn {ρ:Type} (o:Option ρ) (next:Option ρ):Option ρ:=match o with
  | some r=>some r
  | none=>next
theorem scan_ev2 {ρ:Type} {F:Nat→Int→Option ρ} {n:Nat} {step:Nat→Option ρ} {fin:ρ} (hend:∃K,∀k,K≤k→F (k+1) (n:Int)=some fin)
    (hstep:∀i,i<n→∃K,∀k,K≤k→F (k+1) (i:Int)=goOn (step i) (F k ((i+1:Nat):Int))):∀d i,d+i=n→Ev (fun k=>F k (i:Int)) (scan step fin d i)
  | 0,i,h=>by
    obtain rfl:i=n:=by omega
    obtain⟨K,hK⟩:=hend
    refine⟨K+1,fun k hk=>?_⟩
    obtain⟨m,rfl⟩:∃m,k=m+1:=⟨k-1,by omega⟩
    exact hK m (by omega)
  | d+1,i,h=>by
    obtain⟨K,hK⟩:=hstep i (by omega)
    unfold scan
    cases hs:step i with
    | some r=>
      refine⟨K+1,fun k hk=>?_⟩
      obtain⟨m,rfl⟩:∃m,k=m+1:=⟨k-1,by omega⟩
      have:=hK m (by omega)
      rw[hs] at this
      exact this
    | none=>
      obtain⟨K',hK'⟩:=scan_ev2 hend hstep d (i+1) (by omega)
      refine⟨max K K'+1,fun k hk=>?_⟩
      obtain⟨m,rfl⟩:∃m,k=m+1:=⟨k-1,by omega⟩
      have:=hK m (by omega)
      rw[hs] at this
      exact this.trans (hK' m (by omega))
theorem scan_ev {ρ:Type} {F:Nat→Int→Option ρ} {n:Nat} {step:Nat→Option ρ} {fin:ρ} (hend:∀k,F (k+1) (n:Int)=some fin)
    (hstep:∀i,i<n→∃K,∀k,K≤k→F (k+1) (i:Int)=goOn (step i) (F k ((i+1:Nat):Int))):∀d i,d+i=n→Ev (fun k=>F k (i:Int)) (scan step fin d i):=scan_ev2 ⟨0,fun k _=>hend k⟩ hstep
theorem scan_congr {ρ:Type} {s s':Nat→Option ρ} {f:ρ}:∀d i,(∀j,i≤j→j<i+d→s j=s' j)→scan s f d i=scan s' f d i
  | 0,_,_=>rfl
  | d+1,i,h=>by
    unfold scan
    rw[h i (Nat.le_refl _) (by omega)]
    cases s' i with
    | some r=>rfl
    | none=>exact scan_congr d (i+1) (fun j h1 h2=>h j (by omega) (by omega))
/-- Two lists of one length, element by element. -/
theorem scan_same {α β:Type} [DecidableEq β] (f:α→β) (z:α):∀(a b pa pb:List α),a.length=b.length→pa.length=pb.length →
    scan (fun i=>if f ((pa++a).getD i z)=f ((pb++b).getD i z) then none else some false) true a.length pa.length=decide (a.map f=b.map f)
  | [],[],pa,pb,_,_=>by simp[scan]
  | [],_::_,_,_,h,_=>by simp at h
  | _::_,[],_,_,h,_=>by simp at h
  | x::a,y::b,pa,pb,h,h2=>by
    have ih:=scan_same f z a b (pa++[x]) (pb++[y]) (by simpa using h) (by simp[h2])
    simp only[List.append_assoc,List.singleton_append,List.length_append,List.length_singleton] at ih
    simp only[List.length_cons,scan]
    rw[show (pa++x::a).getD pa.length z=x by simp,show (pb++y::b).getD pa.length z=y by rw[h2];simp]
    by_cases he:f x=f y
    · simp only[if_pos he];rw[ih];simp[he]
    · simp[he]
theorem scan_same0 {α β:Type} [DecidableEq β] (f:α→β) (z:α) (a b:List α) (h:a.length=b.length):scan (fun i=>if f (a.getD i z)=f (b.getD i z) then none else some false) true a.length 0=decide (a.map f=b.map f):=scan_same f z a b [] [] h rfl
/-- The place of the first that is so, or -1. -/
def place {α:Type} (p:α→Bool):List α→Nat→Int
  | [],_=>-1
  | x::l,i=>if p x=true then (i:Int) else place p l (i+1)
theorem scan_place {α:Type} (p:α→Bool) (z:α):∀(suf pre:List α),scan (fun i=>if p ((pre++suf).getD i z)=true then some (i:Int) else none) (-1) suf.length pre.length=place p suf pre.length
  | [],pre=>by simp[scan,place]
  | y::suf,pre=>by
    have ih:=scan_place p z suf (pre++[y])
    simp only[List.append_assoc,List.singleton_append,List.length_append,List.length_singleton] at ih
    simp only[List.length_cons,scan,place]
    rw[show (pre++y::suf).getD pre.length z=y by simp]
    by_cases hp:p y=true
    · simp[hp]
    · simp only[if_neg hp];exact ih
theorem scan_place0 {α:Type} (p:α→Bool) (z:α) (l:List α):scan (fun i=>if p (l.getD i z)=true then some (i:Int) else none) (-1) l.length 0=place p l 0:=scan_place p z l []
theorem getD_eq {α:Type} (l:List α) (i:Nat) (z:α) (h:i<l.length):l.getD i z=l[i]:=by simp[List.getD_eq_getElem?_getD,List.getElem?_eq_getElem h]
theorem getD_mem {α:Type} (l:List α) (i:Nat) (z:α) (h:i<l.length):l.getD i z∈l:=by rw[getD_eq l i z h];exact List.getElem_mem h
def WiLabel (x:S99):Prop:=x.f0.size≤4000000∧x.f1.size≤4000000
def WiAlarm (x:S29):Prop:=(x.f0.length≤4000000∧∀y∈x.f0,WiLabel y)∧True∧True∧x.f3.size≤4000000
theorem and_top (x:Int) (m:Nat) (hm:m<9223372036854775808):0≤Go.bits .and .i64 x (m:Int)∧Go.bits .and .i64 x (m:Int)≤m:=by
  have h1:(BitVec.ofInt 64 x &&& BitVec.ofInt 64 (m:Int)).toNat≤m:=by
    rw[BitVec.toNat_and]
    refine Nat.le_trans Nat.and_le_right ?_
    rw[BitVec.ofInt_natCast,BitVec.toNat_ofNat]
    exact Nat.mod_le _ _
  have h2:Go.bits .and .i64 x (m:Int)=((BitVec.ofInt 64 x &&& BitVec.ofInt 64 (m:Int)).toNat:Int):=by
    show IntKind.i64.wrap ((BitVec.ofInt 64 x &&& BitVec.ofInt 64 (m:Int)).toNat:Int)=_
    rw[IntKind.wrap_i64]
    omega
  rw[h2];omega
theorem dNew_l0 (l:List Int) (hl:l.length≤1048576):∀(n i:Nat) (h:Int),l.length≤i+n→∃s,Ev (fun k=>spec_l1New.l0 k l h (i:Int)) (l,0,s)
  | 0,i,h,hn=>⟨h,1,fun k hk=>by
    obtain⟨k,rfl⟩:∃m,k=m+1:=⟨k-1,by omega⟩
    simp only[spec_l1New.l0];rw[if_neg (by omega)]⟩
  | n+1,i,h,hn=>by
    by_cases c:(i:Int)<(l.length:Int)
    · by_cases c2:(i:Int)<4000
      · obtain⟨s,K,g⟩:=dNew_l0 l hl n (i+1) (Go.bits .and .i64 (wrap64 ((wrap64 ((wrap64 (h*137))+(wrap64 (rd l (i:Int)))))+11)) 1073741823) (by omega)
        refine⟨s,K+1,fun k hk=>?_⟩
        obtain⟨k,rfl⟩:∃m,k=m+1:=⟨k-1,by omega⟩
        have e:=g k (by omega)
        simp only at e
        simp only[spec_l1New.l0]
        rw[if_pos c,if_pos c2,if_pos (by omega),wrap_up i (by omega),e]
      · refine⟨h,1,fun k hk=>?_⟩
        obtain⟨k,rfl⟩:∃m,k=m+1:=⟨k-1,by omega⟩
        simp only[spec_l1New.l0];rw[if_pos c,if_neg c2]
    · refine⟨h,1,fun k hk=>?_⟩
      obtain⟨k,rfl⟩:∃m,k=m+1:=⟨k-1,by omega⟩
      simp only[spec_l1New.l0];rw[if_neg c]
theorem dNew (l:List Int) (hl:l.length≤1048576):∃s,Ev (fun k=>spec_l1New.f k l) (l,0,s):=by
  obtain⟨s,g⟩:=dNew_l0 l hl l.length 0 (wrap64 (140873+(l.length:Int))) (by omega)
  exact⟨s,g⟩
section
variable (l:List Int) (hl:l.length≤1048576)
include hl
theorem dByte (p s:Int) (hp:0≤p):∃v p' s',spec_l1Byte.f l p s=some (v,p',s')∧0≤p'∧0≤v∧v<256:=by
  unfold spec_l1Byte.f
  have a1:=fun x=>and_top x 255 (by decide)
  by_cases c:p<(l.length:Int)
  · rw[if_pos c,if_pos hp]
    refine⟨_,_,_,rfl,by rw[wrap_id (by omega) (by omega)];omega,(a1 _).1,by have:=(a1 (wrap64 ((Go.bits .and .i64 (Go.bits .xor .i64 ((wrap64 ((wrap64 (s*6364136223846793005))+1442695040888963407)) / 8589934592) ((wrap64 ((wrap64 (s*6364136223846793005))+1442695040888963407)) / 140737488355328)) 255)+(wrap64 (rd l p))))).2;exact Int.lt_of_le_of_lt this (by decide)⟩
  · rw[if_neg c]
    exact⟨_,_,_,rfl,hp,(a1 _).1,Int.lt_of_le_of_lt (a1 _).2 (by decide)⟩
theorem dBelow (p s a:Int) (hp:0≤p) (h0:0<a) (h1:a≤256):∃v p' s',spec_l1Below.f l p s a=some (v,p',s')∧0≤p'∧0≤v∧v<a:=by
  obtain⟨v,p',s',e,q,v0,_⟩:=dByte l hl p s hp
  refine⟨Int.tmod v a,p',s',?_,q,Int.tmod_nonneg _ v0,Int.tmod_lt_of_pos _ h0⟩
  simp only[spec_l1Below.f]
  rw[if_neg (by omega),if_pos h1,e,Option.bind_some,if_neg (by omega)]
theorem dOnce (p s a:Int) (hp:0≤p) (h0:0<a) (h1:a≤256):∃v p' s',spec_l1Once.f l p s a=some (v,p',s')∧0≤p':=by
  obtain⟨v,p',s',e,q,_,_⟩:=dBelow l hl p s a hp h0 h1
  exact⟨v==0,p',s',by simp only[spec_l1Once.f,e,Option.bind_some],q⟩
end
section
variable (l:List Int) (hl:l.length≤1048576)
include hl
theorem dStr (p s:Int) (m:List ByteArray) (hp:0≤p) (h0:0<m.length) (h1:m.length≤256):∃v p' s',spec_l1Str.f l p s m=some (v,p',s')∧0≤p'∧v∈m:=by
  obtain⟨v,p',s',e,q,v0,v1⟩:=dBelow l hl p s (m.length:Int) hp (by omega) (by omega)
  refine⟨rdOf ByteArray.empty m v,p',s',?_,q,?_⟩
  · simp only[spec_l1Str.f,e,Option.bind_some]
    rw[if_pos v0,if_pos v1]
  · show m.getD v.toNat _∈m
    exact getD_mem m v.toNat _ (by omega)
theorem dInt (p s:Int) (m:List Int) (hp:0≤p) (h0:0<m.length) (h1:m.length≤256):∃v p' s',spec_l1Int.f l p s m=some (v,p',s')∧0≤p'∧v∈m:=by
  obtain⟨v,p',s',e,q,v0,v1⟩:=dBelow l hl p s (m.length:Int) hp (by omega) (by omega)
  refine⟨rd m v,p',s',?_,q,?_⟩
  · simp only[spec_l1Int.f,e,Option.bind_some]
    rw[if_pos v0,if_pos v1]
  · show m.getD v.toNat _∈m
    exact getD_mem m v.toNat _ (by omega)
/-- A short list of labels. -/
def ShortL (n:Nat) (x:List S99):Prop:=x.length≤n∧∀y∈x,WiLabel y
theorem dLabels_l0 (m:List ByteArray) (hm:∀v∈m,v.size≤4000000) (hm2:m.length≤100):∀(n i:Nat) (x:List S99) (p s:Int),0≤p→m.length≤i+n→x.length+n≤100→(∀y∈x,WiLabel y) →
    ∃r p' s',Ev (fun k=>spec_l2Draw.l0 k x m (m.length:Int) (i:Int) l p s) (r,p',s')∧0≤p'∧ShortL (x.length+n) r∧x.length≤r.length
  | 0,i,x,p,s,hp,hi,hx,hw=>⟨x,p,s,⟨1,fun k hk=>by
    obtain⟨k,rfl⟩:∃j,k=j+1:=⟨k-1,by omega⟩
    simp only[spec_l2Draw.l0];rw[if_neg (by omega)]⟩,hp,⟨by omega,hw⟩,Nat.le_refl _⟩
  | n+1,i,x,p,s,hp,hi,hx,hw=>by
    by_cases c:(i:Int)<(m.length:Int)
    · obtain⟨v,p1,s1,e1,q1⟩:=dOnce l hl p s 4 hp (by decide) (by decide)
      cases v with
      | true=>
        obtain⟨u,p2,s2,e2,q2,u2⟩:=dStr l hl p1 s1 [(⟨#[49]⟩:ByteArray),(⟨#[50]⟩:ByteArray)] q1 (by decide) (by decide)
        obtain⟨r,p',s',⟨K,g⟩,q,w,w2⟩:=dLabels_l0 m hm hm2 n (i+1) (x++[(⟨rdOf ByteArray.empty m (i:Int),u⟩:S99)]) p2 s2 q2 (by omega) (by simp only[List.length_append,List.length_singleton];omega) (fun y hy=>by
          rcases List.mem_append.1 hy with h|h
          · exact hw y h
          · rw[List.mem_singleton.1 h]
            refine⟨hm _ ?_,?_⟩
            · show m.getD (i:Int).toNat _∈m
              exact getD_mem m _ _ (by omega)
            · exact(show ∀v∈[(⟨#[49]⟩:ByteArray),(⟨#[50]⟩:ByteArray)],v.size≤4000000 by decide) u u2)
        refine⟨r,p',s',⟨K+1,fun k hk=>?_⟩,q,⟨by have:=w.1;simp only[List.length_append,List.length_singleton] at this;omega,w.2⟩,by simp only[List.length_append,List.length_singleton] at w2;omega⟩
        obtain⟨k,rfl⟩:∃j,k=j+1:=⟨k-1,by omega⟩
        have e:=g k (by omega)
        simp only at e
        simp only[spec_l2Draw.l0]
        rw[if_pos c,if_pos (by omega),if_pos c,e1]
        simp only[Option.bind_some,if_true]
        rw[e2]
        simp only[Option.bind_some]
        rw[if_pos (by omega),wrap_up i (by omega),e]
      | false=>
        obtain⟨r,p',s',⟨K,g⟩,q,w,w2⟩:=dLabels_l0 m hm hm2 n (i+1) x p1 s1 q1 (by omega) (by omega) hw
        refine⟨r,p',s',⟨K+1,fun k hk=>?_⟩,q,⟨by have:=w.1;omega,w.2⟩,w2⟩
        obtain⟨k,rfl⟩:∃j,k=j+1:=⟨k-1,by omega⟩
        have e:=g k (by omega)
        simp only at e
        simp only[spec_l2Draw.l0]
        rw[if_pos c,if_pos (by omega),if_pos c,e1]
        simp only[Option.bind_some,Bool.false_eq_true,if_false]
        rw[wrap_up i (by omega),e]
    · refine⟨x,p,s,⟨1,fun k hk=>?_⟩,hp,⟨by omega,hw⟩,Nat.le_refl _⟩
      obtain⟨k,rfl⟩:∃j,k=j+1:=⟨k-1,by omega⟩
      simp only[spec_l2Draw.l0];rw[if_neg c]
theorem dLabels (p s:Int) (hp:0≤p):∃r p' s',Ev (fun k=>spec_l2Draw.f k l p s) (r,p',s')∧0≤p'∧ShortL 4 r∧1≤r.length:=by
  obtain⟨u,p1,s1,e1,q1,u1⟩:=dStr l hl p s [(⟨#[97]⟩:ByteArray),(⟨#[98]⟩:ByteArray),(⟨#[99]⟩:ByteArray)] hp (by decide) (by decide)
  have hu:=(show ∀v∈[(⟨#[97]⟩:ByteArray),(⟨#[98]⟩:ByteArray),(⟨#[99]⟩:ByteArray)],v.size≤4000000 by decide) u u1
  obtain⟨r,p',s',⟨K,g⟩,q,w,w2⟩:=dLabels_l0 l hl [(⟨#[104,111,115,116]⟩:ByteArray),(⟨#[115,101,118]⟩:ByteArray),(⟨#[122,111,110,101]⟩:ByteArray)] (by decide) (by decide) 3 0 [(⟨(⟨#[97,112,112]⟩:ByteArray),u⟩:S99)] p1 s1 q1 (by decide) (by simp only[List.length_singleton];omega) (fun y hy=>by
    rw[List.mem_singleton.1 hy];exact⟨(show (⟨#[97,112,112]⟩:ByteArray).size≤4000000 by decide),hu⟩)
  refine⟨r,p',s',⟨K,fun k hk=>?_⟩,q,w,w2⟩
  have e:=g k hk
  simp only at e
  simp only[spec_l2Draw.f,e1,Option.bind_some]
  exact e
theorem dPlain (p s:Int) (hp:0≤p):∃v p' s',spec_l1Plain.f l p s=some (v,p',s')∧0≤p'∧v.size≤4000000:=by
  obtain⟨u,p1,s1,e1,q1,u1⟩:=dStr l hl p s [(⟨#[97]⟩:ByteArray),(⟨#[98]⟩:ByteArray),(⟨#[120,32,121]⟩:ByteArray),(⟨#[]⟩:ByteArray),(⟨#[99,114,105,116]⟩:ByteArray),(⟨#[125,45]⟩:ByteArray)] hp (by decide) (by decide)
  refine⟨u,p1,s1,by simp only[spec_l1Plain.f,e1,Option.bind_some],q1,?_⟩
  exact(show ∀v∈[(⟨#[97]⟩:ByteArray),(⟨#[98]⟩:ByteArray),(⟨#[120,32,121]⟩:ByteArray),(⟨#[]⟩:ByteArray),(⟨#[99,114,105,116]⟩:ByteArray),(⟨#[125,45]⟩:ByteArray)],v.size≤4000000 by decide) u u1
/-- A drawn alarm. -/
def ShortA (a:S29):Prop:=a.f0.length≤100∧WiAlarm a
omit hl in
theorem shortA_mk {n:Nat} {r:List S99} (b c:Int) {t:ByteArray} (h:ShortL n r) (hn:n≤100) (ht:t.size≤4000000):ShortA ⟨r,b,c,t⟩:=
  ⟨Nat.le_trans h.1 hn,⟨⟨Nat.le_trans h.1 (Nat.le_trans hn (by decide)),h.2⟩,trivial,trivial,ht⟩⟩
theorem dAlarm (p s:Int) (hp:0≤p):∃(a:S29) (p' s':Int),Ev (fun k=>spec_l4Draw.f k l p s) (a.f0,a.f1,a.f2,a.f3,p',s')∧0≤p'∧ShortL 4 a.f0∧1≤a.f0.length∧a.f3.size≤4000000:=by
  obtain⟨r,p1,s1,⟨K,g⟩,q1,w,w2⟩:=dLabels l hl p s hp
  obtain⟨b,p2,s2,e2,q2,_,_⟩:=dBelow l hl p1 s1 8 q1 (by decide) (by decide)
  obtain⟨t,p3,s3,e3,q3,ht⟩:=dPlain l hl p2 s2 q2
  obtain⟨c,p4,s4,e4,q4,_⟩:=dInt l hl p3 s3 [0,2,5,20,60] q3 (by decide) (by decide)
  refine⟨⟨r,b,wrap64 (b+c),t⟩,p4,s4,⟨K,fun k hk=>?_⟩,q4,w,w2,ht⟩
  have e:=g k hk
  simp only at e
  simp only[spec_l4Draw.f,e,Option.bind_some,e2,e3,e4]
theorem dAnyPlain (p s:Int) (hp:0≤p):∃v p' s',spec_l1AnyPlain.f l p s=some (v,p',s')∧0≤p'∧v.size≤4000000:=by
  obtain⟨v,p1,s1,e1,q1⟩:=dOnce l hl p s 2 hp (by decide) (by decide)
  cases v with
  | true=>
    obtain⟨u,p2,s2,e2,q2,u2⟩:=dPlain l hl p1 s1 q1
    exact⟨u,p2,s2,by simp only[spec_l1AnyPlain.f,e1,Option.bind_some,if_true,e2],q2,u2⟩
  | false=>
    obtain⟨u,p2,s2,e2,q2,u2⟩:=dStr l hl p1 s1 [(⟨#[34]⟩:ByteArray),(⟨#[92]⟩:ByteArray),(⟨#[127]⟩:ByteArray),(⟨#[31]⟩:ByteArray),(⟨#[116,119,101,108,118,101,32,98,121,116,101,115]⟩:ByteArray),(⟨#[116,104,105,114,116,101,101,110,98,121,116,101,115]⟩:ByteArray),(⟨#[126]⟩:ByteArray),(⟨#[125]⟩:ByteArray),(⟨#[44,32,98,61]⟩:ByteArray),(⟨#[125,32,49,45,50]⟩:ByteArray)] q1 (by decide) (by decide)
    refine⟨u,p2,s2,by simp only[spec_l1AnyPlain.f,e1,Option.bind_some,Bool.false_eq_true,if_false,e2],q2,?_⟩
    exact(show ∀v∈[(⟨#[34]⟩:ByteArray),(⟨#[92]⟩:ByteArray),(⟨#[127]⟩:ByteArray),(⟨#[31]⟩:ByteArray),(⟨#[116,119,101,108,118,101,32,98,121,116,101,115]⟩:ByteArray),(⟨#[116,104,105,114,116,101,101,110,98,121,116,101,115]⟩:ByteArray),(⟨#[126]⟩:ByteArray),(⟨#[125]⟩:ByteArray),(⟨#[44,32,98,61]⟩:ByteArray),(⟨#[125,32,49,45,50]⟩:ByteArray)],v.size≤4000000 by decide) u u2
theorem dNames (p s:Int) (hp:0≤p):∃v p' s',spec_l1Names.f l p s=some (v,p',s')∧0≤p'∧v.size≤4000000:=by
  obtain⟨u,p1,s1,e1,q1,u1⟩:=dStr l hl p s [(⟨#[97,112,112]⟩:ByteArray),(⟨#[104,111,115,116]⟩:ByteArray),(⟨#[115,101,118]⟩:ByteArray),(⟨#[122,111,110,101]⟩:ByteArray)] hp (by decide) (by decide)
  refine⟨u,p1,s1,by simp only[spec_l1Names.f,e1,Option.bind_some],q1,?_⟩
  exact(show ∀v∈[(⟨#[97,112,112]⟩:ByteArray),(⟨#[104,111,115,116]⟩:ByteArray),(⟨#[115,101,118]⟩:ByteArray),(⟨#[122,111,110,101]⟩:ByteArray)],v.size≤4000000 by decide) u u1
theorem dAnyName (p s:Int) (hp:0≤p):∃v p' s',spec_l1AnyName.f l p s=some (v,p',s')∧0≤p'∧v.size≤4000000:=by
  obtain⟨v,p1,s1,e1,q1⟩:=dOnce l hl p s 2 hp (by decide) (by decide)
  cases v with
  | true=>
    obtain⟨u,p2,s2,e2,q2,u2⟩:=dNames l hl p1 s1 q1
    exact⟨u,p2,s2,by simp only[spec_l1AnyName.f,e1,Option.bind_some,if_true,e2],q2,u2⟩
  | false=>
    obtain⟨u,p2,s2,e2,q2,u2⟩:=dStr l hl p1 s1 [(⟨#[]⟩:ByteArray),(⟨#[65]⟩:ByteArray),(⟨#[110,105,110,101,99,104,97,114,115]⟩:ByteArray),(⟨#[101,105,103,104,116,97,98,99]⟩:ByteArray),(⟨#[97,32,98]⟩:ByteArray),(⟨#[97,49]⟩:ByteArray)] q1 (by decide) (by decide)
    refine⟨u,p2,s2,by simp only[spec_l1AnyName.f,e1,Option.bind_some,Bool.false_eq_true,if_false,e2],q2,?_⟩
    exact(show ∀v∈[(⟨#[]⟩:ByteArray),(⟨#[65]⟩:ByteArray),(⟨#[110,105,110,101,99,104,97,114,115]⟩:ByteArray),(⟨#[101,105,103,104,116,97,98,99]⟩:ByteArray),(⟨#[97,32,98]⟩:ByteArray),(⟨#[97,49]⟩:ByteArray)],v.size≤4000000 by decide) u u2
omit hl in
theorem shortL_add {n m:Nat} {a b:List S99} (ha:ShortL n a) (hb:ShortL m b):ShortL (n+m) (a++b):=
  ⟨by have:=ha.1;have:=hb.1;simp only[List.length_append];omega,fun y hy=>(List.mem_append.1 hy).elim (ha.2 y) (hb.2 y)⟩
omit hl in
theorem shortL_one (y:S99) (h:WiLabel y):ShortL 1 [y]:=⟨Nat.le_refl _,fun z hz=>by rw[List.mem_singleton.1 hz];exact h⟩
omit hl in
theorem shortL_up {n m:Nat} {a:List S99} (h:ShortL n a) (hm:n≤m):ShortL m a:=⟨Nat.le_trans h.1 hm,h.2⟩
theorem dAnyLabels (p s:Int) (hp:0≤p):∃r p' s',Ev (fun k=>spec_l2Any.f k l p s) (r,p',s')∧0≤p'∧ShortL 8 r:=by
  obtain⟨r,p1,s1,⟨K,g⟩,q1,w,w2⟩:=dLabels l hl p s hp
  obtain⟨b,p2,s2,e2,q2,_,_⟩:=dBelow l hl p1 s1 10 q1 (by decide) (by decide)
  have lr:=w.1
  have l0:(0:Int)<(r.length:Int):=by omega
  have m0:WiLabel (rd_T99 r 0):=w.2 _ (getD_mem r 0 _ (by omega))
  by_cases c0:b=0
  · obtain⟨t,p3,s3,e3,q3,ht⟩:=dAnyName l hl p2 s2 q2
    obtain⟨u,p4,s4,e4,q4,hu⟩:=dAnyPlain l hl p3 s3 q3
    refine⟨r++[(⟨t,u⟩:S99)],p4,s4,⟨K,fun k hk=>?_⟩,q4,shortL_up (shortL_add w (shortL_one _ ⟨ht,hu⟩)) (by decide)⟩
    have e:=g k hk
    simp only at e
    simp only[spec_l2Any.f,e,Option.bind_some,e2,if_pos c0,e3,e4]
    rw[if_pos (by omega)]
  by_cases c1:b=1
  · refine⟨[(⟨(⟨#[122,122]⟩:ByteArray),(⟨#[49]⟩:ByteArray)⟩:S99)]++r,p2,s2,⟨K,fun k hk=>?_⟩,q2,shortL_up (shortL_add (shortL_one _ (by constructor<;>decide)) w) (by decide)⟩
    have e:=g k hk
    simp only at e
    simp only[spec_l2Any.f,e,Option.bind_some,e2,if_neg c0,if_pos c1]
    rw[if_pos (by simp only[List.length_singleton];omega)]
  by_cases c2:b=2
  · refine⟨r++[(⟨(rd_T99 r 0).f0,(rd_T99 r 0).f1⟩:S99)],p2,s2,⟨K,fun k hk=>?_⟩,q2,shortL_up (shortL_add w (shortL_one _ m0)) (by decide)⟩
    have e:=g k hk
    simp only at e
    simp only[spec_l2Any.f,e,Option.bind_some,e2,if_neg c0,if_neg c1,if_pos c2]
    rw[if_pos l0,if_pos (by omega)]
  by_cases c3:b=3
  · refine⟨r++[(⟨(⟨#[122,117]⟩:ByteArray),(⟨#[]⟩:ByteArray)⟩:S99),(⟨(⟨#[122,118]⟩:ByteArray),(⟨#[]⟩:ByteArray)⟩:S99),(⟨(⟨#[122,119]⟩:ByteArray),(⟨#[]⟩:ByteArray)⟩:S99),(⟨(⟨#[122,120]⟩:ByteArray),(⟨#[]⟩:ByteArray)⟩:S99)],p2,s2,⟨K,fun k hk=>?_⟩,q2,shortL_add (m:=4) w ⟨Nat.le_refl 4,fun y hy=>?_⟩⟩
    · have e:=g k hk
      simp only at e
      simp only[spec_l2Any.f,e,Option.bind_some,e2,if_neg c0,if_neg c1,if_neg c2,if_pos c3]
      rw[if_pos (by simp only[List.length_cons,List.length_nil];omega)]
    · simp only[List.mem_cons,List.not_mem_nil,or_false] at hy
      rcases hy with rfl|rfl|rfl|rfl<;>(constructor<;>decide)
  by_cases c4:b=4
  · obtain⟨u,p4,s4,e4,q4,hu⟩:=dAnyPlain l hl p2 s2 q2
    refine⟨r.set (0:Int).toNat (⟨(rd_T99 r 0).f0,u⟩:S99),p4,s4,⟨K,fun k hk=>?_⟩,q4,⟨by rw[List.length_set];omega,fun y hy=>?_⟩⟩
    · have e:=g k hk
      simp only at e
      simp only[spec_l2Any.f,e,Option.bind_some,e2,if_neg c0,if_neg c1,if_neg c2,if_neg c3,if_pos c4,e4]
      rw[if_pos l0]
    · rcases List.mem_or_eq_of_mem_set hy with h|h
      · exact w.2 y h
      · rw[h];exact⟨m0.1,hu⟩
  by_cases c5:b=5
  · refine⟨[],p2,s2,⟨K,fun k hk=>?_⟩,q2,⟨Nat.zero_le _,fun y hy=>by simp at hy⟩⟩
    have e:=g k hk
    simp only at e
    simp only[spec_l2Any.f,e,Option.bind_some,e2,if_neg c0,if_neg c1,if_neg c2,if_neg c3,if_neg c4,if_pos c5]
  · refine⟨r,p2,s2,⟨K,fun k hk=>?_⟩,q2,shortL_up w (by decide)⟩
    have e:=g k hk
    simp only at e
    simp only[spec_l2Any.f,e,Option.bind_some,e2,if_neg c0,if_neg c1,if_neg c2,if_neg c3,if_neg c4,if_neg c5]
theorem dRaw (p s:Int) (hp:0≤p):∃v p' s',spec_l1Raw.f l p s=some (v,p',s')∧0≤p':=by
  obtain⟨v,p1,s1,e1,q1⟩:=dOnce l hl p s 2 hp (by decide) (by decide)
  cases v with
  | true=>
    obtain⟨u,p2,s2,e2,q2,_⟩:=dInt l hl p1 s1 [(-1),0,1,2,255,256,65535,2147483647,2147483648,4294967295,4294967296,(-2147483648),9223372036854775807,(-9223372036854775808)] q1 (by decide) (by decide)
    exact⟨u,p2,s2,by simp only[spec_l1Raw.f,e1,Option.bind_some,if_true,spec_l1Odd.f,e2],q2⟩
  | false=>
    obtain⟨u,p2,s2,e2,q2,_⟩:=dInt l hl p1 s1 [(-1),0,1,3,99999,100000] q1 (by decide) (by decide)
    exact⟨u,p2,s2,by simp only[spec_l1Raw.f,e1,Option.bind_some,Bool.false_eq_true,if_false,e2],q2⟩
theorem dAnyAlarm (p s:Int) (hp:0≤p):∃(a:S29) (p' s':Int),Ev (fun k=>spec_l4Any.f k l p s) (a.f0,a.f1,a.f2,a.f3,p',s')∧0≤p'∧ShortA a:=by
  obtain⟨a,p1,s1,⟨K,g⟩,q1,w,w2,ht⟩:=dAlarm l hl p s hp
  obtain⟨b,p2,s2,e2,q2,_,_⟩:=dBelow l hl p1 s1 12 q1 (by decide) (by decide)
  by_cases c0:b=0
  · obtain⟨r,p3,s3,⟨K3,g3⟩,q3,w3⟩:=dAnyLabels l hl p2 s2 q2
    refine⟨⟨r,a.f1,a.f2,a.f3⟩,p3,s3,⟨K+K3,fun k hk=>?_⟩,q3,shortA_mk _ _ w3 (by decide) ht⟩
    have e:=g k (by omega)
    have e3:=g3 k (by omega)
    simp only at e e3
    simp only[spec_l4Any.f,e,Option.bind_some,e2,if_pos c0,e3]
  by_cases c1:b=1
  · obtain⟨u,p3,s3,e3,q3,_⟩:=dInt l hl p2 s2 [(-1),99999,100000] q2 (by decide) (by decide)
    refine⟨⟨a.f0,u,a.f2,a.f3⟩,p3,s3,⟨K,fun k hk=>?_⟩,q3,shortA_mk _ _ w (by decide) ht⟩
    have e:=g k (by omega)
    simp only at e
    simp only[spec_l4Any.f,e,Option.bind_some,e2,if_neg c0,if_pos c1,e3]
  by_cases c2:b=2
  · obtain⟨u,p3,s3,e3,q3⟩:=dRaw l hl p2 s2 q2
    refine⟨⟨a.f0,a.f1,u,a.f3⟩,p3,s3,⟨K,fun k hk=>?_⟩,q3,shortA_mk _ _ w (by decide) ht⟩
    have e:=g k (by omega)
    simp only at e
    simp only[spec_l4Any.f,e,Option.bind_some,e2,if_neg c0,if_neg c1,if_pos c2,e3]
  by_cases c3:b=3
  · obtain⟨u,p3,s3,e3,q3,hu⟩:=dAnyPlain l hl p2 s2 q2
    refine⟨⟨a.f0,a.f1,a.f2,u⟩,p3,s3,⟨K,fun k hk=>?_⟩,q3,shortA_mk _ _ w (by decide) hu⟩
    have e:=g k (by omega)
    simp only at e
    simp only[spec_l4Any.f,e,Option.bind_some,e2,if_neg c0,if_neg c1,if_neg c2,if_pos c3,e3]
  · refine⟨a,p2,s2,⟨K,fun k hk=>?_⟩,q2,shortA_mk _ _ w (by decide) ht⟩
    have e:=g k (by omega)
    simp only at e
    simp only[spec_l4Any.f,e,Option.bind_some,e2,if_neg c0,if_neg c1,if_neg c2,if_neg c3]
end
def WiChain (x:S80):Prop:=True∧(x.f1.length≤4000000∧∀y∈x.f1,WiAlarm y)
def WiPart (x:S26):Prop:=True∧True∧(x.f2.length≤4000000∧∀y∈x.f2,WiChain y)
theorem place_ge {α:Type} (p:α→Bool):∀(l:List α) (i:Nat),(0≤place p l i)↔l.any p=true
  | [],i=>by simp[place]
  | x::l,i=>by
    unfold place
    by_cases h:p x=true
    · rw[if_pos h];simp[h]
    · rw[if_neg h,place_ge p l (i+1)];simp[h]
theorem place_lo {α:Type} (p:α→Bool):∀(l:List α) (i:Nat),-1≤place p l i
  | [],i=>by simp[place]
  | x::l,i=>by
    unfold place
    split
    · omega
    · exact place_lo p l (i+1)
theorem rdnLabel (l:List S99) (i:Nat):rd_T99 l (i:Int)=l.getD i z99:=by unfold rd_T99;simp
theorem rdnAlarm (l:List S29) (i:Nat):rd_T29 l (i:Int)=l.getD i z29:=by unfold rd_T29;simp
/-- A label as two lists of bytes; an alarm as what it holds. -/
def lab (x:S99):List UInt8×List UInt8:=(x.f0.toList,x.f1.toList)
def sameSet (a b:List S99):Bool:=decide (a.map lab=b.map lab)
theorem map_ne_of_length {α β:Type} {f:α→β} {a b:List α} (h:¬a.length=b.length):¬(a.map f=b.map f):=fun e=>h (by simpa using congrArg List.length e)
theorem labNe (x y:S99):((!(x.f0.toList==y.f0.toList)||(!(x.f1.toList==y.f1.toList)))=true)↔¬lab x=lab y:=by
  unfold lab
  simp only[Prod.mk.injEq,Bool.or_eq_true,Bool.not_eq_true',beq_eq_false_iff_ne]
  constructor
  · rintro (h|h) ⟨h1,h2⟩
    · exact h h1
    · exact h h2
  · intro h
    by_cases h1:x.f0.toList=y.f0.toList
    · exact .inr fun h2=>h ⟨h1,h2⟩
    · exact .inl h1
theorem implSameSet_ev (a b:List S99) (h:a.length<4611686018427387904):Ev (fun k=>impl_SameSet.f k a b) (sameSet a b):=by
  unfold impl_SameSet.f sameSet
  by_cases hl:a.length=b.length
  · simp only[if_pos (show (a.length:Int)=(b.length:Int) by omega)]
    rw[←scan_same0 lab z99 a b hl]
    refine scan_ev (F:=fun k i=>impl_SameSet.l0 k a b (a.length:Int) i) (n:=a.length) (fun k=>?_) (fun i hi=>⟨0,fun k _=>?_⟩) a.length 0 (by omega)
    · simp only[impl_SameSet.l0];rw[if_neg (by omega)]
    · simp only[impl_SameSet.l0]
      rw[if_pos (by omega),if_pos (by omega),if_pos (by omega),if_pos (by omega),rdnLabel,rdnLabel,wrap_up i (by omega)]
      by_cases hc:lab (a.getD i z99)=lab (b.getD i z99)
      · rw[if_neg (fun e=>(labNe _ _).1 e hc),if_pos hc];rfl
      · rw[if_pos ((labNe _ _).2 hc),if_neg hc];rfl
  · simp only[if_neg (show ¬(a.length:Int)=(b.length:Int) by omega),decide_eq_false (map_ne_of_length hl)]
    exact Ev.now _
theorem specSameSet_ev (a b:List S99) (h:a.length<4611686018427387904):Ev (fun k=>spec_SameSet.f k a b) (sameSet a b):=by
  unfold spec_SameSet.f sameSet
  by_cases hl:a.length=b.length
  · simp only[if_pos (show (a.length:Int)=(b.length:Int) by omega)]
    rw[←scan_same0 lab z99 a b hl]
    refine scan_ev (F:=fun k i=>spec_SameSet.l0 k a b i) (n:=a.length) (fun k=>?_) (fun i hi=>⟨0,fun k _=>?_⟩) a.length 0 (by omega)
    · simp only[spec_SameSet.l0];rw[if_neg (by omega)]
    · simp only[spec_SameSet.l0]
      rw[if_pos (by omega),if_pos (by omega),if_pos (by omega),rdnLabel,rdnLabel,wrap_up i (by omega)]
      by_cases hc:lab (a.getD i z99)=lab (b.getD i z99)
      · rw[if_neg (fun e=>(labNe _ _).1 e hc),if_pos hc];rfl
      · rw[if_pos ((labNe _ _).2 hc),if_neg hc];rfl
  · simp only[if_neg (show ¬(a.length:Int)=(b.length:Int) by omega),decide_eq_false (map_ne_of_length hl)]
    exact Ev.now _
def labelsAt (l:List S29) (s:List S99):Int:=place (fun a=>sameSet a.f0 s) l 0
theorem implLabelsAt_ev (l:List S29) (s:List S99) (h:l.length≤4000000∧∀y∈l,WiAlarm y):Ev (fun k=>impl_labelsAt.f k l s) (labelsAt l s):=by
  have h1:=h.1
  unfold impl_labelsAt.f labelsAt
  rw[←scan_place0 (fun a:S29=>sameSet a.f0 s) z29 l]
  refine scan_ev (F:=fun k i=>impl_labelsAt.l0 k s l (l.length:Int) i) (n:=l.length) (fun k=>?_) (fun i hi=>?_) l.length 0 (by omega)
  · simp only[impl_labelsAt.l0];rw[if_neg (by omega)]
  · have hw:=(h.2 _ (getD_mem l i z29 hi)).1.1
    obtain⟨K,g⟩:=implSameSet_ev (l.getD i z29).f0 s (by omega)
    refine⟨K,fun k hk=>?_⟩
    have e:=g k hk
    simp only at e
    simp only[impl_labelsAt.l0]
    rw[if_pos (by omega),if_pos (by omega),if_pos (by omega),rdnAlarm,e,Option.bind_some,wrap_up i (by omega)]
    cases sameSet (l.getD i z29).f0 s<;>simp[goOn]
theorem inEq (a b c:Int):impl_in.f a b c=some (decide (b≤a)&&decide (a≤c)):=by
  unfold impl_in.f
  by_cases h:a≥b
  · rw[if_pos h];simp[show b≤a from h]
  · rw[if_neg h];simp[show ¬b≤a from h]
theorem l1InEq (a b c:Int):spec_l1In.f a b c=some (decide (b≤a)&&decide (a≤c)):=by
  unfold spec_l1In.f
  by_cases h:a≥b
  · rw[if_pos h];simp[show b≤a from h]
  · rw[if_neg h];simp[show ¬b≤a from h]
/-- Each byte of a name. -/
def nameStep {ρ:Type} (no:ρ) (s:ByteArray) (i:Nat):Option ρ:=if (bt s (i:Int))<97 then some no else if (bt s (i:Int))>122 then some no else none
def nameOk (s:ByteArray):Bool:=(decide (1≤(s.size:Int))&&decide ((s.size:Int)≤8))&&scan (nameStep false s) true s.size 0
/-- Where nothing stops a loop but with 'false', its end may wait. -/
theorem scan_end {step:Nat→Option Bool} (h:∀i r,step i=some r→r=false) (e:Bool):∀d i,scan step e d i=(e&&scan step true d i)
  | 0,i=>by simp[scan]
  | d+1,i=>by
    unfold scan
    cases hs:step i with
    | some r=>rw[h i r hs];simp
    | none=>exact scan_end h e d (i+1)
theorem nameStep_false (s:ByteArray) (i:Nat) (r:Bool) (h:nameStep false s i=some r):r=false:=by
  unfold nameStep at h
  split at h
  · injection h with h;exact h.symm
  · split at h
    · injection h with h;exact h.symm
    · cases h
theorem implNameOk_ev (s:ByteArray) (h:s.size<4611686018427387904):Ev (fun k=>impl_NameOk.f k s) (nameOk s):=by
  unfold impl_NameOk.f nameOk
  simp only[inEq,Option.bind_some]
  cases hc:(decide (1≤(s.size:Int))&&decide ((s.size:Int)≤8)) with
  | false=>simp only[Bool.false_eq_true,if_false,Bool.false_and];exact Ev.now _
  | true=>
    simp only[if_true,Bool.true_and]
    refine scan_ev (F:=fun k i=>impl_NameOk.l0 k s i) (n:=s.size) (fun k=>?_) (fun i hi=>⟨0,fun k _=>?_⟩) s.size 0 (by omega)
    · simp only[impl_NameOk.l0];rw[if_neg (by omega)]
    · simp only[impl_NameOk.l0,nameStep]
      rw[if_pos (by omega),if_pos (by omega),wrap_up i (by omega)]
      split
      · rfl
      · split<;>rfl
theorem specNameOk_ev (s:ByteArray) (h:s.size<4611686018427387904):Ev (fun k=>spec_NameOk.f k s) (nameOk s):=by
  unfold spec_NameOk.f nameOk
  rw[←scan_end (nameStep_false s)]
  refine scan_ev (F:=fun k i=>spec_NameOk.l0 k s i) (n:=s.size) (fun k=>?_) (fun i hi=>⟨0,fun k _=>?_⟩) s.size 0 (by omega)
  · simp only[spec_NameOk.l0];rw[if_neg (by omega),l1InEq];rfl
  · simp only[spec_NameOk.l0,nameStep]
    rw[if_pos (by omega),if_pos (by omega),wrap_up i (by omega)]
    split
    · rfl
    · split<;>rfl
/-- Each byte of a plain text. -/
def plainStep {ρ:Type} (no:ρ) (s:ByteArray) (i:Nat):Option ρ:=if (bt s (i:Int))<32 then some no else if (bt s (i:Int))>126 then some no else if (bt s (i:Int))=34 then some no else if (bt s (i:Int))=92 then some no else none
def plainOk (s:ByteArray):Bool:=decide ((s.size:Int)≤12)&&scan (plainStep false s) true s.size 0
theorem plainStep_false (s:ByteArray) (i:Nat) (r:Bool) (h:plainStep false s i=some r):r=false:=by
  unfold plainStep at h
  repeat (split at h;(injection h with h;exact h.symm))
  cases h
theorem implPlainOk_ev (s:ByteArray) (h:s.size<4611686018427387904):Ev (fun k=>impl_PlainOk.f k s) (plainOk s):=by
  unfold impl_PlainOk.f plainOk
  by_cases hc:(s.size:Int)>12
  · simp only[if_pos hc,decide_eq_false (show ¬(s.size:Int)≤12 by omega),Bool.false_and];exact Ev.now _
  · simp only[if_neg hc,decide_eq_true (show (s.size:Int)≤12 by omega),Bool.true_and]
    refine scan_ev (F:=fun k i=>impl_PlainOk.l0 k s i) (n:=s.size) (fun k=>?_) (fun i hi=>⟨0,fun k _=>?_⟩) s.size 0 (by omega)
    · simp only[impl_PlainOk.l0];rw[if_neg (by omega)]
    · simp only[impl_PlainOk.l0,plainStep]
      rw[if_pos (by omega),if_pos (by omega),wrap_up i (by omega)]
      repeat (split;rfl)
      rfl
theorem specPlainOk_ev (s:ByteArray) (h:s.size<4611686018427387904):Ev (fun k=>spec_PlainOk.f k s) (plainOk s):=by
  unfold spec_PlainOk.f plainOk
  rw[←scan_end (plainStep_false s)]
  refine scan_ev (F:=fun k i=>spec_PlainOk.l0 k s i) (n:=s.size) (fun k=>?_) (fun i hi=>⟨0,fun k _=>?_⟩) s.size 0 (by omega)
  · simp only[spec_PlainOk.l0];rw[if_neg (by omega)]
  · simp only[spec_PlainOk.l0,plainStep]
    rw[if_pos (by omega),if_pos (by omega),wrap_up i (by omega)]
    repeat (split;rfl)
    rfl
def labelOk (x:S99):Bool:=nameOk x.f0&&plainOk x.f1
theorem implLabelOk_ev (x:S99) (h:WiLabel x):Ev (fun k=>impl_LabelOk.f k x.f0 x.f1) (labelOk x):=by
  have h1:=h.1
  have h2:=h.2
  obtain⟨K1,g1⟩:=implNameOk_ev x.f0 (by omega)
  obtain⟨K2,g2⟩:=implPlainOk_ev x.f1 (by omega)
  refine⟨K1+K2,fun k hk=>?_⟩
  have e1:=g1 k (by omega)
  have e2:=g2 k (by omega)
  simp only at e1 e2
  simp only[impl_LabelOk.f,e1,e2,Option.bind_some,labelOk]
  cases nameOk x.f0<;>simp
theorem specLabelOk_ev (x:S99) (h:WiLabel x):Ev (fun k=>spec_LabelOk.f k x.f0 x.f1) (labelOk x):=by
  have h1:=h.1
  have h2:=h.2
  obtain⟨K1,g1⟩:=specNameOk_ev x.f0 (by omega)
  obtain⟨K2,g2⟩:=specPlainOk_ev x.f1 (by omega)
  refine⟨K1+K2,fun k hk=>?_⟩
  have e1:=g1 k (by omega)
  have e2:=g2 k (by omega)
  simp only at e1 e2
  simp only[spec_LabelOk.f,e1,e2,Option.bind_some,labelOk]
  cases nameOk x.f0<;>simp
/-- Is label i right, behind the one before it? -/
def setBit (l:List S99) (i:Nat):Bool:=labelOk (l.getD i z99)&&(decide (i=0)||Op.bytesLess (l.getD (i-1) z99).f0.toList (l.getD i z99).f0.toList)
def setStep (l:List S99) (i:Nat):Option Bool:=if setBit l i=true then none else some false
def setOk (l:List S99):Bool:=decide ((l.length:Int)≤4)&&scan (setStep l) true l.length 0
theorem setStep_false (l:List S99) (i:Nat) (r:Bool) (h:setStep l i=some r):r=false:=by
  unfold setStep at h
  split at h
  · cases h
  · injection h with h;exact h.symm
theorem scan_stop {step:Nat→Option Bool} (hf:∀i r,step i=some r→r=false):∀d i j,i≤j→j<i+d→step j=some false→scan step true d i=false
  | 0,i,j,h1,h2,_=>by omega
  | d+1,i,j,h1,h2,h3=>by
    unfold scan
    cases hs:step i with
    | some r=>exact hf i r hs
    | none=>
      by_cases e:i=j
      · subst e;rw[hs] at h3;cases h3
      · exact scan_stop hf d (i+1) j (by omega) (by omega) h3
theorem sub1 (i:Nat) (h:0<i) (hi:i<4611686018427387904):wrap64 ((i:Int)-1)=((i-1:Nat):Int):=by rw[wrap_id (by omega) (by omega)];omega
theorem implSetOk_ev (l:List S99) (h:l.length≤4000000∧∀y∈l,WiLabel y):Ev (fun k=>impl_SetOk.f k l) (setOk l):=by
  have h1:=h.1
  have hx:setOk l=scan (fun i=>if 4≤i then some false else setStep l i) true l.length 0:=by
    unfold setOk
    by_cases h4:l.length≤4
    · rw[decide_eq_true (show (l.length:Int)≤4 by omega),Bool.true_and]
      exact scan_congr _ _ (fun j _ hj=>by rw[if_neg (by omega)])
    · rw[decide_eq_false (show ¬(l.length:Int)≤4 by omega),Bool.false_and]
      exact(scan_stop (step:=fun i=>if 4≤i then some false else setStep l i) (fun i r hr=>by
        by_cases hi:4≤i
        · simp only[if_pos hi] at hr;injection hr with hr;exact hr.symm
        · simp only[if_neg hi] at hr;exact setStep_false l i r hr) l.length 0 4 (by omega) (by omega) (by simp)).symm
  rw[hx]
  unfold impl_SetOk.f
  refine scan_ev (F:=fun k i=>impl_SetOk.l0 k l l (l.length:Int) i) (n:=l.length) (fun k=>?_) (fun i hi=>?_) l.length 0 (by omega)
  · simp only[impl_SetOk.l0];rw[if_neg (by omega)]
  · obtain⟨K,g⟩:=implLabelOk_ev (l.getD i z99) (h.2 _ (getD_mem l i _ hi))
    refine⟨K,fun k hk=>?_⟩
    have e:=g k hk
    simp only at e
    simp only[impl_SetOk.l0]
    rw[if_pos (by omega),if_pos (by omega),if_pos (by omega)]
    by_cases h4:4≤i
    · rw[if_pos (by omega),if_pos h4];rfl
    · rw[if_neg (by omega),if_neg h4,rdnLabel,e,Option.bind_some,wrap_up i (by omega)]
      unfold setStep setBit
      cases hl:labelOk (l.getD i z99) with
      | false=>simp[goOn]
      | true=>
        by_cases h0:i=0
        · subst h0;simp[goOn]
        · rw[if_pos rfl,if_pos (by omega),sub1 i (by omega) (by omega),if_pos (by omega),if_pos (by omega),rdnLabel,decide_eq_false h0]
          cases Op.bytesLess (l.getD (i-1) z99).f0.toList (l.getD i z99).f0.toList<;>simp[goOn]
theorem specSetOk_ev (l:List S99) (h:l.length≤4000000∧∀y∈l,WiLabel y):Ev (fun k=>spec_SetOk.f k l) (setOk l):=by
  have h1:=h.1
  unfold spec_SetOk.f setOk
  rw[←scan_end (setStep_false l)]
  refine scan_ev (F:=fun k i=>spec_SetOk.l0 k l i) (n:=l.length) (fun k=>?_) (fun i hi=>?_) l.length 0 (by omega)
  · simp only[spec_SetOk.l0];rw[if_neg (by omega)]
  · obtain⟨K,g⟩:=specLabelOk_ev (l.getD i z99) (h.2 _ (getD_mem l i _ hi))
    refine⟨K,fun k hk=>?_⟩
    have e:=g k hk
    simp only at e
    simp only[spec_SetOk.l0,spec_Less.f]
    rw[if_pos (by omega),if_pos (by omega),rdnLabel,e,Option.bind_some,wrap_up i (by omega)]
    unfold setStep setBit
    cases hl:labelOk (l.getD i z99) with
    | false=>simp[goOn]
    | true=>
      by_cases h0:i=0
      · subst h0;simp[goOn]
      · rw[if_pos rfl,if_pos (by omega),sub1 i (by omega) (by omega),if_pos (by omega),if_pos (by omega),rdnLabel,decide_eq_false h0]
        cases Op.bytesLess (l.getD (i-1) z99).f0.toList (l.getD i z99).f0.toList<;>simp[goOn]
def alarmOk (x:S29):Bool:=setOk x.f0&&(decide ((x.f0.length:Int)>0)&&((decide (0≤x.f1)&&decide (x.f1≤99999))&&((decide (x.f1≤x.f2)&&decide (x.f2≤99999))&&plainOk x.f3)))
theorem implAlarmOk_ev (x:S29) (h:WiAlarm x):Ev (fun k=>impl_AlarmOk.f k x.f0 x.f1 x.f2 x.f3) (alarmOk x):=by
  have h3:=h.2.2.2
  obtain⟨K1,g1⟩:=implSetOk_ev x.f0 h.1
  obtain⟨K2,g2⟩:=implPlainOk_ev x.f3 (by omega)
  refine⟨K1+K2,fun k hk=>?_⟩
  have e1:=g1 k (by omega)
  have e2:=g2 k (by omega)
  simp only at e1 e2
  simp only[impl_AlarmOk.f,e1,e2,Option.bind_some,alarmOk,inEq]
  by_cases hl:(x.f0.length:Int)>0
  · rw[if_pos hl,decide_eq_true hl]
    cases setOk x.f0<;>cases (decide (0≤x.f1)&&decide (x.f1≤99999))<;>cases (decide (x.f1≤x.f2)&&decide (x.f2≤99999))<;>simp
  · rw[if_neg hl,decide_eq_false hl]
    cases setOk x.f0<;>simp
theorem specAlarmOk_ev (x:S29) (h:WiAlarm x):Ev (fun k=>spec_AlarmOk.f k x.f0 x.f1 x.f2 x.f3) (alarmOk x):=by
  have h3:=h.2.2.2
  obtain⟨K1,g1⟩:=specSetOk_ev x.f0 h.1
  obtain⟨K2,g2⟩:=specPlainOk_ev x.f3 (by omega)
  refine⟨K1+K2,fun k hk=>?_⟩
  have e1:=g1 k (by omega)
  have e2:=g2 k (by omega)
  simp only at e1 e2
  simp only[spec_AlarmOk.f,e1,e2,Option.bind_some,alarmOk,l1InEq]
  by_cases hl:(x.f0.length:Int)>0
  · rw[if_pos hl,decide_eq_true hl]
    cases setOk x.f0<;>cases (decide (0≤x.f1)&&decide (x.f1≤99999))<;>cases (decide (x.f1≤x.f2)&&decide (x.f2≤99999))<;>simp
  · rw[if_neg hl,decide_eq_false hl]
    cases setOk x.f0<;>simp
theorem rdmidLabeli (pre suf:List S99) (y:S99):rd_T99 (pre++y::suf) (pre.length:Int)=y:=by unfold rd_T99;simp
def labL (x:S99):List UInt8:=x.f0.data.toList++[61,34]++x.f1.data.toList++[34]
def setTail:Bool→List S99→List UInt8
  | _,[]=>[]
  | first,x::r=>(if first then [] else [44,32])++labL x++setTail false r
def setText (l:List S99):ByteArray:=if setOk l=true then ⟨([123]++setTail true l++[125]).toArray⟩ else ⟨#[]⟩
theorem ba_ext {a b:ByteArray} (h:a.data.toList=b.data.toList):a=b:=by
  cases a;cases b
  simp only at h
  rw[Array.toList_inj.1 h]
theorem ba_app (a b:ByteArray):(a++b).data.toList=a.data.toList++b.data.toList:=by simp[ByteArray.data_append]
theorem ba_len (a:ByteArray):a.size=a.data.toList.length:=rfl
theorem ba_szapp (a b:ByteArray):(a++b).size=a.size+b.size:=by rw[ba_len,ba_app,List.length_append,←ba_len,←ba_len]
theorem setOk_len (l:List S99) (h:setOk l=true):l.length≤4:=by
  unfold setOk at h
  rw[Bool.and_eq_true] at h
  have:=of_decide_eq_true h.1
  omega
theorem sz2:(⟨#[44,32]⟩:ByteArray).size=2:=rfl
theorem sz2':(⟨#[61,34]⟩:ByteArray).size=2:=rfl
theorem sz1:(⟨#[34]⟩:ByteArray).size=1:=rfl
theorem sz1a:(⟨#[123]⟩:ByteArray).size=1:=rfl
theorem specText_go:∀(suf pre:List S99) (acc:ByteArray),pre.length+suf.length≤4→(∀y∈suf,WiLabel y)→acc.size≤1+pre.length*10000000 →
    Ev (fun k=>spec_SetText.l0 k (pre++suf) acc (pre.length:Int)) ⟨(acc.data.toList++setTail (decide (pre.length=0)) suf++[125]).toArray⟩
  | [],pre,acc,h1,h2,h3=>by
    refine⟨1,fun k hk=>?_⟩
    obtain⟨m,rfl⟩:∃m,k=m+1:=⟨k-1,by omega⟩
    simp only[spec_SetText.l0]
    rw[if_neg (not_lt_end pre),if_pos (by simp only[List.length_nil] at h1;omega)]
    refine congrArg some (ba_ext ?_)
    rw[ba_app]
    simp[setTail]
  | y::suf,pre,acc,h1,h2,h3=>by
    simp only[List.length_cons] at h1
    have hy:=h2 y List.mem_cons_self
    have hy0:=hy.1
    have hy1:=hy.2
    have ih:=fun a ha=>specText_go suf (pre++[y]) a (by simp only[List.length_append,List.length_singleton];omega) (fun z hz=>h2 z (List.mem_cons_of_mem _ hz)) ha
    simp only[List.append_assoc,List.singleton_append,List.length_append,List.length_singleton] at ih
    by_cases hp:pre.length=0
    · obtain⟨K,hK⟩:=ih ((((acc++y.f0)++(⟨#[61,34]⟩:ByteArray))++y.f1)++(⟨#[34]⟩:ByteArray)) (by simp only[ba_szapp,sz2',sz1];omega)
      refine⟨K+1,fun k hk=>?_⟩
      obtain⟨m,rfl⟩:∃m,k=m+1:=⟨k-1,by omega⟩
      have e:=hK m (by omega)
      simp only at e
      simp only[spec_SetText.l0,rdmidLabeli]
      rw[if_pos (lt_mid pre suf y),if_neg (by omega),if_pos (by omega),if_pos (by omega),if_pos (by simp only[ba_szapp];omega),if_pos (by simp only[ba_szapp,sz2'];omega),if_pos (by simp only[ba_szapp,sz2'];omega),wrap_up pre.length (by omega),e]
      refine congrArg some (ba_ext ?_)
      simp only[ba_app,setTail,labL,hp,decide_true,if_true,List.nil_append,List.append_assoc]
      simp[setTail]
    · obtain⟨K,hK⟩:=ih (((((acc++(⟨#[44,32]⟩:ByteArray))++y.f0)++(⟨#[61,34]⟩:ByteArray))++y.f1)++(⟨#[34]⟩:ByteArray)) (by simp only[ba_szapp,sz2',sz2,sz1];omega)
      refine⟨K+1,fun k hk=>?_⟩
      obtain⟨m,rfl⟩:∃m,k=m+1:=⟨k-1,by omega⟩
      have e:=hK m (by omega)
      simp only at e
      simp only[spec_SetText.l0,rdmidLabeli]
      rw[if_pos (lt_mid pre suf y),if_pos (by omega),if_pos (by omega),if_pos (by omega),if_pos (by simp only[ba_szapp,sz2];omega),if_pos (by simp only[ba_szapp,sz2];omega),if_pos (by simp only[ba_szapp,sz2,sz2'];omega),if_pos (by simp only[ba_szapp,sz2,sz2'];omega),wrap_up pre.length (by omega),e]
      refine congrArg some (ba_ext ?_)
      simp only[ba_app,setTail,labL,decide_eq_false hp,if_false,List.append_assoc]
      simp[setTail]
theorem specSetText_ev (l:List S99) (h:l.length≤4000000∧∀y∈l,WiLabel y):Ev (fun k=>spec_SetText.f k l) (setText l):=by
  obtain⟨K,hK⟩:=specSetOk_ev l h
  by_cases ho:setOk l=true
  · have hl:=setOk_len l ho
    obtain⟨K',hK'⟩:=specText_go l [] (⟨#[123]⟩:ByteArray) (by simp;omega) h.2 (by simp[sz1a])
    refine⟨K+K',fun k hk=>?_⟩
    have e:=hK k (by omega)
    have e':=hK' k (by omega)
    simp only at e
    simp only[List.nil_append,List.length_nil] at e'
    simp only[spec_SetText.f,e,Option.bind_some,ho,if_true,setText]
    exact e'
  · refine⟨K,fun k hk=>?_⟩
    have e:=hK k hk
    simp only at e
    simp[spec_SetText.f,e,ho,setText]
/-- The parts, each a text. -/
def partB (x:S99):ByteArray:=((x.f0++(⟨#[61,34]⟩:ByteArray))++x.f1)++(⟨#[34]⟩:ByteArray)
theorem partB_l (x:S99):(partB x).data.toList=labL x:=by simp[partB,labL,ba_app]
theorem tail_join:∀l:List S99,Lib.joinTail [44,32] ((l.map partB).map (·.data.toList))=setTail false l
  | []=>rfl
  | x::r=>by
    have ih:=tail_join r
    unfold Lib.joinTail at ih ⊢
    simp only[List.map_cons,List.flatten_cons,setTail,ih,partB_l]
    simp
theorem all_join (l:List S99):Lib.join ((l.map partB).map (·.data.toList)) [44,32]=setTail true l:=by
  cases l with
  | nil=>rfl
  | cons x r=>
    have:=tail_join r
    simp only[List.map_cons,Lib.join_cons,setTail,this,partB_l]
    simp
theorem setTail_len:∀(b:Bool) (l:List S99),(∀y∈l,WiLabel y)→(setTail b l).length≤l.length*10000000
  | _,[],_=>by simp[setTail]
  | b,x::r,h=>by
    have ih:=setTail_len false r (fun y hy=>h y (List.mem_cons_of_mem _ hy))
    have h0:=h x List.mem_cons_self
    have h1:=h0.1
    have h2:=h0.2
    have e1:x.f0.data.toList.length=x.f0.size:=rfl
    have e2:x.f1.data.toList.length=x.f1.size:=rfl
    cases b
    · simp only[setTail,labL,List.length_append,List.length_cons,List.length_nil,e1,e2,Bool.false_eq_true,if_false];omega
    · simp only[setTail,labL,List.length_append,List.length_cons,List.length_nil,e1,e2,if_true];omega
theorem implText_go (l:List S99) (hl:l.length≤4) (hw:∀y∈l,WiLabel y):∀(suf pre:List S99),pre++suf=l →
    Ev (fun k=>impl_SetText.l0 k (pre.map partB) l (l.length:Int) (pre.length:Int)) ⟨([123]++setTail true l++[125]).toArray⟩
  | [],pre,h=>by
    refine⟨1,fun k hk=>?_⟩
    obtain⟨m,rfl⟩:∃m,k=m+1:=⟨k-1,by omega⟩
    rw[List.append_nil] at h
    subst h
    have hj:=all_join pre
    have ht:=setTail_len true pre hw
    have hs:strings_Join.f (pre.map partB) (⟨#[44,32]⟩:ByteArray)=some ⟨(setTail true pre).toArray⟩:=by
      unfold strings_Join.f
      rw[show (⟨#[44,32]⟩:ByteArray).data.toList=[44,32] from rfl,hj,List.length_map,if_pos ⟨by omega,by omega⟩]
    have hz:(⟨(setTail true pre).toArray⟩:ByteArray).size=(setTail true pre).length:=by simp[ByteArray.size]
    simp only[impl_SetText.l0]
    rw[if_neg (by omega),hs,Option.bind_some,if_pos (by rw[hz];omega),if_pos (by rw[ba_szapp,hz,sz1a];omega)]
    refine congrArg some (ba_ext ?_)
    simp[ba_app]
  | y::suf,pre,h=>by
    obtain⟨K,hK⟩:=implText_go l hl hw suf (pre++[y]) (by rw[←h];simp)
    have hy:=hw y (by rw[←h];simp)
    have hy0:=hy.1
    have hy1:=hy.2
    have hlen:pre.length<l.length:=by rw[←h];simp
    refine⟨K+1,fun k hk=>?_⟩
    obtain⟨m,rfl⟩:∃m,k=m+1:=⟨k-1,by omega⟩
    have e:=hK m (by omega)
    simp only[List.map_append,List.map_cons,List.map_nil,List.length_append,List.length_singleton] at e
    have hr:rd_T99 l (pre.length:Int)=y:=by rw[←h];exact rdmidLabeli pre suf y
    simp only[impl_SetText.l0,hr]
    rw[if_pos (by omega),if_pos (by omega),if_pos (by omega),if_pos (by omega),if_pos (by simp only[ba_szapp,sz2'];omega),if_pos (by simp only[ba_szapp,sz2'];omega),if_pos (by rw[List.length_map];omega),wrap_up pre.length (by omega)]
    exact e
theorem implSetText_ev (l:List S99) (h:l.length≤4000000∧∀y∈l,WiLabel y):Ev (fun k=>impl_SetText.f k l) (setText l):=by
  obtain⟨K,hK⟩:=implSetOk_ev l h
  by_cases ho:setOk l=true
  · have hl:=setOk_len l ho
    obtain⟨K',hK'⟩:=implText_go l hl h.2 l [] rfl
    refine⟨K+K',fun k hk=>?_⟩
    have e:=hK k (by omega)
    have e':=hK' k (by omega)
    simp only at e
    simp only[List.map_nil,List.length_nil] at e'
    simp only[impl_SetText.f,e,Option.bind_some,ho,if_true,setText]
    exact e'
  · refine⟨K,fun k hk=>?_⟩
    have e:=hK k hk
    simp only at e
    simp[impl_SetText.f,e,ho,setText]
theorem setText_sz (l:List S99) (h:l.length≤4000000∧∀y∈l,WiLabel y):(setText l).size<4611686018427387904:=by
  unfold setText
  split
  · have:=setTail_len true l h.2
    have h1:=h.1
    rw[ba_len]
    simp only[List.length_append,List.length_singleton]
    omega
  · simp[ByteArray.size]
/-- A sum's step. -/
def sumStep (n b:Int):Int:=((Go.bits .xor .u32 n b)*16777619)%4294967296
def sumGo (s:ByteArray):Nat→Nat→Int→Int
  | 0,_,n=>n
  | d+1,i,n=>sumGo s d (i+1) (sumStep n (bt s (i:Int)))
theorem xor_nat (k:IntKind) (j:Nat) (hj:j≤k.bits) (hk:∀n:Int,0≤n→n<2 ^ j→k.wrap n=n) (a b:Nat) (ha:a<2 ^ j) (hb:b<2 ^ j) :
    Go.bits .xor k a b=((a ^^^ b:Nat):Int):=by
  have hp:2 ^ j≤2 ^ k.bits:=Nat.pow_le_pow_right (by decide) hj
  have ha':a%2 ^ k.bits=a:=Nat.mod_eq_of_lt (Nat.lt_of_lt_of_le ha hp)
  have hb':b%2 ^ k.bits=b:=Nat.mod_eq_of_lt (Nat.lt_of_lt_of_le hb hp)
  have cast:∀n:Nat,n<2 ^ j→((n:Nat):Int)<2 ^ j:=fun n h=>by exact_mod_cast h
  simp only[Go.bits,BitVec.ofInt_natCast,BitVec.toNat_xor,BitVec.toNat_ofNat,ha',hb']
  exact hk _ (Int.natCast_nonneg _) (cast _ (Nat.xor_lt_two_pow ha hb))
theorem xor_both (n b:Int) (h0:0≤n) (h1:n<4294967296) (h2:0≤b) (h3:b≤255):∃X:Nat,X<4294967296∧Go.bits .xor .u32 n b=(X:Int)∧Go.bits .xor .i64 n b=(X:Int):=by
  obtain⟨a,rfl⟩:=Int.eq_ofNat_of_zero_le h0
  obtain⟨c,rfl⟩:=Int.eq_ofNat_of_zero_le h2
  have ha:a<2 ^ 32:=by omega
  have hc:c<2 ^ 32:=by omega
  refine⟨a ^^^ c,Nat.xor_lt_two_pow ha hc,?_,?_⟩
  · exact xor_nat .u32 32 (by decide) (fun n h h'=>by rw[IntKind.wrap_u32];omega) a c ha hc
  · exact xor_nat .i64 32 (by decide) (fun n h h'=>by rw[IntKind.wrap_i64];omega) a c ha hc
theorem sumStep_range (n b:Int):0≤sumStep n b∧sumStep n b<4294967296:=by unfold sumStep;omega
theorem step_spec (n b:Int) (h0:0≤n) (h1:n<4294967296) (h2:0≤b) (h3:b≤255) :
    Go.bits .and .i64 (wrap64 ((Go.bits .xor .i64 n (wrap64 b))*16777619)) 4294967295=sumStep n b:=by
  obtain⟨X,hX,e1,e2⟩:=xor_both n b h0 h1 h2 h3
  unfold sumStep
  rw[wrap_id (x:=b) (by omega) (by omega),e1,e2,wrap_id (by omega) (by omega)]
  exact bits_mask .i64 62 (by decide) (fun n h h'=>by rw[IntKind.wrap_i64];omega) 32 (by decide) _ (by omega) (by omega)
theorem step_impl (n b:Int) (h2:0≤b) (h3:b≤255):((Go.bits .xor .u32 n (b%4294967296))*16777619)%4294967296=sumStep n b:=by
  rw[Int.emod_eq_of_lt h2 (by omega)];rfl
theorem implSum_go (s:ByteArray) (h:s.size<4611686018427387904):∀d i n,d+i=s.size→0≤n→n<4294967296→Ev (fun k=>impl_Sum.l0 k s n (i:Int)) (sumGo s d i n)
  | 0,i,n,hd,h0,h1=>by
    refine⟨1,fun k hk=>?_⟩
    obtain⟨m,rfl⟩:∃m,k=m+1:=⟨k-1,by omega⟩
    simp only[impl_Sum.l0,sumGo]
    rw[if_neg (by omega),wrap_id (by omega) (by omega)]
  | d+1,i,n,hd,h0,h1=>by
    have hr:=sumStep_range n (bt s (i:Int))
    obtain⟨K,hK⟩:=implSum_go s h d (i+1) (sumStep n (bt s (i:Int))) (by omega) hr.1 hr.2
    refine⟨K+1,fun k hk=>?_⟩
    obtain⟨m,rfl⟩:∃m,k=m+1:=⟨k-1,by omega⟩
    have e:=hK m (by omega)
    have hb:=bt_range s (i:Int)
    simp only[impl_Sum.l0,sumGo]
    rw[if_pos (by omega),if_pos (by omega),step_impl n _ hb.1 hb.2,wrap_up i (by omega)]
    exact e
theorem specSum_go (s:ByteArray) (h:s.size<4611686018427387904):∀d i n,d+i=s.size→0≤n→n<4294967296→Ev (fun k=>spec_Sum.l0 k s n (i:Int)) (sumGo s d i n)
  | 0,i,n,hd,h0,h1=>by
    refine⟨1,fun k hk=>?_⟩
    obtain⟨m,rfl⟩:∃m,k=m+1:=⟨k-1,by omega⟩
    simp only[spec_Sum.l0,sumGo]
    rw[if_neg (by omega)]
  | d+1,i,n,hd,h0,h1=>by
    have hr:=sumStep_range n (bt s (i:Int))
    obtain⟨K,hK⟩:=specSum_go s h d (i+1) (sumStep n (bt s (i:Int))) (by omega) hr.1 hr.2
    refine⟨K+1,fun k hk=>?_⟩
    obtain⟨m,rfl⟩:∃m,k=m+1:=⟨k-1,by omega⟩
    have e:=hK m (by omega)
    have hb:=bt_range s (i:Int)
    simp only[spec_Sum.l0,sumGo]
    rw[if_pos (by omega),if_pos (by omega),step_spec n _ h0 h1 hb.1 hb.2,wrap_up i (by omega)]
    exact e
def sumOf (s:ByteArray):Int:=sumGo s s.size 0 2166136261
def fingerOf (l:List S99):Int:=Int.tmod (Go.bits .xor .i64 (sumOf (setText l)) (sumOf (setText l) / 65536)) 32
theorem implFinger_ev (l:List S99) (h:l.length≤4000000∧∀y∈l,WiLabel y):Ev (fun k=>impl_Finger.f k l) (fingerOf l):=by
  obtain⟨K,g⟩:=implSetText_ev l h
  obtain⟨K',g'⟩:=implSum_go (setText l) (setText_sz l h) (setText l).size 0 2166136261 (by omega) (by omega) (by omega)
  refine⟨K+K',fun k hk=>?_⟩
  have e:=g k (by omega)
  have e':=g' k (by omega)
  simp only at e e'
  simp only[impl_Finger.f,impl_Sum.f,e,Option.bind_some,show ((0:Nat):Int)=0 from rfl] at e' ⊢
  rw[e',Option.bind_some];rfl
theorem specFinger_ev (l:List S99) (h:l.length≤4000000∧∀y∈l,WiLabel y):Ev (fun k=>spec_Finger.f k l) (fingerOf l):=by
  obtain⟨K,g⟩:=specSetText_ev l h
  obtain⟨K',g'⟩:=specSum_go (setText l) (setText_sz l h) (setText l).size 0 2166136261 (by omega) (by omega) (by omega)
  refine⟨K+K',fun k hk=>?_⟩
  have e:=g k (by omega)
  have e':=g' k (by omega)
  simp only at e e'
  simp only[spec_Finger.f,spec_Sum.f,e,Option.bind_some,show ((0:Nat):Int)=0 from rfl] at e' ⊢
  rw[e',Option.bind_some];rfl
def partOf (a n:Int):Int:=if n<1 then 0 else if a<0 then 0 else Int.tmod a n
theorem implPartOf_is (a n:Int):impl_PartOf.f a n=some (partOf a n):=by
  unfold impl_PartOf.f partOf
  by_cases h:n<1
  · simp[h]
  · by_cases h2:a<0
    · simp[h,h2]
    · simp only[if_neg h,if_neg h2];rw[if_neg (by omega)]
theorem specPartOf_is (a n:Int):spec_PartOf.f a n=some (partOf a n):=by
  unfold spec_PartOf.f partOf
  by_cases h:n<1
  · simp[h]
  · by_cases h2:a<0
    · simp[h,h2]
    · simp only[if_neg h,if_neg h2];rw[if_neg (by omega)]
theorem rdnChain' (l:List S80) (i:Nat):rd_T80 l (i:Int)=l.getD i z80:=by unfold rd_T80;simp
theorem rdnPart' (l:List S26) (i:Nat):rd_T26 l (i:Int)=l.getD i z26:=by unfold rd_T26;simp
/-- Each of the places from i on. -/
def bstep (p:Nat→Bool) (i:Nat):Option Bool:=if p i=true then none else some false
def bscan (p:Nat→Bool) (d i:Nat):Bool:=scan (bstep p) true d i
theorem bstep_false (p:Nat→Bool) (i:Nat) (r:Bool) (h:bstep p i=some r):r=false:=by
  unfold bstep at h
  split at h
  · cases h
  · injection h with h;exact h.symm
theorem bscan_succ (p:Nat→Bool) (d i:Nat):bscan p (d+1) i=(p i&&bscan p d (i+1)):=by
  unfold bscan
  rw[scan]
  cases hp:p i<;>simp[bstep,hp]
def earlyA (l:List S29) (i:Nat):Bool:=(l.take i).any (fun a=>sameSet a.f0 (l.getD i z29).f0)
def cBit (f:Int) (l:List S29) (i:Nat):Bool:=alarmOk (l.getD i z29)&&decide (fingerOf (l.getD i z29).f0=f)
def chainOk (f:Int) (l:List S29):Bool:=(decide ((l.length:Int)>0)&&bscan (fun i=>!earlyA l i) l.length 0)&&bscan (cBit f l) l.length 0
theorem implLabelsApart_ev (l:List S29) (h:l.length≤4000000∧∀y∈l,WiAlarm y):Ev (fun k=>impl_labelsApart.f k l) (bscan (fun i=>!earlyA l i) l.length 0):=by
  have h1:=h.1
  unfold impl_labelsApart.f bscan
  refine scan_ev (F:=fun k i=>impl_labelsApart.l0 k l l (l.length:Int) i) (n:=l.length) (fun k=>?_) (fun i hi=>?_) l.length 0 (by omega)
  · simp only[impl_labelsApart.l0];rw[if_neg (by omega)]
  · obtain⟨K,g⟩:=implLabelsAt_ev (l.take i) (l.getD i z29).f0 ⟨by rw[List.length_take];omega,fun y hy=>h.2 y (List.mem_of_mem_take hy)⟩
    refine⟨K,fun k hk=>?_⟩
    have e:=g k hk
    simp only at e
    simp only[impl_labelsApart.l0]
    rw[if_pos (by omega),if_pos (by omega),if_pos (by omega),if_pos (by omega),rdnAlarm,Int.toNat_natCast,e,Option.bind_some,wrap_up i (by omega)]
    have hp:labelsAt (l.take i) (l.getD i z29).f0≥0↔earlyA l i=true:=by
      unfold earlyA labelsAt
      exact place_ge _ _ 0
    rcases Bool.eq_false_or_eq_true (earlyA l i) with he|he
    · rw[if_pos (hp.2 he),show bstep (fun i=>!earlyA l i) i=some false from by simp[bstep,he]];rfl
    · rw[if_neg (fun q=>by rw[hp.1 q] at he;cases he),show bstep (fun i=>!earlyA l i) i=none from by simp[bstep,he]];rfl
theorem implChainOk_ev (f:Int) (l:List S29) (h:l.length≤4000000∧∀y∈l,WiAlarm y):Ev (fun k=>impl_ChainOk.f k f l) (chainOk f l):=by
  have h1:=h.1
  unfold impl_ChainOk.f chainOk
  obtain⟨K0,g0⟩:=implLabelsApart_ev l h
  rw[show bscan (cBit f l) l.length 0=scan (bstep (cBit f l)) true l.length 0 from rfl,←scan_end (bstep_false (cBit f l))]
  refine scan_ev2 (F:=fun k i=>impl_ChainOk.l0 k l (l.length:Int) i f l) (n:=l.length) ⟨K0,fun k hk=>?_⟩ (fun i hi=>?_) l.length 0 (by omega)
  · have e:=g0 k hk
    simp only at e
    simp only[impl_ChainOk.l0,e,Option.bind_some]
    rw[if_neg (by omega)]
    by_cases hc:(l.length:Int)>0
    · rw[if_pos hc,decide_eq_true hc];simp
    · rw[if_neg hc,decide_eq_false hc];simp
  · have hy:=h.2 _ (getD_mem l i z29 hi)
    obtain⟨K1,g1⟩:=implAlarmOk_ev (l.getD i z29) hy
    obtain⟨K2,g2⟩:=implFinger_ev (l.getD i z29).f0 hy.1
    refine⟨K1+K2,fun k hk=>?_⟩
    have e1:=g1 k (by omega)
    have e2:=g2 k (by omega)
    simp only at e1 e2
    simp only[impl_ChainOk.l0]
    rw[if_pos (by omega),if_pos (by omega),if_pos (by omega),rdnAlarm,e1,Option.bind_some,e2,Option.bind_some,wrap_up i (by omega)]
    unfold bstep cBit
    cases alarmOk (l.getD i z29) with
    | false=>simp[goOn]
    | true=>
      by_cases hc:fingerOf (l.getD i z29).f0=f
      · rw[if_pos rfl,if_pos hc,decide_eq_true hc];simp[goOn]
      · rw[if_pos rfl,if_neg hc,decide_eq_false hc];simp[goOn]
theorem specChain_l1 (f:Int) (l:List S29) (h:l.length≤4000000∧∀y∈l,WiAlarm y) (i:Nat) (hi:i<l.length) (r:Bool) (hn:earlyA l i=false→Ev (fun k=>spec_ChainOk.l0 k ((i+1:Nat):Int) f l) r) (hy:earlyA l i=true→r=false) :
    ∀d j,d+j=i→(l.take j).any (fun a=>sameSet a.f0 (l.getD i z29).f0)=false→Ev (fun k=>spec_ChainOk.l1 k (i:Int) (j:Int) f l) r
  | 0,j,e,hp=>by
    have h1:=h.1
    obtain rfl:j=i:=by omega
    refine Ev.step (fun k=>?_) (hn hp)
    simp only[spec_ChainOk.l1]
    rw[if_neg (by omega),wrap_up j (by omega)]
  | d+1,j,e,hp=>by
    have h1:=h.1
    have hw:=(h.2 _ (getD_mem l j z29 (by omega))).1.1
    have g:=specSameSet_ev (l.getD j z29).f0 (l.getD i z29).f0 (by omega)
    have ht:(l.take (j+1)).any (fun a=>sameSet a.f0 (l.getD i z29).f0)=sameSet (l.getD j z29).f0 (l.getD i z29).f0:=by
      rw[List.take_succ_eq_append_getElem (by omega),List.any_append,hp,getD_eq l j z29 (by omega)];simp
    refine Ev.step (f:=fun k=>(spec_SameSet.f k (l.getD j z29).f0 (l.getD i z29).f0).bind fun t=>if t=true then some false else spec_ChainOk.l1 k (i:Int) ((j+1:Nat):Int) f l) (fun k=>?_) (Ev.bind g ?_)
    · simp only[spec_ChainOk.l1]
      rw[if_pos (by omega),if_pos (by omega),if_pos (by omega),if_pos (by omega),if_pos (by omega),rdnAlarm,rdnAlarm,wrap_up j (by omega)]
    · cases hc:sameSet (l.getD j z29).f0 (l.getD i z29).f0 with
      | true=>
        simp only[if_true]
        rw[hy (by
          unfold earlyA
          rw[List.any_eq_true]
          exact⟨l.getD j z29,by rw[getD_eq l j z29 (by omega)];exact List.mem_take_iff_getElem.2 ⟨j,by omega,rfl⟩,hc⟩)]
        exact Ev.now _
      | false=>
        simp only[Bool.false_eq_true,if_false]
        exact specChain_l1 f l h i hi r hn hy d (j+1) (by omega) (by rw[ht,hc])
theorem specChain_l0 (f:Int) (l:List S29) (h:l.length≤4000000∧∀y∈l,WiAlarm y):∀d i,d+i=l.length →
    Ev (fun k=>spec_ChainOk.l0 k (i:Int) f l) (decide ((l.length:Int)>0)&&(bscan (fun i=>!earlyA l i) d i&&bscan (cBit f l) d i))
  | 0,i,e=>by
    refine Ev.step (f:=fun _=>some (decide ((l.length:Int)>0))) (fun k=>?_) (by simpa [bscan,scan] using Ev.now (decide ((l.length:Int)>0)))
    simp only[spec_ChainOk.l0]
    rw[if_neg (by omega)]
  | d+1,i,e=>by
    have h1:=h.1
    have hi:i<l.length:=by omega
    have ih:=specChain_l0 f l h d (i+1) (by omega)
    have hyw:=h.2 _ (getD_mem l i z29 hi)
    have g:=specAlarmOk_ev (l.getD i z29) hyw
    have g2:=specFinger_ev (l.getD i z29).f0 hyw.1
    have hj:∀b:Bool,Ev (fun k=>spec_ChainOk.j1 k (i:Int) b f l) (if b=true then false else (decide ((l.length:Int)>0)&&(bscan (fun i=>!earlyA l i) (d+1) i&&bscan (cBit f l) d (i+1)))):=by
      intro b
      cases b with
      | true=>
        refine Ev.step (f:=fun _=>some false) (fun k=>?_) (Ev.now _)
        simp[spec_ChainOk.j1]
      | false=>
        refine Ev.step (f:=fun k=>spec_ChainOk.l1 k (i:Int) ((0:Nat):Int) f l) (fun k=>?_) ?_
        · simp[spec_ChainOk.j1]
        · simp only[Bool.false_eq_true,if_false]
          refine specChain_l1 f l h i hi _ (fun he=>?_) (fun he=>?_) i 0 (by omega) (by simp)
          · rw[bscan_succ,he];simpa using ih
          · rw[bscan_succ,he];simp
    refine Ev.step (f:=fun k=>(spec_AlarmOk.f k (l.getD i z29).f0 (l.getD i z29).f1 (l.getD i z29).f2 (l.getD i z29).f3).bind fun t=>if t=true then ((spec_Finger.f k (l.getD i z29).f0).bind fun u=>spec_ChainOk.j1 k (i:Int) (u !=f) f l) else spec_ChainOk.j1 k (i:Int) true f l) (fun k=>?_) (Ev.bind g ?_)
    · simp only[spec_ChainOk.l0]
      rw[if_pos (by omega),if_pos (by omega),rdnAlarm]
    · rw[bscan_succ (cBit f l),show cBit f l i=(alarmOk (l.getD i z29)&&decide (fingerOf (l.getD i z29).f0=f)) from rfl]
      cases alarmOk (l.getD i z29) with
      | false=>
        simp only[Bool.false_eq_true,if_false]
        have:=hj true
        simpa using this
      | true=>
        simp only[if_true]
        refine Ev.bind g2 ?_
        by_cases hc:fingerOf (l.getD i z29).f0=f
        · have:=hj false
          rw[decide_eq_true hc,hc]
          simpa using this
        · have:=hj true
          rw[decide_eq_false hc,show (fingerOf (l.getD i z29).f0 !=f)=true by simpa using hc]
          simpa using this
theorem specChainOk_ev (f:Int) (l:List S29) (h:l.length≤4000000∧∀y∈l,WiAlarm y):Ev (fun k=>spec_ChainOk.f k f l) (chainOk f l):=by
  have:=specChain_l0 f l h l.length 0 (by omega)
  unfold spec_ChainOk.f chainOk
  rw[Bool.and_assoc]
  exact this
/-- A part. -/
def pBit (l:List S80) (i n:Int) (k:Nat):Bool:=chainOk (l.getD k z80).f0 (l.getD k z80).f1&&(decide (partOf (l.getD k z80).f0 n=i)&&(decide (k=0)||decide ((l.getD (k-1) z80).f0<(l.getD k z80).f0)))
def partIs (p:S26) (i n:Int):Bool:=((decide (-1≤p.f0)&&decide (p.f0≤4))&&decide (p.f1≥0))&&bscan (pBit p.f2 i n) p.f2.length 0
theorem implPartOk_ev (p:S26) (i n:Int) (h:WiPart p):Ev (fun k=>impl_PartOk.f k p.f0 p.f1 p.f2 i n) (partIs p i n):=by
  have h1:=h.2.2.1
  have h2:=h.2.2.2
  unfold impl_PartOk.f partIs
  rw[show bscan (pBit p.f2 i n) p.f2.length 0=scan (bstep (pBit p.f2 i n)) true p.f2.length 0 from rfl,←scan_end (bstep_false (pBit p.f2 i n))]
  refine scan_ev2 (F:=fun k j=>impl_PartOk.l0 k i n p.f2 (p.f2.length:Int) j p.f0 p.f1 p.f2) (n:=p.f2.length) ⟨0,fun k hk=>?_⟩ (fun j hj=>?_) p.f2.length 0 (by omega)
  · simp only[impl_PartOk.l0,inEq,Option.bind_some]
    rw[if_neg (by omega)]
    cases (decide (-1≤p.f0)&&decide (p.f0≤4))<;>simp
  · have hy:=h2 _ (getD_mem p.f2 j z80 hj)
    obtain⟨K1,g1⟩:=implChainOk_ev (p.f2.getD j z80).f0 (p.f2.getD j z80).f1 hy.2
    refine⟨K1,fun k hk=>?_⟩
    have e1:=g1 k (by omega)
    simp only at e1
    simp only[impl_PartOk.l0]
    rw[if_pos (by omega),if_pos (by omega),if_pos (by omega),rdnChain',e1,Option.bind_some,implPartOf_is,Option.bind_some,wrap_up j (by omega)]
    unfold bstep pBit
    cases chainOk (p.f2.getD j z80).f0 (p.f2.getD j z80).f1 with
    | false=>simp[goOn]
    | true=>
      by_cases hc:partOf (p.f2.getD j z80).f0 n=i
      · rw[if_pos rfl,if_pos hc,decide_eq_true hc]
        by_cases h0:j=0
        · subst h0;simp[goOn]
        · rw[if_pos (by omega),sub1 j (by omega) (by omega),if_pos (by omega),if_pos (by omega),rdnChain',decide_eq_false h0]
          by_cases hd:(p.f2.getD (j-1) z80).f0≥(p.f2.getD j z80).f0
          · rw[if_pos hd,decide_eq_false (show ¬(p.f2.getD (j-1) z80).f0<(p.f2.getD j z80).f0 by omega)];simp[goOn]
          · rw[if_neg hd,decide_eq_true (show (p.f2.getD (j-1) z80).f0<(p.f2.getD j z80).f0 by omega)];simp[goOn]
      · rw[if_pos rfl,if_neg hc,decide_eq_false hc];simp[goOn]
theorem specPartOk_ev (p:S26) (i n:Int) (h:WiPart p):Ev (fun k=>spec_PartOk.f k p.f0 p.f1 p.f2 i n) (partIs p i n):=by
  have h1:=h.2.2.1
  have h2:=h.2.2.2
  unfold spec_PartOk.f partIs
  rw[show bscan (pBit p.f2 i n) p.f2.length 0=scan (bstep (pBit p.f2 i n)) true p.f2.length 0 from rfl,←scan_end (bstep_false (pBit p.f2 i n))]
  refine scan_ev2 (F:=fun k j=>spec_PartOk.l0 k i n j p.f0 p.f1 p.f2) (n:=p.f2.length) ⟨0,fun k hk=>?_⟩ (fun j hj=>?_) p.f2.length 0 (by omega)
  · simp only[spec_PartOk.l0,l1InEq,Option.bind_some]
    rw[if_neg (by omega)]
    cases (decide (-1≤p.f0)&&decide (p.f0≤4))<;>simp
  · have hy:=h2 _ (getD_mem p.f2 j z80 hj)
    obtain⟨K1,g1⟩:=specChainOk_ev (p.f2.getD j z80).f0 (p.f2.getD j z80).f1 hy.2
    refine⟨K1,fun k hk=>?_⟩
    have e1:=g1 k (by omega)
    simp only at e1
    simp only[spec_PartOk.l0]
    rw[if_pos (by omega),if_pos (by omega),rdnChain',e1,Option.bind_some,wrap_up j (by omega)]
    simp only[specPartOf_is,Option.bind_some]
    unfold bstep pBit
    cases chainOk (p.f2.getD j z80).f0 (p.f2.getD j z80).f1 with
    | false=>simp[goOn]
    | true=>
      by_cases h0:j=0
      · subst h0
        generalize partOf (p.f2.getD 0 z80).f0 n=q
        by_cases hc:q=i<;>simp[goOn,hc]
      · rw[if_pos rfl,if_pos (by omega),sub1 j (by omega) (by omega),if_pos (by omega),if_pos (by omega),rdnChain',decide_eq_false h0]
        by_cases hd:(p.f2.getD (j-1) z80).f0≥(p.f2.getD j z80).f0
        · rw[if_pos hd,decide_eq_false (show ¬(p.f2.getD (j-1) z80).f0<(p.f2.getD j z80).f0 by omega)];simp[goOn]
        · rw[if_neg hd,decide_eq_true (show (p.f2.getD (j-1) z80).f0<(p.f2.getD j z80).f0 by omega)]
          generalize partOf (p.f2.getD j z80).f0 n=q
          by_cases hc:q=i<;>simp[goOn,hc]
/-- A store. -/
def sBit (l:List S26) (i:Nat):Bool:=partIs (l.getD i z26) (i:Int) (l.length:Int)
def storeIs (l:List S26):Bool:=(decide (1≤(l.length:Int))&&decide ((l.length:Int)≤3))&&bscan (sBit l) l.length 0
theorem implStoreOk_ev (l:List S26) (h:l.length≤4000000∧∀y∈l,WiPart y):Ev (fun k=>impl_StoreOk.f k l) (storeIs l):=by
  have h1:=h.1
  unfold impl_StoreOk.f storeIs
  simp only[inEq,Option.bind_some]
  cases (decide (1≤(l.length:Int))&&decide ((l.length:Int)≤3)) with
  | false=>simp only[Bool.false_eq_true,if_false,Bool.false_and];exact Ev.now _
  | true=>
    simp only[if_true,Bool.true_and]
    unfold bscan
    refine scan_ev (F:=fun k i=>impl_StoreOk.l0 k l l (l.length:Int) i) (n:=l.length) (fun k=>?_) (fun i hi=>?_) l.length 0 (by omega)
    · simp only[impl_StoreOk.l0];rw[if_neg (by omega)]
    · obtain⟨K,g⟩:=implPartOk_ev (l.getD i z26) (i:Int) (l.length:Int) (h.2 _ (getD_mem l i z26 hi))
      refine⟨K,fun k hk=>?_⟩
      have e:=g k hk
      simp only at e
      simp only[impl_StoreOk.l0]
      rw[if_pos (by omega),if_pos (by omega),if_pos (by omega),rdnPart',e,Option.bind_some,wrap_up i (by omega)]
      unfold bstep sBit
      cases partIs (l.getD i z26) (i:Int) (l.length:Int)<;>simp[goOn]
theorem specStoreOk_ev (l:List S26) (h:l.length≤4000000∧∀y∈l,WiPart y):Ev (fun k=>spec_StoreOk.f k l) (storeIs l):=by
  have h1:=h.1
  unfold spec_StoreOk.f storeIs
  rw[show bscan (sBit l) l.length 0=scan (bstep (sBit l)) true l.length 0 from rfl,←scan_end (bstep_false (sBit l))]
  refine scan_ev (F:=fun k i=>spec_StoreOk.l0 k l i) (n:=l.length) (fun k=>?_) (fun i hi=>?_) l.length 0 (by omega)
  · simp only[spec_StoreOk.l0,l1InEq,Option.bind_some];rw[if_neg (by omega)]
  · obtain⟨K,g⟩:=specPartOk_ev (l.getD i z26) (i:Int) (l.length:Int) (h.2 _ (getD_mem l i z26 hi))
    refine⟨K,fun k hk=>?_⟩
    have e:=g k hk
    simp only at e
    simp only[spec_StoreOk.l0]
    rw[if_pos (by omega),if_pos (by omega),rdnPart',e,Option.bind_some,wrap_up i (by omega)]
    unfold bstep sBit
    cases partIs (l.getD i z26) (i:Int) (l.length:Int)<;>simp[goOn]
def alm (x:S29):List (List UInt8×List UInt8)×Int×Int×List UInt8:=(x.f0.map lab,x.f1,x.f2,x.f3.toList)
def sameAlarm (a b:S29):Bool:=decide (alm a=alm b)
def sameAlarms (a b:List S29):Bool:=decide (a.map alm=b.map alm)
theorem sameAlarm_eq (x y:S29):sameAlarm x y=(sameSet x.f0 y.f0&&(decide (x.f1=y.f1)&&(decide (x.f2=y.f2)&&(x.f3.toList==y.f3.toList)))):=by
  unfold sameAlarm sameSet alm
  simp only[Prod.mk.injEq]
  rw[Bool.eq_iff_iff]
  simp
theorem implSameAlarm_ev (x y:S29) (h:x.f0.length<4611686018427387904):Ev (fun k=>impl_SameAlarm.f k x.f0 x.f1 x.f2 x.f3 y.f0 y.f1 y.f2 y.f3) (sameAlarm x y):=by
  obtain⟨K,hK⟩:=implSameSet_ev x.f0 y.f0 h
  refine⟨K,fun k hk=>?_⟩
  have h2:=hK k hk
  simp only at h2
  rw[sameAlarm_eq]
  simp only[impl_SameAlarm.f,h2,Option.bind_some]
  cases sameSet x.f0 y.f0<;>by_cases h3:x.f1=y.f1<;>by_cases h4:x.f2=y.f2<;>simp[h3,h4]
theorem implSameAlarms_ev (a b:List S29) (h:a.length≤4000000∧∀y∈a,WiAlarm y):Ev (fun k=>impl_sameAlarms.f k a b) (sameAlarms a b):=by
  have h1:=h.1
  unfold impl_sameAlarms.f sameAlarms
  by_cases hl:a.length=b.length
  · simp only[if_pos (show (a.length:Int)=(b.length:Int) by omega)]
    rw[←scan_same0 alm z29 a b hl]
    refine scan_ev (F:=fun k i=>impl_sameAlarms.l0 k a b (a.length:Int) i) (n:=a.length) (fun k=>?_) (fun i hi=>?_) a.length 0 (by omega)
    · simp only[impl_sameAlarms.l0];rw[if_neg (by omega)]
    · have hw:=(h.2 _ (getD_mem a i z29 hi)).1.1
      obtain⟨K,hK⟩:=implSameAlarm_ev (a.getD i z29) (b.getD i z29) (by omega)
      refine⟨K,fun k hk=>?_⟩
      have h2:=hK k hk
      simp only at h2
      simp only[impl_sameAlarms.l0]
      rw[if_pos (by omega),if_pos (by omega),if_pos (by omega),if_pos (by omega),rdnAlarm,rdnAlarm,wrap_up i (by omega),h2,Option.bind_some]
      unfold sameAlarm
      by_cases hc:alm (a.getD i z29)=alm (b.getD i z29)
      · rw[decide_eq_true hc,if_pos hc];rfl
      · rw[decide_eq_false hc,if_neg hc];rfl
  · simp only[if_neg (show ¬(a.length:Int)=(b.length:Int) by omega),decide_eq_false (map_ne_of_length hl)]
    exact Ev.now _
def homeOf (l:List S26) (s:List S99):Int:=partOf (fingerOf s) (l.length:Int)
theorem implHomeOf_ev (l:List S26) (s:List S99) (h:s.length≤4000000∧∀y∈s,WiLabel y):Ev (fun k=>impl_HomeOf.f k l s) (homeOf l s):=by
  obtain⟨K,g⟩:=implFinger_ev s h
  refine⟨K,fun k hk=>?_⟩
  have e:=g k hk
  simp only at e
  simp[impl_HomeOf.f,e,implPartOf_is,homeOf]
theorem specHomeOf_ev (l:List S26) (s:List S99) (h:s.length≤4000000∧∀y∈s,WiLabel y):Ev (fun k=>spec_HomeOf.f k l s) (homeOf l s):=by
  obtain⟨K,g⟩:=specFinger_ev s h
  refine⟨K,fun k hk=>?_⟩
  have e:=g k hk
  simp only at e
  simp[spec_HomeOf.f,e,specPartOf_is,homeOf]
theorem specL4Copy_ev (x:S29) (h:x.f0.length≤5000000):spec_l4Copy.f x.f0 x.f1 x.f2 x.f3=some (x.f0,x.f1,x.f2,x.f3):=by
  simp only[spec_l4Copy.f,Option.bind_some,List.nil_append,List.length_nil]
  exact if_pos (by omega)
theorem implCopySet_ev (l:List S99) (h:l.length≤5000000):impl_copySet.f l=some l:=by
  simp only[impl_copySet.f,List.nil_append,List.length_nil]
  exact if_pos (by omega)
theorem implCopyAlarm_ev (x:S29) (h:x.f0.length≤5000000):impl_copyAlarm.f x.f0 x.f1 x.f2 x.f3=some (x.f0,x.f1,x.f2,x.f3):=by
  simp only[impl_copyAlarm.f,implCopySet_ev x.f0 h,Option.bind_some]
theorem rdnChainF (l:List S80) (i:Nat):rd_T80 l (i:Int)=l.getD i z80:=by unfold rd_T80;simp
theorem place_lt {α:Type} (p:α→Bool):∀(l:List α) (i:Nat),place p l i<(i:Int)+l.length∨place p l i=-1
  | [],i=>.inr rfl
  | x::l,i=>by
    unfold place
    split
    · left;simp only[List.length_cons];omega
    · rcases place_lt p l (i+1) with h|h
      · left;simp only[List.length_cons];omega
      · exact .inr h
def chainAt (l:List S80) (f:Int):Int:=place (fun c=>decide (c.f0=f)) l 0
theorem implChainOf_ev (p:S26) (f:Int) (h:p.f2.length≤4000001):Ev (fun k=>impl_chainOf.f k p.f0 p.f1 p.f2 f) (chainAt p.f2 f):=by
  unfold impl_chainOf.f chainAt
  rw[←scan_place0 (fun c:S80=>decide (c.f0=f)) z80 p.f2]
  refine scan_ev (F:=fun k i=>impl_chainOf.l0 k f p.f2 (p.f2.length:Int) i) (n:=p.f2.length) (fun k=>?_) (fun i hi=>?_) p.f2.length 0 (by omega)
  · simp only[impl_chainOf.l0];rw[if_neg (by omega)]
  · refine⟨0,fun k _=>?_⟩
    simp only[impl_chainOf.l0]
    rw[if_pos (by omega),if_pos (by omega),if_pos (by omega),rdnChainF,wrap_up i (by omega)]
    by_cases c:(p.f2.getD i z80).f0=f
    · rw[if_pos c];simp only[decide_eq_true c,if_true,goOn]
    · rw[if_neg c];simp only[decide_eq_false c,Bool.false_eq_true,if_false,goOn]
theorem specL7At_ev (p:S26) (f:Int) (h:p.f2.length≤4000001):Ev (fun k=>spec_l7At.f k p.f0 p.f1 p.f2 f) (chainAt p.f2 f):=by
  unfold spec_l7At.f chainAt
  rw[←scan_place0 (fun c:S80=>decide (c.f0=f)) z80 p.f2]
  refine scan_ev (F:=fun k i=>spec_l7At.l0 k f i p.f0 p.f1 p.f2) (n:=p.f2.length) (fun k=>?_) (fun i hi=>?_) p.f2.length 0 (by omega)
  · simp only[spec_l7At.l0];rw[if_neg (by omega)]
  · refine⟨0,fun k _=>?_⟩
    simp only[spec_l7At.l0]
    rw[if_pos (by omega),if_pos (by omega),rdnChainF,wrap_up i (by omega)]
    by_cases c:(p.f2.getD i z80).f0=f
    · rw[if_pos c];simp only[decide_eq_true c,if_true,goOn]
    · rw[if_neg c];simp only[decide_eq_false c,Bool.false_eq_true,if_false,goOn]
theorem implInChain_ev (c:S80) (s:List S99) (h:c.f1.length≤4000000∧∀y∈c.f1,WiAlarm y):Ev (fun k=>impl_InChain.f k c.f0 c.f1 s) (labelsAt c.f1 s):=by
  obtain⟨K,g⟩:=implLabelsAt_ev c.f1 s h
  exact⟨K,fun k hk=>by simp only[impl_InChain.f,g k hk,Option.bind_some]⟩
theorem specInChain_ev (c:S80) (s:List S99) (h:c.f1.length≤4000000∧∀y∈c.f1,WiAlarm y):Ev (fun k=>spec_InChain.f k c.f0 c.f1 s) (labelsAt c.f1 s):=by
  have h1:=h.1
  unfold spec_InChain.f labelsAt
  rw[←scan_place0 (fun a:S29=>sameSet a.f0 s) z29 c.f1]
  refine scan_ev (F:=fun k i=>spec_InChain.l0 k s i c.f0 c.f1) (n:=c.f1.length) (fun k=>?_) (fun i hi=>?_) c.f1.length 0 (by omega)
  · simp only[spec_InChain.l0];rw[if_neg (by omega)]
  · have hw:=(h.2 _ (getD_mem c.f1 i z29 hi)).1.1
    obtain⟨K,g⟩:=specSameSet_ev (c.f1.getD i z29).f0 s (by omega)
    refine⟨K,fun k hk=>?_⟩
    have e:=g k hk
    simp only at e
    simp only[spec_InChain.l0]
    rw[if_pos (by omega),if_pos (by omega),rdnAlarm,e,Option.bind_some,wrap_up i (by omega)]
    cases sameSet (c.f1.getD i z29).f0 s<;>simp[goOn]
def findIn (p:S26) (s:List S99):S29×Bool:=
  let i:=chainAt p.f2 (fingerOf s)
  if i<0 then (z29,false) else
    let c:=p.f2.getD i.toNat z80
    let k:=labelsAt c.f1 s
    if k<0 then (z29,false) else (c.f1.getD k.toNat z29,true)
theorem implFindIn_ev (p:S26) (s:List S99) (h:WiPart p) (hs:s.length≤4000000∧∀y∈s,WiLabel y) :
    Ev (fun k=>impl_FindIn.f k p.f0 p.f1 p.f2 s) ((findIn p s).1.f0,(findIn p s).1.f1,(findIn p s).1.f2,(findIn p s).1.f3,(findIn p s).2):=by
  obtain⟨K1,g1⟩:=implFinger_ev s hs
  obtain⟨K2,g2⟩:=implChainOf_ev p (fingerOf s) (by have:=h.2.2.1;omega)
  have hb:=place_lt (fun c:S80=>decide (c.f0=fingerOf s)) p.f2 0
  have hl:=place_lo (fun c:S80=>decide (c.f0=fingerOf s)) p.f2 0
  generalize hi:chainAt p.f2 (fingerOf s)=i at g2
  rw[show place (fun c:S80=>decide (c.f0=fingerOf s)) p.f2 0=i from hi] at hb hl
  by_cases c:i<0
  · refine⟨K1+K2,fun k hk=>?_⟩
    have e1:=g1 k (by omega)
    have e2:=g2 k (by omega)
    simp only at e1 e2
    simp[impl_FindIn.f,e1,e2,c,findIn,hi,z29]
  · have hil:i.toNat<p.f2.length:=by rcases hb with hb|hb<;>omega
    have hm:=h.2.2.2 _ (getD_mem p.f2 i.toNat z80 hil)
    have hrd:rd_T80 p.f2 i=p.f2.getD i.toNat z80:=rfl
    generalize hc:p.f2.getD i.toNat z80=ch at hm hrd
    obtain⟨K3,g3⟩:=implInChain_ev ch s hm.2
    have hb2:=place_lt (fun a:S29=>sameSet a.f0 s) ch.f1 0
    have hl2:=place_lo (fun a:S29=>sameSet a.f0 s) ch.f1 0
    generalize hj:labelsAt ch.f1 s=j at g3
    rw[show place (fun a:S29=>sameSet a.f0 s) ch.f1 0=j from hj] at hb2 hl2
    refine⟨K1+K2+K3,fun k hk=>?_⟩
    have e1:=g1 k (by omega)
    have e2:=g2 k (by omega)
    have e3:=g3 k (by omega)
    simp only at e1 e2 e3
    by_cases c2:j<0
    · simp only[impl_FindIn.f,e1,e2,Option.bind_some,if_neg c,findIn,hi,hc]
      rw[if_pos (by omega),if_pos (by omega),hrd,e3,hj]
      simp only[Option.bind_some,if_pos c2]
      rfl
    · have hjl:j.toNat<ch.f1.length:=by rcases hb2 with hb2|hb2<;>omega
      have hw:=hm.2.2 _ (getD_mem ch.f1 j.toNat z29 hjl)
      have hrd2:rd_T29 ch.f1 j=ch.f1.getD j.toNat z29:=rfl
      simp only[impl_FindIn.f,e1,e2,Option.bind_some,if_neg c,findIn,hi,hc]
      rw[if_pos (by omega),if_pos (by omega),hrd,e3,hj]
      simp only[Option.bind_some,if_neg c2]
      rw[if_pos (by omega),if_pos (by omega),hrd2,implCopyAlarm_ev _ (Nat.le_trans hw.1.1 (by decide))]
      rfl
theorem specFindIn_ev (p:S26) (s:List S99) (h:WiPart p) (hs:s.length≤4000000∧∀y∈s,WiLabel y) :
    Ev (fun k=>spec_FindIn.f k p.f0 p.f1 p.f2 s) ((findIn p s).1.f0,(findIn p s).1.f1,(findIn p s).1.f2,(findIn p s).1.f3,(findIn p s).2):=by
  obtain⟨K1,g1⟩:=specFinger_ev s hs
  obtain⟨K2,g2⟩:=specL7At_ev p (fingerOf s) (by have:=h.2.2.1;omega)
  have hb:=place_lt (fun c:S80=>decide (c.f0=fingerOf s)) p.f2 0
  have hl:=place_lo (fun c:S80=>decide (c.f0=fingerOf s)) p.f2 0
  generalize hi:chainAt p.f2 (fingerOf s)=i at g2
  rw[show place (fun c:S80=>decide (c.f0=fingerOf s)) p.f2 0=i from hi] at hb hl
  by_cases c:i<0
  · refine⟨K1+K2,fun k hk=>?_⟩
    have e1:=g1 k (by omega)
    have e2:=g2 k (by omega)
    simp only at e1 e2
    simp[spec_FindIn.f,e1,e2,c,findIn,hi,z29]
  · have hil:i.toNat<p.f2.length:=by rcases hb with hb|hb<;>omega
    have hm:=h.2.2.2 _ (getD_mem p.f2 i.toNat z80 hil)
    have hrd:rd_T80 p.f2 i=p.f2.getD i.toNat z80:=rfl
    generalize hc:p.f2.getD i.toNat z80=ch at hm hrd
    obtain⟨K3,g3⟩:=specInChain_ev ch s hm.2
    have hb2:=place_lt (fun a:S29=>sameSet a.f0 s) ch.f1 0
    have hl2:=place_lo (fun a:S29=>sameSet a.f0 s) ch.f1 0
    generalize hj:labelsAt ch.f1 s=j at g3
    rw[show place (fun a:S29=>sameSet a.f0 s) ch.f1 0=j from hj] at hb2 hl2
    refine⟨K1+K2+K3,fun k hk=>?_⟩
    have e1:=g1 k (by omega)
    have e2:=g2 k (by omega)
    have e3:=g3 k (by omega)
    simp only at e1 e2 e3
    by_cases c2:j<0
    · simp only[spec_FindIn.f,e1,e2,Option.bind_some,if_neg c,findIn,hi,hc]
      rw[if_pos (by omega),if_pos (by omega),hrd,e3,hj]
      simp only[Option.bind_some,if_pos c2]
      rfl
    · have hjl:j.toNat<ch.f1.length:=by rcases hb2 with hb2|hb2<;>omega
      have hw:=hm.2.2 _ (getD_mem ch.f1 j.toNat z29 hjl)
      have hrd2:rd_T29 ch.f1 j=ch.f1.getD j.toNat z29:=rfl
      simp only[spec_FindIn.f,e1,e2,Option.bind_some,if_neg c,findIn,hi,hc]
      rw[if_pos (by omega),if_pos (by omega),hrd,e3,hj]
      simp only[Option.bind_some,if_neg c2]
      rw[if_pos (by omega),if_pos (by omega),hrd2,specL4Copy_ev _ (Nat.le_trans hw.1.1 (by decide))]
      rfl
theorem Wi_zAlarm':WiAlarm z29:=⟨⟨by simp[z29],fun y hy=>by simp[z29] at hy⟩,trivial,trivial,by show (⟨#[]⟩:ByteArray).size≤4000000;decide⟩
theorem findIn_wi {p:S26} {s:List S99} (h:WiPart p):WiAlarm (findIn p s).1:=by
  unfold findIn
  simp only[]
  split
  · exact Wi_zAlarm'
  · split
    · exact Wi_zAlarm'
    · rename_i c c2
      have hb:=place_lt (fun c:S80=>decide (c.f0=fingerOf s)) p.f2 0
      have hb2:=place_lt (fun a:S29=>sameSet a.f0 s) (p.f2.getD (chainAt p.f2 (fingerOf s)).toNat z80).f1 0
      have e1:chainAt p.f2 (fingerOf s)=place (fun c:S80=>decide (c.f0=fingerOf s)) p.f2 0:=rfl
      have e2:labelsAt (p.f2.getD (chainAt p.f2 (fingerOf s)).toNat z80).f1 s=place (fun a:S29=>sameSet a.f0 s) (p.f2.getD (chainAt p.f2 (fingerOf s)).toNat z80).f1 0:=rfl
      have hil:(chainAt p.f2 (fingerOf s)).toNat<p.f2.length:=by rcases hb with hb|hb<;>omega
      have hm:=h.2.2.2 _ (getD_mem p.f2 (chainAt p.f2 (fingerOf s)).toNat z80 hil)
      exact hm.2.2 _ (getD_mem _ _ z29 (by rcases hb2 with hb2|hb2<;>omega))
theorem partOf_range (a:Int) (n:Nat) (h:0<n):0≤partOf a n∧partOf a n<n:=by
  unfold partOf
  rw[if_neg (by omega)]
  split
  · omega
  · rw[Int.tmod_eq_emod_of_nonneg (by omega)];exact⟨Int.emod_nonneg _ (by omega),Int.emod_lt_of_pos _ (by omega)⟩
def findAlarm (l:List S26) (s:List S99):S29×Bool:=if (l.length:Int)=0 then (z29,false) else findIn (l.getD (homeOf l s).toNat z26) s
theorem implFindAlarm_ev (l:List S26) (s:List S99) (h:l.length≤4000000∧∀y∈l,WiPart y) (hs:s.length≤4000000∧∀y∈s,WiLabel y) :
    Ev (fun k=>impl_FindAlarm.f k l s) ((findAlarm l s).1.f0,(findAlarm l s).1.f1,(findAlarm l s).1.f2,(findAlarm l s).1.f3,(findAlarm l s).2):=by
  by_cases c:(l.length:Int)=0
  · exact⟨0,fun k _=>by simp only[impl_FindAlarm.f,if_pos c,findAlarm];rfl⟩
  · obtain⟨K1,g1⟩:=implHomeOf_ev l s hs
    have hr:=partOf_range (fingerOf s) l.length (by omega)
    have e:homeOf l s=partOf (fingerOf s) l.length:=rfl
    have hm:=h.2 _ (getD_mem l (homeOf l s).toNat z26 (by omega))
    obtain⟨K2,g2⟩:=implFindIn_ev _ s hm hs
    refine⟨K1+K2,fun k hk=>?_⟩
    have e1:=g1 k (by omega)
    have e2:=g2 k (by omega)
    have hrd:rd_T26 l (homeOf l s)=l.getD (homeOf l s).toNat z26:=rfl
    simp only at e1 e2
    simp only[impl_FindAlarm.f,if_neg c,e1,Option.bind_some,findAlarm]
    rw[if_pos (by omega),if_pos (by omega),hrd,e2]
    rfl
theorem specFindAlarm_ev (l:List S26) (s:List S99) (h:l.length≤4000000∧∀y∈l,WiPart y) (hs:s.length≤4000000∧∀y∈s,WiLabel y) :
    Ev (fun k=>spec_FindAlarm.f k l s) ((findAlarm l s).1.f0,(findAlarm l s).1.f1,(findAlarm l s).1.f2,(findAlarm l s).1.f3,(findAlarm l s).2):=by
  by_cases c:(l.length:Int)=0
  · exact⟨0,fun k _=>by simp only[spec_FindAlarm.f,if_pos c,findAlarm];rfl⟩
  · obtain⟨K1,g1⟩:=specHomeOf_ev l s hs
    have hr:=partOf_range (fingerOf s) l.length (by omega)
    have e:homeOf l s=partOf (fingerOf s) l.length:=rfl
    have hm:=h.2 _ (getD_mem l (homeOf l s).toNat z26 (by omega))
    obtain⟨K2,g2⟩:=specFindIn_ev _ s hm hs
    refine⟨K1+K2,fun k hk=>?_⟩
    have e1:=g1 k (by omega)
    have e2:=g2 k (by omega)
    have hrd:rd_T26 l (homeOf l s)=l.getD (homeOf l s).toNat z26:=rfl
    simp only at e1 e2
    simp only[spec_FindAlarm.f,if_neg c,e1,Option.bind_some,findAlarm]
    rw[if_pos (by omega),if_pos (by omega),hrd,e2]
    rfl
theorem findAlarm_wi {l:List S26} {s:List S99} (h:l.length≤4000000∧∀y∈l,WiPart y):WiAlarm (findAlarm l s).1:=by
  unfold findAlarm
  split
  · exact Wi_zAlarm'
  · rename_i c
    have hr:=partOf_range (fingerOf s) l.length (by omega)
    have e:homeOf l s=partOf (fingerOf s) l.length:=rfl
    exact findIn_wi (h.2 _ (getD_mem l (homeOf l s).toNat z26 (by omega)))
theorem rdmmPart (pre suf:List S26) (y:S26):rd_T26 (pre++y::suf) (pre.length:Int)=y:=by unfold rd_T26;simp
theorem rdmmChain (pre suf:List S80) (y:S80):rd_T80 (pre++y::suf) (pre.length:Int)=y:=by unfold rd_T80;simp
theorem rdmmAlarm (pre suf:List S29) (y:S29):rd_T29 (pre++y::suf) (pre.length:Int)=y:=by unfold rd_T29;simp
theorem specL4All_l0:∀(suf pre:List S29),(pre++suf).length≤5000000→(∀y∈suf,y.f0.length≤5000000)→Ev (fun k=>spec_l4All.l0 k (pre++suf) pre (pre.length:Int)) (pre++suf)
  | [],pre,h,hW=>by
    refine Ev.step (f:=fun _=>some (pre++[])) (fun k=>?_) (Ev.now _)
    simp only[spec_l4All.l0]
    rw[if_neg (not_lt_end pre),List.append_nil]
  | y::suf,pre,h,hW=>by
    have ih:=specL4All_l0 suf (pre++[y]) (by simpa using h) (fun z hz=>hW z (List.mem_cons_of_mem _ hz))
    have hp:pre.length<5000000:=by simp at h;omega
    refine Ev.step (f:=fun k=>spec_l4All.l0 k ((pre++[y])++suf) (pre++[y]) ((pre++[y]).length:Int)) (fun k=>?_) (by rw[mid_assoc pre suf y];exact ih)
    simp only[spec_l4All.l0]
    rw[if_pos (lt_mid pre suf y)]
    simp only[nn,if_true,rdmmAlarm,specL4Copy_ev y (hW y List.mem_cons_self),Option.bind_some,wrap_up pre.length (by omega)]
    rw[if_pos (by omega)]
    congr 1
    · simp
    · simp
theorem specL4All_ev (l:List S29) (h:l.length≤5000000) (hW:∀y∈l,y.f0.length≤5000000):Ev (fun k=>spec_l4All.f k l) l:=
  Ev.congr (fun k=>by unfold spec_l4All.f;rfl) (specL4All_l0 l [] (by simpa using h) hW)
theorem implCopyAlarms_l0:∀(suf pre:List S29),(pre++suf).length≤5000000→(∀y∈suf,y.f0.length≤5000000)→Ev (fun k=>impl_copyAlarms.l0 k pre (pre++suf) ((pre++suf).length:Int) (pre.length:Int)) (pre++suf)
  | [],pre,h,hW=>by
    refine Ev.step (f:=fun _=>some (pre++[])) (fun k=>?_) (Ev.now _)
    simp only[impl_copyAlarms.l0]
    rw[if_neg (by simp),List.append_nil]
  | y::suf,pre,h,hW=>by
    have ih:=implCopyAlarms_l0 suf (pre++[y]) (by simpa using h) (fun z hz=>hW z (List.mem_cons_of_mem _ hz))
    have hp:pre.length<5000000:=by simp at h;omega
    refine Ev.step (f:=fun k=>impl_copyAlarms.l0 k (pre++[y]) ((pre++[y])++suf) (((pre++[y])++suf).length:Int) ((pre++[y]).length:Int)) (fun k=>?_) (by rw[mid_assoc pre suf y];exact ih)
    simp only[impl_copyAlarms.l0]
    rw[if_pos (lt_mid pre suf y)]
    simp only[nn,if_true,rdmmAlarm,implCopyAlarm_ev y (hW y List.mem_cons_self),Option.bind_some,wrap_up pre.length (by omega)]
    rw[if_pos (lt_mid pre suf y),if_pos (by omega)]
    congr 1
    · simp
    · simp
    · simp
theorem implCopyAlarms_ev (l:List S29) (h:l.length≤5000000) (hW:∀y∈l,y.f0.length≤5000000):Ev (fun k=>impl_copyAlarms.f k l) l:=
  Ev.congr (fun k=>by unfold impl_copyAlarms.f;rfl) (implCopyAlarms_l0 l [] (by simpa using h) hW)
def mergeA (a b:S29):S29:=if a.f1≤b.f2 then (if b.f1≤a.f2 then ⟨b.f0,mn a.f1 b.f1,b.f2,b.f3⟩ else b) else b
theorem least_mn (x y:Int):spec_Least.f x y=some (mn x y):=by unfold spec_Least.f mn;split<;>rfl
theorem implMerge_ev (a b:S29) (h:b.f0.length≤5000000):impl_Merge.f a.f0 a.f1 a.f2 a.f3 b.f0 b.f1 b.f2 b.f3=some ((mergeA a b).f0,(mergeA a b).f1,(mergeA a b).f2,(mergeA a b).f3):=by
  simp only[impl_Merge.f,impl_Touch.f,implCopyAlarm_ev b h,Option.bind_some,mergeA]
  by_cases c:a.f1≤b.f2
  · by_cases c2:b.f1≤a.f2
    · simp[c,c2]
    · simp[c,c2]
  · simp[c]
theorem specMerge_ev (a b:S29) (h:b.f0.length≤5000000):spec_Merge.f a.f0 a.f1 a.f2 a.f3 b.f0 b.f1 b.f2 b.f3=some ((mergeA a b).f0,(mergeA a b).f1,(mergeA a b).f2,(mergeA a b).f3):=by
  simp only[spec_Merge.f,spec_Touch.f,specL4Copy_ev b h,Option.bind_some,mergeA,least_mn]
  by_cases c:a.f1≤b.f2
  · by_cases c2:b.f1≤a.f2
    · simp[c,c2]
    · simp[c,c2]
  · simp[c]
theorem mergeA_f0 (a b:S29):(mergeA a b).f0=b.f0:=by unfold mergeA;split<;>(try split)<;>rfl
theorem mergeA_wi {a b:S29} (h:WiAlarm b):WiAlarm (mergeA a b):=by
  unfold mergeA
  split
  · split
    · exact⟨h.1,trivial,trivial,h.2.2.2⟩
    · exact h
  · exact h
theorem labelsAt_end (l:List S29) (s:List S99) (h:labelsAt l s≥0):labelsAt l s<(l.length:Int):=by
  have:=place_lt (fun a:S29=>sameSet a.f0 s) l 0
  unfold labelsAt at *
  omega
theorem chainAt_end (l:List S80) (f:Int) (h:chainAt l f≥0):chainAt l f<(l.length:Int):=by
  have:=place_lt (fun c:S80=>decide (c.f0=f)) l 0
  unfold chainAt at *
  omega
/-- An alarm put into a chain: in place of the one of its labels, or behind all. -/
def putChain (c:S80) (a:S29):S80×Bool:=
  if labelsAt c.f1 a.f0≥0 then (⟨c.f0,c.f1.set (labelsAt c.f1 a.f0).toNat (mergeA (c.f1.getD (labelsAt c.f1 a.f0).toNat z29) a)⟩,false) else (⟨c.f0,c.f1++[a]⟩,true)
theorem okC {l:List S29} (h:l.length≤4000000∧∀y∈l,WiAlarm y):l.length≤5000000∧∀y∈l,y.f0.length≤5000000:=⟨by omega,fun y hy=>Nat.le_trans (h.2 y hy).1.1 (by decide)⟩
theorem implPutChain_ev (c:S80) (a:S29) (h:WiChain c) (ha:WiAlarm a):Ev (fun k=>impl_PutChain.f k c.f0 c.f1 a.f0 a.f1 a.f2 a.f3) ((putChain c a).1.f0,(putChain c a).1.f1,(putChain c a).2):=by
  obtain⟨K1,g1⟩:=implCopyAlarms_ev c.f1 (okC h.2).1 (okC h.2).2
  obtain⟨K2,g2⟩:=implInChain_ev c a.f0 h.2
  have ho:a.f0.length≤5000000:=Nat.le_trans ha.1.1 (by decide)
  have hlt:=labelsAt_end c.f1 a.f0
  have hl:=h.2.1
  refine⟨K1+K2,fun k hk=>?_⟩
  have e1:=g1 k (by omega)
  have e2:=g2 k (by omega)
  simp only at e1 e2
  simp only[impl_PutChain.f,impl_copyChain.f,e1,Option.bind_some,e2]
  unfold putChain
  by_cases c0:labelsAt c.f1 a.f0≥0
  · rw[if_pos c0,if_pos c0,if_pos (hlt c0)]
    unfold rd_T29
    rw[implMerge_ev _ a ho]
    simp only[Option.bind_some]
    rw[if_pos (hlt c0),if_pos c0]
  · rw[if_neg c0,implCopyAlarm_ev a ho]
    simp only[Option.bind_some]
    rw[if_pos (by omega),if_neg c0]
theorem specPutChain_ev (c:S80) (a:S29) (h:WiChain c) (ha:WiAlarm a):Ev (fun k=>spec_PutChain.f k c.f0 c.f1 a.f0 a.f1 a.f2 a.f3) ((putChain c a).1.f0,(putChain c a).1.f1,(putChain c a).2):=by
  obtain⟨K1,g1⟩:=specL4All_ev c.f1 (okC h.2).1 (okC h.2).2
  obtain⟨K2,g2⟩:=specInChain_ev c a.f0 h.2
  have ho:a.f0.length≤5000000:=Nat.le_trans ha.1.1 (by decide)
  have hlt:=labelsAt_end c.f1 a.f0
  have hl:=h.2.1
  refine⟨K1+K2,fun k hk=>?_⟩
  have e1:=g1 k (by omega)
  have e2:=g2 k (by omega)
  simp only at e1 e2
  simp only[spec_PutChain.f,spec_l6Copy.f,e1,Option.bind_some,e2]
  unfold putChain
  by_cases c0:labelsAt c.f1 a.f0≥0
  · rw[if_neg (by omega),if_pos c0,if_pos (hlt c0)]
    unfold rd_T29
    rw[specMerge_ev _ a ho]
    simp only[Option.bind_some]
    rw[if_pos (hlt c0),if_pos c0]
  · rw[if_pos (by omega),specL4Copy_ev a ho]
    simp only[Option.bind_some]
    rw[if_pos (by omega),if_neg c0]
theorem implCopyPart_l0 (o0 o1:Int):∀(suf pre acc:List S80),(pre++suf).length≤5000000→acc.length=pre.length→(∀y∈suf,WiChain y) →
    Ev (fun k=>impl_copyPart.l0 k (pre++suf) ((pre++suf).length:Int) (pre.length:Int) o0 o1 acc) (o0,o1,acc++suf)
  | [],pre,acc,h,hl,hW=>by
    refine Ev.step (f:=fun _=>some (o0,o1,acc++([]:List S80))) (fun k=>?_) (Ev.now _)
    simp only[impl_copyPart.l0]
    rw[if_neg (by simp)]
    simp
  | y::suf,pre,acc,h,hl,hW=>by
    obtain⟨K,g⟩:=implCopyPart_l0 o0 o1 suf (pre++[y]) (acc++[y]) (by simpa using h) (by simp[hl]) (fun z hz=>hW z (List.mem_cons_of_mem _ hz))
    obtain⟨K2,g2⟩:=implCopyAlarms_ev y.f1 (okC (hW y List.mem_cons_self).2).1 (okC (hW y List.mem_cons_self).2).2
    have hp:pre.length<5000000:=by simp at h;omega
    refine⟨K+K2+1,fun k hk=>?_⟩
    obtain⟨k,rfl⟩:∃m,k=m+1:=⟨k-1,by omega⟩
    have e:=g k (by omega)
    have e2:=g2 k (by omega)
    simp only at e e2
    rw[←mid_assoc pre suf y] at e
    simp only[impl_copyPart.l0,impl_copyChain.f]
    rw[if_pos (lt_mid pre suf y)]
    simp only[nn,if_true,rdmmChain,wrap_up pre.length (by omega)]
    rw[if_pos (lt_mid pre suf y),e2]
    simp only[Option.bind_some]
    rw[if_pos (by omega),show ((pre.length+1:Nat):Int)=((pre++[y]).length:Int) by simp,e]
    simp
theorem implCopyPart_ev (p:S26) (h:WiPart p):Ev (fun k=>impl_copyPart.f k p.f0 p.f1 p.f2) (p.f0,p.f1,p.f2):=
  Ev.congr (fun k=>by unfold impl_copyPart.f;rfl) (by simpa using implCopyPart_l0 p.f0 p.f1 p.f2 [] [] (by have:=h.2.2.1;simp;omega) rfl h.2.2.2)
theorem specCopyPart_l0 (q0 q1 o0 o1:Int):∀(suf pre acc:List S80),(pre++suf).length≤5000000→acc.length=pre.length→(∀y∈suf,WiChain y) →
    Ev (fun k=>spec_l7Copy.l0 k (pre.length:Int) q0 q1 (pre++suf) o0 o1 acc) (o0,o1,acc++suf)
  | [],pre,acc,h,hl,hW=>by
    refine Ev.step (f:=fun _=>some (o0,o1,acc++([]:List S80))) (fun k=>?_) (Ev.now _)
    simp only[spec_l7Copy.l0]
    rw[if_neg (not_lt_end pre)]
    simp
  | y::suf,pre,acc,h,hl,hW=>by
    obtain⟨K,g⟩:=specCopyPart_l0 q0 q1 o0 o1 suf (pre++[y]) (acc++[y]) (by simpa using h) (by simp[hl]) (fun z hz=>hW z (List.mem_cons_of_mem _ hz))
    obtain⟨K2,g2⟩:=specL4All_ev y.f1 (okC (hW y List.mem_cons_self).2).1 (okC (hW y List.mem_cons_self).2).2
    have hp:pre.length<5000000:=by simp at h;omega
    refine⟨K+K2+1,fun k hk=>?_⟩
    obtain⟨k,rfl⟩:∃m,k=m+1:=⟨k-1,by omega⟩
    have e:=g k (by omega)
    have e2:=g2 k (by omega)
    simp only at e e2
    rw[←mid_assoc pre suf y] at e
    simp only[spec_l7Copy.l0,spec_l6Copy.f]
    rw[if_pos (lt_mid pre suf y)]
    simp only[nn,if_true,rdmmChain,wrap_up pre.length (by omega)]
    rw[e2]
    simp only[Option.bind_some]
    rw[if_pos (by omega),show ((pre.length+1:Nat):Int)=((pre++[y]).length:Int) by simp,e]
    simp
theorem specCopyPart_ev (p:S26) (h:WiPart p):Ev (fun k=>spec_l7Copy.f k p.f0 p.f1 p.f2) (p.f0,p.f1,p.f2):=
  Ev.congr (fun k=>by unfold spec_l7Copy.f;rfl) (by simpa using specCopyPart_l0 p.f0 p.f1 p.f0 p.f1 p.f2 [] [] (by have:=h.2.2.1;simp;omega) rfl h.2.2.2)
/-- How many stand ahead of the first one that a question denies. -/
def firstNot {α:Type} (p:α→Bool):List α→Nat
  | []=>0
  | x::l=>if p x=true then firstNot p l+1 else 0
theorem firstNot_congr {α:Type} (p q:α→Bool):∀l:List α,(∀x∈l,p x=q x)→firstNot p l=firstNot q l
  | [],_=>rfl
  | x::l,h=>by unfold firstNot;rw[h x List.mem_cons_self,firstNot_congr p q l (fun y hy=>h y (List.mem_cons_of_mem _ hy))]
def insC (l:List S80) (f:Int) (a:S29) (i:Nat):List S80:=((([]:List S80)++l.take i)++[⟨f,[a]⟩])++l.drop i
theorem insC_length (l:List S80) (f:Int) (a:S29) (i:Nat):(insC l f a i).length=l.length+1:=by
  unfold insC;simp only[List.length_append,List.length_take,List.length_drop,List.length_singleton,List.length_nil];omega
theorem insC_mem {l:List S80} {f:Int} {a:S29} {i:Nat} {y:S80} (h:y∈insC l f a i):y∈l∨y=⟨f,[a]⟩:=by
  unfold insC at h
  rcases List.mem_append.1 h with h|h
  · rcases List.mem_append.1 h with h|h
    · rcases List.mem_append.1 h with h|h
      · simp at h
      · exact .inl (List.mem_of_mem_take h)
    · exact .inr (List.mem_singleton.1 h)
  · exact .inl (List.mem_of_mem_drop h)
theorem specPut_j1 (f:Int) (a:S29) (q0 q1:Int) (ql:List S80) (o0 o1:Int) (ha:a.f0.length≤5000000) (l:List S80) (i:Nat) (hi:i≤l.length) (hl:l.length≤5000000) (k:Nat) :
    spec_PutIn.j1 (k+1) f (i:Int) false q0 q1 ql a.f0 a.f1 a.f2 a.f3 o0 o1 l=some (o0,o1,insC l f a i,true):=by
  simp only[spec_PutIn.j1]
  rw[if_neg (by decide)]
  simp only[specL4Copy_ev a ha,Option.bind_some,nn,if_true,Int.toNat_natCast]
  rw[if_pos (by omega),if_pos (by simp only[List.length_append,List.length_take,List.length_nil];omega),if_pos (by simp only[List.length_append,List.length_take,List.length_nil];omega),if_pos (by simp only[List.length_append,List.length_take,List.length_drop,List.length_nil,List.length_singleton];omega)]
  rfl
theorem specPut_l0 (f:Int) (a:S29) (q0 q1:Int) (o0 o1:Int) (ha:a.f0.length≤5000000):∀(suf pre:List S80),(pre++suf).length≤5000000 →
    Ev (fun k=>spec_PutIn.l0 k f (pre.length:Int) q0 q1 (pre++suf) a.f0 a.f1 a.f2 a.f3 o0 o1 (pre++suf)) (o0,o1,insC (pre++suf) f a (pre.length+firstNot (fun c:S80=>decide (c.f0<f)) suf),true)
  | [],pre,h=>by
    refine⟨2,fun k hk=>?_⟩
    obtain⟨k,rfl⟩:∃m,k=m+2:=⟨k-2,by omega⟩
    simp only[spec_PutIn.l0]
    rw[if_neg (not_lt_end pre)]
    exact specPut_j1 f a q0 q1 (pre++[]) o0 o1 ha (pre++[]) pre.length (by simp) h k
  | y::suf,pre,h=>by
    have hl:pre.length<5000000:=by simp at h;omega
    by_cases c:y.f0<f
    · obtain⟨K,g⟩:=specPut_l0 f a q0 q1 o0 o1 ha suf (pre++[y]) (by simpa using h)
      refine⟨K+2,fun k hk=>?_⟩
      obtain⟨k,rfl⟩:∃m,k=m+2:=⟨k-2,by omega⟩
      have e:=g k (by omega)
      simp only at e
      rw[←mid_assoc pre suf y] at e
      simp only[spec_PutIn.l0]
      rw[if_pos (lt_mid pre suf y)]
      simp only[nn,if_true,rdmmChain]
      rw[decide_eq_true c]
      simp only[spec_PutIn.j1,if_true,wrap_up pre.length (by omega)]
      rw[show ((pre.length+1:Nat):Int)=((pre++[y]).length:Int) by simp,e]
      simp only[firstNot,decide_eq_true c,if_true,List.length_append,List.length_singleton]
      rw[show pre.length+1+firstNot (fun c:S80=>decide (c.f0<f)) suf=pre.length+(firstNot (fun c:S80=>decide (c.f0<f)) suf+1) by omega]
    · refine⟨2,fun k hk=>?_⟩
      obtain⟨k,rfl⟩:∃m,k=m+2:=⟨k-2,by omega⟩
      simp only[spec_PutIn.l0]
      rw[if_pos (lt_mid pre suf y)]
      simp only[nn,if_true,rdmmChain]
      rw[decide_eq_false c,specPut_j1 f a q0 q1 (pre++y::suf) o0 o1 ha (pre++y::suf) pre.length (by simp) h k]
      simp only[firstNot,decide_eq_false c,Bool.false_eq_true,if_false,Nat.add_zero]
theorem implPut_j1 (f:Int) (a:S29) (o0 o1:Int) (ha:a.f0.length≤5000000) (l:List S80) (i:Nat) (hi:i≤l.length) (hl:l.length≤5000000) (k:Nat) :
    impl_PutIn.j1 (k+1) f (i:Int) false a.f0 a.f1 a.f2 a.f3 o0 o1 l=some (o0,o1,insC l f a i,true):=by
  simp only[impl_PutIn.j1]
  rw[if_neg (by decide)]
  simp only[implCopyAlarm_ev a ha,Option.bind_some,nn,if_true,Int.toNat_natCast]
  rw[if_pos (by omega),if_pos (by simp only[List.length_append,List.length_take,List.length_nil];omega),if_pos (by simp only[List.length_append,List.length_take,List.length_nil];omega),if_pos (by simp only[List.length_append,List.length_take,List.length_drop,List.length_nil,List.length_singleton];omega)]
  rfl
theorem implPut_l0 (f:Int) (a:S29) (o0 o1:Int) (ha:a.f0.length≤5000000):∀(suf pre:List S80),(pre++suf).length≤5000000 →
    Ev (fun k=>impl_PutIn.l0 k f (pre.length:Int) a.f0 a.f1 a.f2 a.f3 o0 o1 (pre++suf)) (o0,o1,insC (pre++suf) f a (pre.length+firstNot (fun c:S80=>decide (c.f0≤f)) suf),true)
  | [],pre,h=>by
    refine⟨2,fun k hk=>?_⟩
    obtain⟨k,rfl⟩:∃m,k=m+2:=⟨k-2,by omega⟩
    simp only[impl_PutIn.l0]
    rw[if_neg (not_lt_end pre)]
    exact implPut_j1 f a  o0 o1 ha (pre++[]) pre.length (by simp) h k
  | y::suf,pre,h=>by
    have hl:pre.length<5000000:=by simp at h;omega
    by_cases c:y.f0≤f
    · obtain⟨K,g⟩:=implPut_l0 f a o0 o1 ha suf (pre++[y]) (by simpa using h)
      refine⟨K+2,fun k hk=>?_⟩
      obtain⟨k,rfl⟩:∃m,k=m+2:=⟨k-2,by omega⟩
      have e:=g k (by omega)
      simp only at e
      rw[←mid_assoc pre suf y] at e
      simp only[impl_PutIn.l0]
      rw[if_pos (lt_mid pre suf y)]
      simp only[nn,if_true,rdmmChain]
      rw[decide_eq_true c]
      simp only[impl_PutIn.j1,if_true,wrap_up pre.length (by omega)]
      rw[show ((pre.length+1:Nat):Int)=((pre++[y]).length:Int) by simp,e]
      simp only[firstNot,decide_eq_true c,if_true,List.length_append,List.length_singleton]
      rw[show pre.length+1+firstNot (fun c:S80=>decide (c.f0≤f)) suf=pre.length+(firstNot (fun c:S80=>decide (c.f0≤f)) suf+1) by omega]
    · refine⟨2,fun k hk=>?_⟩
      obtain⟨k,rfl⟩:∃m,k=m+2:=⟨k-2,by omega⟩
      simp only[impl_PutIn.l0]
      rw[if_pos (lt_mid pre suf y)]
      simp only[nn,if_true,rdmmChain]
      rw[decide_eq_false c,implPut_j1 f a  o0 o1 ha (pre++y::suf) pre.length (by simp) h k]
      simp only[firstNot,decide_eq_false c,Bool.false_eq_true,if_false,Nat.add_zero]
def putIn (p:S26) (a:S29):S26×Bool:=
  if chainAt p.f2 (fingerOf a.f0)≥0 then (⟨p.f0,wrap64 (p.f1+1),p.f2.set (chainAt p.f2 (fingerOf a.f0)).toNat (putChain (p.f2.getD (chainAt p.f2 (fingerOf a.f0)).toNat z80) a).1⟩,(putChain (p.f2.getD (chainAt p.f2 (fingerOf a.f0)).toNat z80) a).2)
  else (⟨p.f0,wrap64 (p.f1+1),insC p.f2 (fingerOf a.f0) a (firstNot (fun c:S80=>decide (c.f0<fingerOf a.f0)) p.f2)⟩,true)
theorem getD_wi {l:List S80} (h:∀y∈l,WiChain y) {i:Int} (h0:0≤i) (h1:i<(l.length:Int)):WiChain (l.getD i.toNat z80):=h _ (getD_mem l i.toNat z80 (by omega))
theorem implPutIn_ev (p:S26) (a:S29) (h:WiPart p) (ha:WiAlarm a):Ev (fun k=>impl_PutIn.f k p.f0 p.f1 p.f2 a.f0 a.f1 a.f2 a.f3) ((putIn p a).1.f0,(putIn p a).1.f1,(putIn p a).1.f2,(putIn p a).2):=by
  have hl:=h.2.2.1
  have ho:a.f0.length≤5000000:=Nat.le_trans ha.1.1 (by decide)
  have hlt:=chainAt_end p.f2 (fingerOf a.f0)
  obtain⟨K1,g1⟩:=implCopyPart_ev p h
  obtain⟨K2,g2⟩:=implFinger_ev a.f0 ha.1
  obtain⟨K3,g3⟩:=implChainOf_ev p (fingerOf a.f0) (by omega)
  obtain⟨K5,g5⟩:=implPut_l0 (fingerOf a.f0) a p.f0 (wrap64 (p.f1+1)) ho p.f2 [] (by simp;omega)
  by_cases c:chainAt p.f2 (fingerOf a.f0)≥0
  · obtain⟨K4,g4⟩:=implPutChain_ev (p.f2.getD (chainAt p.f2 (fingerOf a.f0)).toNat z80) a (getD_wi h.2.2.2 c (hlt c)) ha
    refine⟨K1+K2+K3+K4,fun k hk=>?_⟩
    have e1:=g1 k (by omega)
    have e2:=g2 k (by omega)
    have e3:=g3 k (by omega)
    have e4:=g4 k (by omega)
    simp only at e1 e2 e3 e4
    simp only[impl_PutIn.f,e1,Option.bind_some,e2,e3]
    rw[if_pos c,if_pos c,if_pos (hlt c)]
    unfold rd_T80
    rw[e4]
    simp only[Option.bind_some]
    rw[if_pos (hlt c)]
    unfold putIn
    rw[if_pos c]
  · refine⟨K1+K2+K3+K5,fun k hk=>?_⟩
    have e1:=g1 k (by omega)
    have e2:=g2 k (by omega)
    have e3:=g3 k (by omega)
    have e5:=g5 k (by omega)
    simp only[List.nil_append,List.length_nil] at e1 e2 e3 e5
    simp only[impl_PutIn.f,e1,Option.bind_some,e2,e3]
    rw[if_neg c]
    have hn:∀y∈p.f2,y.f0≠fingerOf a.f0:=by
      intro y hy he
      refine c ((place_ge (fun c:S80=>decide (c.f0=fingerOf a.f0)) p.f2 0).2 ?_)
      exact List.any_eq_true.2 ⟨y,hy,decide_eq_true he⟩
    have hc:firstNot (fun c:S80=>decide (c.f0≤fingerOf a.f0)) p.f2=firstNot (fun c:S80=>decide (c.f0<fingerOf a.f0)) p.f2:=
      firstNot_congr _ _ p.f2 (fun y hy=>decide_eq_decide.2 ⟨fun h9=>by have:=hn y hy;omega,fun h9=>by omega⟩)
    unfold putIn
    rw[if_neg c,←hc]
    simpa using e5
theorem specPutIn_ev (p:S26) (a:S29) (h:WiPart p) (ha:WiAlarm a):Ev (fun k=>spec_PutIn.f k p.f0 p.f1 p.f2 a.f0 a.f1 a.f2 a.f3) ((putIn p a).1.f0,(putIn p a).1.f1,(putIn p a).1.f2,(putIn p a).2):=by
  have hl:=h.2.2.1
  have ho:a.f0.length≤5000000:=Nat.le_trans ha.1.1 (by decide)
  have hlt:=chainAt_end p.f2 (fingerOf a.f0)
  obtain⟨K1,g1⟩:=specCopyPart_ev p h
  obtain⟨K2,g2⟩:=specFinger_ev a.f0 ha.1
  obtain⟨K3,g3⟩:=specL7At_ev p (fingerOf a.f0) (by omega)
  obtain⟨K5,g5⟩:=specPut_l0 (fingerOf a.f0) a p.f0 p.f1 p.f0 (wrap64 (p.f1+1)) ho p.f2 [] (by simp;omega)
  by_cases c:chainAt p.f2 (fingerOf a.f0)≥0
  · obtain⟨K4,g4⟩:=specPutChain_ev (p.f2.getD (chainAt p.f2 (fingerOf a.f0)).toNat z80) a (getD_wi h.2.2.2 c (hlt c)) ha
    refine⟨K1+K2+K3+K4,fun k hk=>?_⟩
    have e1:=g1 k (by omega)
    have e2:=g2 k (by omega)
    have e3:=g3 k (by omega)
    have e4:=g4 k (by omega)
    simp only at e1 e2 e3 e4
    simp only[spec_PutIn.f,e1,Option.bind_some,e2,e3]
    rw[if_pos c,if_pos c,if_pos (hlt c)]
    unfold rd_T80
    rw[e4]
    simp only[Option.bind_some]
    rw[if_pos (hlt c)]
    unfold putIn
    rw[if_pos c]
  · refine⟨K1+K2+K3+K5,fun k hk=>?_⟩
    have e1:=g1 k (by omega)
    have e2:=g2 k (by omega)
    have e3:=g3 k (by omega)
    have e5:=g5 k (by omega)
    simp only[List.nil_append,List.length_nil] at e1 e2 e3 e5
    simp only[spec_PutIn.f,e1,Option.bind_some,e2,e3]
    rw[if_neg c]
    unfold putIn
    rw[if_neg c]
    simpa using e5
theorem putChain_wi {c:S80} {a:S29} (hc:c.f1.length≤1048576) (h:WiChain c) (ha:WiAlarm a):WiChain (putChain c a).1:=by
  unfold putChain
  split
  · refine⟨trivial,by show (List.set _ _ _).length≤4000000;rw[List.length_set];omega,fun y hy=>?_⟩
    rcases List.mem_or_eq_of_mem_set hy with hy|rfl
    · exact h.2.2 y hy
    · exact mergeA_wi ha
  · refine⟨trivial,by show (_++[_]).length≤4000000;rw[List.length_append,List.length_singleton];omega,fun y hy=>?_⟩
    rcases List.mem_append.1 hy with hy|hy
    · exact h.2.2 y hy
    · rw[List.mem_singleton.1 hy];exact ha
theorem putIn_wi {p:S26} {a:S29} (hl:p.f2.length≤1048576) (hc:∀y∈p.f2,y.f1.length≤1048576) (h:WiPart p) (ha:WiAlarm a):WiPart (putIn p a).1:=by
  have hlt:=chainAt_end p.f2 (fingerOf a.f0)
  unfold putIn
  by_cases c:chainAt p.f2 (fingerOf a.f0)≥0
  · rw[if_pos c]
    refine⟨trivial,trivial,by show (List.set _ _ _).length≤4000000;rw[List.length_set];omega,fun y hy=>?_⟩
    rcases List.mem_or_eq_of_mem_set hy with hy|rfl
    · exact h.2.2.2 y hy
    · have hm:=getD_mem p.f2 (chainAt p.f2 (fingerOf a.f0)).toNat z80 (by have:=hlt c;omega)
      exact putChain_wi (hc _ hm) (h.2.2.2 _ hm) ha
  · rw[if_neg c]
    refine⟨trivial,trivial,by show (insC _ _ _ _).length≤4000000;rw[insC_length];omega,fun y hy=>?_⟩
    rcases insC_mem hy with hy|rfl
    · exact h.2.2.2 y hy
    · refine⟨trivial,by show (1:Nat)≤4000000;decide,fun z hz=>?_⟩
      rw[List.mem_singleton.1 hz];exact ha
theorem implCopyStore_l0:∀(suf pre acc:List S26),(pre++suf).length≤5000000→acc.length=pre.length→(∀y∈suf,WiPart y) →
    Ev (fun k=>impl_copyStore.l0 k acc (pre++suf) ((pre++suf).length:Int) (pre.length:Int)) (acc++suf)
  | [],pre,acc,h,hl,hW=>by
    refine Ev.step (f:=fun _=>some (acc++([]:List S26))) (fun k=>?_) (Ev.now _)
    simp only[impl_copyStore.l0]
    rw[if_neg (by simp)]
    simp
  | y::suf,pre,acc,h,hl,hW=>by
    obtain⟨K,g⟩:=implCopyStore_l0 suf (pre++[y]) (acc++[y]) (by simpa using h) (by simp[hl]) (fun z hz=>hW z (List.mem_cons_of_mem _ hz))
    obtain⟨K2,g2⟩:=implCopyPart_ev y (hW y List.mem_cons_self)
    have hp:pre.length<5000000:=by simp at h;omega
    refine⟨K+K2+1,fun k hk=>?_⟩
    obtain⟨k,rfl⟩:∃m,k=m+1:=⟨k-1,by omega⟩
    have e:=g k (by omega)
    have e2:=g2 k (by omega)
    simp only at e e2
    rw[←mid_assoc pre suf y] at e
    simp only[impl_copyStore.l0]
    rw[if_pos (lt_mid pre suf y)]
    simp only[nn,if_true,rdmmPart,wrap_up pre.length (by omega)]
    rw[if_pos (lt_mid pre suf y),e2]
    simp only[Option.bind_some]
    rw[if_pos (by omega),show ((pre.length+1:Nat):Int)=((pre++[y]).length:Int) by simp,e]
    simp
theorem implCopyStore_ev (l:List S26) (h:l.length≤4000000∧∀y∈l,WiPart y):Ev (fun k=>impl_copyStore.f k l) l:=
  Ev.congr (fun k=>by unfold impl_copyStore.f;rfl) (by simpa using implCopyStore_l0 l [] [] (by have:=h.1;simp;omega) rfl h.2)
theorem specCopyStore_l0:∀(suf pre acc:List S26),(pre++suf).length≤5000000→acc.length=pre.length→(∀y∈suf,WiPart y) →
    Ev (fun k=>spec_l8Copy.l0 k (pre++suf) acc (pre.length:Int)) (acc++suf)
  | [],pre,acc,h,hl,hW=>by
    refine Ev.step (f:=fun _=>some (acc++([]:List S26))) (fun k=>?_) (Ev.now _)
    simp only[spec_l8Copy.l0]
    rw[if_neg (not_lt_end pre)]
    simp
  | y::suf,pre,acc,h,hl,hW=>by
    obtain⟨K,g⟩:=specCopyStore_l0 suf (pre++[y]) (acc++[y]) (by simpa using h) (by simp[hl]) (fun z hz=>hW z (List.mem_cons_of_mem _ hz))
    obtain⟨K2,g2⟩:=specCopyPart_ev y (hW y List.mem_cons_self)
    have hp:pre.length<5000000:=by simp at h;omega
    refine⟨K+K2+1,fun k hk=>?_⟩
    obtain⟨k,rfl⟩:∃m,k=m+1:=⟨k-1,by omega⟩
    have e:=g k (by omega)
    have e2:=g2 k (by omega)
    simp only at e e2
    rw[←mid_assoc pre suf y] at e
    simp only[spec_l8Copy.l0]
    rw[if_pos (lt_mid pre suf y)]
    simp only[nn,if_true,rdmmPart,wrap_up pre.length (by omega)]
    rw[e2]
    simp only[Option.bind_some]
    rw[if_pos (by omega),show ((pre.length+1:Nat):Int)=((pre++[y]).length:Int) by simp,e]
    simp
theorem specCopyStore_ev (l:List S26) (h:l.length≤4000000∧∀y∈l,WiPart y):Ev (fun k=>spec_l8Copy.f k l) l:=
  Ev.congr (fun k=>by unfold spec_l8Copy.f;rfl) (by simpa using specCopyStore_l0 l [] [] (by have:=h.1;simp;omega) rfl h.2)
def putAlarm (l:List S26) (a:S29):List S26×Bool:=
  if (l.length:Int)=0 then (l,false) else (l.set (homeOf l a.f0).toNat (putIn (l.getD (homeOf l a.f0).toNat z26) a).1,(putIn (l.getD (homeOf l a.f0).toNat z26) a).2)
theorem homeOf_range (l:List S26) (s:List S99) (c:¬(l.length:Int)=0):0≤homeOf l s∧homeOf l s<(l.length:Int):=partOf_range _ l.length (by omega)
theorem implPutAlarm_ev (l:List S26) (a:S29) (h:l.length≤4000000∧∀y∈l,WiPart y) (ha:WiAlarm a):Ev (fun k=>impl_PutAlarm.f k l a.f0 a.f1 a.f2 a.f3) (putAlarm l a):=by
  obtain⟨K1,g1⟩:=implCopyStore_ev l h
  by_cases c:(l.length:Int)=0
  · refine⟨K1,fun k hk=>?_⟩
    have e1:=g1 k (by omega)
    simp only at e1
    simp only[impl_PutAlarm.f,e1,Option.bind_some]
    unfold putAlarm
    rw[if_pos c,if_pos c]
  · obtain⟨r0,r1⟩:=homeOf_range l a.f0 c
    obtain⟨K2,g2⟩:=implHomeOf_ev l a.f0 ha.1
    obtain⟨K3,g3⟩:=implPutIn_ev (l.getD (homeOf l a.f0).toNat z26) a (h.2 _ (getD_mem l _ z26 (by omega))) ha
    refine⟨K1+K2+K3,fun k hk=>?_⟩
    have e1:=g1 k (by omega)
    have e2:=g2 k (by omega)
    have e3:=g3 k (by omega)
    simp only at e1 e2 e3
    simp only[impl_PutAlarm.f,e1,e2,Option.bind_some]
    rw[if_neg c,if_pos r0,if_pos r1]
    unfold rd_T26
    rw[e3]
    simp only[Option.bind_some]
    rw[if_pos r1]
    unfold putAlarm
    rw[if_neg c]
theorem specPutAlarm_ev (l:List S26) (a:S29) (h:l.length≤4000000∧∀y∈l,WiPart y) (ha:WiAlarm a):Ev (fun k=>spec_PutAlarm.f k l a.f0 a.f1 a.f2 a.f3) (putAlarm l a):=by
  obtain⟨K1,g1⟩:=specCopyStore_ev l h
  by_cases c:(l.length:Int)=0
  · refine⟨K1,fun k hk=>?_⟩
    have e1:=g1 k (by omega)
    simp only at e1
    simp only[spec_PutAlarm.f,e1,Option.bind_some]
    unfold putAlarm
    rw[if_pos c,if_pos c]
  · obtain⟨r0,r1⟩:=homeOf_range l a.f0 c
    obtain⟨K2,g2⟩:=specHomeOf_ev l a.f0 ha.1
    obtain⟨K3,g3⟩:=specPutIn_ev (l.getD (homeOf l a.f0).toNat z26) a (h.2 _ (getD_mem l _ z26 (by omega))) ha
    refine⟨K1+K2+K3,fun k hk=>?_⟩
    have e1:=g1 k (by omega)
    have e2:=g2 k (by omega)
    have e3:=g3 k (by omega)
    simp only at e1 e2 e3
    simp only[spec_PutAlarm.f,e1,e2,Option.bind_some]
    rw[if_neg c,if_pos r0,if_pos r1]
    unfold rd_T26
    rw[e3]
    simp only[Option.bind_some]
    rw[if_pos r1]
    unfold putAlarm
    rw[if_neg c]
theorem putAlarm_wi {l:List S26} {a:S29} (hp:∀p∈l,p.f2.length≤1048576∧∀y∈p.f2,y.f1.length≤1048576) (h:l.length≤4000000∧∀y∈l,WiPart y) (ha:WiAlarm a):(putAlarm l a).1.length≤4000000∧∀y∈(putAlarm l a).1,WiPart y:=by
  unfold putAlarm
  by_cases c:(l.length:Int)=0
  · rw[if_pos c];exact h
  · rw[if_neg c]
    obtain⟨r0,r1⟩:=homeOf_range l a.f0 c
    refine⟨by show (List.set _ _ _).length≤_;rw[List.length_set];exact h.1,fun y hy=>?_⟩
    rcases List.mem_or_eq_of_mem_set hy with hy|rfl
    · exact h.2 y hy
    · have hm:=getD_mem l (homeOf l a.f0).toNat z26 (by omega)
      exact putIn_wi (hp _ hm).1 (hp _ hm).2 (h.2 _ hm) ha
end Go.Proofs.YtanfohlpkppeiaaGreat.Print
end
