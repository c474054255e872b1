import Derived.Test.YtanfohlpkppeiaaGreatMFnStoresBent1
import Derived.Test.YtanfohlpkppeiaaGreatMFnStoresBent3
import Derived.Test.YtanfohlpkppeiaaGreatMFnStoresBent2
section
namespace Go.Proofs.YtanfohlpkppeiaaGreat.Print
open Go.RowKit Go.Proofs.YtanfohlpkppeiaaGreatV.PrintWords Go.Proofs.YtanfohlpkppeiaaGreatV.PrintLast Go.Proofs.YtanfohlpkppeiaaGreatV.PrintMore
attribute [local go_sem] max2_int min2_int max_two min_two max_three min_three max_four min_four
set_option linter.unusedVariables false
set_option linter.unusedSimpArgs false
set_option maxHeartbeats 80000000
set_option maxRecDepth 100000
mutual
def spec_l6Draw.l0:Nat→Int→List Int→Int→Int→List S99→Int→Int→ByteArray→Int→List S29→Option (Int×(List S29)×Int×Int)
 | 0,_,_,_,_,_,_,_,_,_,_=>none
 | k+1,m,j,h,i,c,d,e,g,a,b=>if m≥0 then ((spec_Finger.f k c).bind fun l=>(if l=a then (spec_l6Draw.j1 k m (decide ((b.length:Int)<4)) j h i c d e g a b) else (spec_l6Draw.j1 k m false j h i c d e g a b))) else (some (a,b,h,i))
def spec_l6Draw.j1:Nat→Int→Bool→List Int→Int→Int→List S99→Int→Int→ByteArray→Int→List S29→Option (Int×(List S29)×Int×Int)
 | 0,_,_,_,_,_,_,_,_,_,_,_=>none
 | k+1,p,o,c,g,h,i,j,l,m,d,e=>if o=true then ((spec_PutChain.f k d e i j l m).bind fun n=>((spec_l4Draw.f k c g h).bind fun a=>(spec_l6Draw.l0 k (wrap64 (p-1)) c a.2.2.2.2.1 a.2.2.2.2.2 a.1 a.2.1 a.2.2.1 a.2.2.2.1 n.1 n.2.1))) else ((spec_l4Draw.f k c g h).bind fun b=>(spec_l6Draw.l0 k (wrap64 (p-1)) c b.2.2.2.2.1 b.2.2.2.2.2 b.1 b.2.1 b.2.2.1 b.2.2.2.1 d e))
end
def spec_l6Draw.f (k:Nat) (c:List Int) (d:Int) (e:Int):Option (Int×(List S29)×Int×Int):=(spec_l4Draw.f k c d e).bind fun a=>((spec_Finger.f k a.1).bind fun g=>((spec_l1Below.f c a.2.2.2.2.1 a.2.2.2.2.2 30).bind fun b=>(spec_l6Draw.l0 k b.1 c b.2.1 b.2.2 a.1 a.2.1 a.2.2.1 a.2.2.2.1 g ([]:List S29))))
def spec_l6Draw.T6:Bool×List (List Nat×List Nat):=(true,[([],[]),([0],[0]),([1],[1]),([],[]),([3],[3]),([2,4],[2,4]),([5,2],[5]),([6],[6]),([7,6],[6,7]),([8,6],[6,8]),([9,6],[6,9]),([6,10],[6,10])])
def spec_l6Draw.B6:List Nat:=[0,1,3,0,8,31,63,127,255,511,1023,2047]
theorem spec_l6Draw.tab6:rtab .any (opsOf Tryz.f114 6)=spec_l6Draw.T6:=by kernel_rfl
theorem spec_l6Draw.bits6:waitsOk spec_l6Draw.T6.2 spec_l6Draw.B6=true:=by kernel_rfl
theorem spec_l6Draw.calls (k:Nat) (g:Nat) (C:List Int) (ia:Int) (ja:Int) (r1:Int) (r2:List S29) (r3:Int) (r4:Int) (W w:World) (hI:IsS102 W w g C ia ja) (hB:Below W.heap.size W w) (h:spec_l6Draw.f k C ia ja=some (r1,r2,r3,r4)) :
  Calls Tryz.prog 114 #[.pointer (some ⟨g,0,none⟩)] w fun e w'=>∃v1_:Value,e=.returned (.agg #[.int .i64 r1,v1_])∧Kd.S k29 29 w' w.heap.size (fun _=>True) v1_ r2∧IsS102 W w' g C r3 r4∧Below W.heap.size W w'∧KeepBut w w' g none:=by
 have hu80:=Tryz.underlying80
 have hu29:=Tryz.underlying29
 have o:=M_ hI
 have HK:=M_ (KeepBut.refl w g none)
 have HL:=M_ hB.size
 clear hI
 have Xa:=M_ hB.size
 have D:=M_ hB
 clear hB
 unfold spec_l6Draw.f at h
 have H:=h;clear h
 replace H:=bi_ H;obtain⟨⟨L,X,Y,Z,ka,la⟩,A2,H⟩:=H;(try dsimp only at H)
 replace H:=bi_ H;obtain⟨ma,A3,H⟩:=H
 replace H:=bi_ H;obtain⟨⟨za,Aa,Ba⟩,A4,H⟩:=H;(try dsimp only at H)
 have H':=M_ H
 clear H
 go_enter Tryz.func114,Tryz.ntmps114
 go_wp2_with (first|((with_reducible refine gd_ 2 rfl ?_);refine bV_ 2 #[.int .i64 0,.slice none 0 0] 80 ?_;intro T hg w5 j hb;replace D:=st_ D hb;have Ya:=Ge_.mk ((by rw[hg];exact(ks_ HK):w.heap.size≤T));replace HK:=kt_ HK hb;have Ab:=gt_ Xa Ya;have na:=IsS102.nl_ o hg;replace o:=IsS102.bk_ o hb;have oa:=ns_ na;clear hb hg)|((with_reducible refine gate_callee (f:=52) rfl ?_);refine gl_ (some 7) Tryz.func52 #[.pointer (some ⟨g,0,none⟩)] ?_;(with_reducible refine(spec_l4Draw.calls k g C ia ja L X Y Z ka la W _ ?_ ?_ A2.1).mono ?_);exact IsS102.pk_ o.1;exact hs_ D.1;rintro e w6 ⟨cd,rfl,E,hi,hb,hk⟩;refine⟨_,rfl,?_⟩;replace j:=kb_ hk j;have v:=rl_ E HK;replace HK:=kh_ HK hk;replace D:=M_ (hb);replace o:=M_ (hi);(try clear hb hk hi E))|((with_reducible refine gd_ 3 rfl ?_);refine bV_ 3 #[.slice none 0 0,.int .i64 0,.int .i64 0,.string (⟨#[]⟩:ByteArray)] 29 ?_;intro t hg w7 d hb;obtain⟨v,D⟩:=u2_ hb v D;have Za:=Ge_.mk ((by rw[hg];exact(ks_ HK):w.heap.size≤t));replace HK:=kt_ HK hb;have Bb:=gt_ Xa Za;obtain⟨ba,F,j⟩:=nb_ j hg hb;have pa:=IsS102.nl_ o hg;replace o:=IsS102.bk_ o hb;have N:=ns_ pa;clear hb hg;obtain⟨qa,ea,Cb⟩:=Kd.R_slice v.1;subst Cb;have dd:=n2_ F;have Db:=n2_ N;obtain⟨Eb,Fb,Gb,Hb,Ib,Jb,Kb,Lb⟩:=bc4_ d.1)|((with_reducible refine gate_callee (f:=60) rfl ?_);refine gl_ (some 10) Tryz.func60 #[.slice qa L.length ea] ?_;(with_reducible refine(spec_Finger.calls k _ _ L ma _ ?side1 ?side2 A3.1).mono ?_);(case side1=>refine(Kd.R_reads' (e:=99) (base:=w.heap.size) (ok:=fun k_=>True) (n:=L.length) (c:=ea) ?_).2.2;exact(ry_ v.1 d.1));(case side2=>exact(Kd.R_reads' v.1).2.1);rintro e od ⟨rfl,hb⟩;refine⟨_,rfl,?_⟩;replace v:=M_ (Kd.R_below (ry_ v.1 d.1) hb);replace o:=M_ (IsS102.below (show IsS102 W ((((w7.setCell ⟨t,0,none⟩ (.slice qa L.length ea)).setCell ⟨t,1,none⟩ (.int .i64 X)).setCell ⟨t,2,none⟩ (.int .i64 Y)).setCell ⟨t,3,none⟩ (.string Z)) g C ka la from IsS102.pk_ o.1) hb);replace j:=bk2_ j hb;replace d:=by_ d #[.slice qa L.length ea,.int .i64 X,.int .i64 Y,.string Z] hb;replace HK:=kt_ HK hb;replace D:=st_ D hb;(try clear hb))|((with_reducible refine gd_ 4 rfl ?_);refine bV_ 4 #[.int .i64 0,.slice none 0 0] 80 ?_;intro G hg pd i hb;obtain⟨v,D⟩:=u2_ hb v D;have ab:=Ge_.mk ((by rw[hg];exact(ks_ HK):w.heap.size≤G));replace HK:=kt_ HK hb;have Mb:=gt_ Xa ab;obtain⟨bb,I,j⟩:=nb_ j hg hb;obtain⟨ca,J,d⟩:=nb_ d hg hb;have ra:=IsS102.nl_ o hg;replace o:=IsS102.bk_ o hb;have O:=ns_ ra;clear hb hg;have Nb:=n2_ I;have Ob:=n2_ J;have Pb:=n2_ O;obtain⟨Qb,Rb,Sb,Tb⟩:=bc2_ i.1)|((with_reducible refine gate_callee (f:=69) rfl ?_);refine gl_ (some 13) Tryz.func69 #[.pointer (some ⟨g,0,none⟩),.int .i64 30] ?_;(with_reducible refine(spec_l1Below.calls g C ka la 30 za Aa Ba W _ ?_ ?_ A4.1).mono ?_);exact IsS102.pk_ o.1;exact hs_ D.1;rintro e qd ⟨rfl,hi,hb,hk⟩;refine⟨_,rfl,?_⟩;replace j:=kc_ hk j #[.int .i64 0,.slice none 0 0];replace v:=M_ (Kd.R_mono (Kd.R_keep (IsS102.apart (IsS102.pk_ o.1) (ry_ v.1 i.1) (by decide)) hk (fun _ h=>h.2)) (fun _ h=>h.1));replace d:=kc_ hk d #[.slice qa L.length ea,.int .i64 X,.int .i64 Y,.string Z];replace i:=kc_ hk i #[.int .i64 ma,.slice none 0 0];replace HK:=kh_ HK hk;replace D:=M_ (hb);replace o:=M_ (hi);(try clear hb hk hi)))
 go_loopg [5] k (fun kq v5 w'=>∃(M:Int) (x:Int) (y:Int) (m:List S99) (p:Int) (q:Int) (r:ByteArray) (l:Int) (s:List S29) (z:Value) (u:Value),v5=.int .i64 M∧Aside0 (spec_l6Draw.l0 kq M C x y m p q r l s=some (r1,r2,r3,r4))∧Aside0 (kq≤k)∧Aside0 (Kd.R k99 99 w' w.heap.size (fun _=>True) z m)∧Aside0 (Kd.S k29 29 w' w.heap.size (fun k_=>some k_≠(z:Value).ownBlock∧k_≠t) u s)∧Aside0 (w'.heap[T]?=some (.cells #[.int .i64 0,(.slice none 0 0)] 80 (0,0)))∧Aside0 (w'.heap[t]?=some (.cells #[z,.int .i64 p,.int .i64 q,.string r] 29 (0,0)))∧Aside0 (w'.heap[G]?=some (.cells #[.int .i64 l,u] 80 (0,0)))∧Aside0 (IsS102 W w' g C x y)∧Aside0 (KeepBut w w' g none)∧Aside0 (Below W.heap.size W w'))
 case atStart=>exact⟨(za),(Aa),(Ba),(L),(X),(Y),(Z),(ma),(([]:List S29)),(.slice qa L.length ea),(.slice none 0 0),rs_,H',⟨Nat.le_refl _⟩,⟨rp_ v.1⟩,⟨ni_⟩,⟨bq_ j.1⟩,⟨bq_ d.1⟩,⟨bq_ i.1⟩,⟨IsS102.pk_ o.1⟩,⟨ku_ HK.1⟩,⟨hs_ D.1⟩⟩
 case round=>
  clear H'
  obtain⟨M,x,y,m,p,q,r,l,s,z,u,rfl,HA,fa,a,b,j,d,i,o,HK,D⟩:=hrel
  cases gk with
  | zero=>exact absurd HA.1 (by simp[spec_l6Draw.l0])
  | succ k1=>
   have H:=HA.1
   clear HA
   simp only[spec_l6Draw.l0] at H
   replace H:=ie_ H;rcases H with⟨sa,H⟩|⟨sa,H⟩
   ·
    have db:decide (0≤M)=true:=decide_eq_true sa
    clear sa
    have ta:=M_ H
    clear H
    go_upto_region 6 with(fail)
    go_cut [29] (fun Vb wc=>∃(kq:Nat) (U:Bool),Vb=.bool U∧Aside0 (spec_l6Draw.j1 kq M U C x y m p q r l s=some (r1,r2,r3,r4))∧Aside0 (kq≤k1)∧Aside0 (Kd.R k99 99 wc w.heap.size (fun _=>True) z m)∧Aside0 (Kd.S k29 29 wc w.heap.size (fun k_=>some k_≠(z:Value).ownBlock∧k_≠t) u s)∧Aside0 (wc.heap[T]?=some (.cells #[.int .i64 0,(.slice none 0 0)] 80 (0,0)))∧Aside0 (wc.heap[t]?=some (.cells #[z,.int .i64 p,.int .i64 q,.string r] 29 (0,0)))∧Aside0 (wc.heap[G]?=some (.cells #[.int .i64 l,u] 80 (0,0)))∧Aside0 (IsS102 W wc g C x y)∧Aside0 (KeepBut w wc g none)∧Aside0 (Below W.heap.size W wc))
    case first=>
     have H:=ta.1
     clear ta
     replace H:=bi_ H;obtain⟨Q,fb,H⟩:=H
     replace H:=ie_ H;rcases H with⟨ga,H⟩|⟨ga,H⟩
     ·
      have P:(Q==l)=true:=beq_iff_eq.mpr ga
      have eb:(Q !=l)=false:=bne_eq_false_iff_eq.mpr ga
      clear ga
      (first|rw[P]|(simp only[i64_w,i32_w];rw[P])|skip)
      have H':=M_ H
      clear H
      try go_wp2
      obtain⟨a,b,j,d,i⟩:=y5_ a b j d i
      replace o:=M_ (IsS102.drew o.1)
      replace HK:=M_ (keep_drew HK.1)
      replace D:=db_ D
      obtain⟨Ca,Da,Ea⟩:=Kd.R_slice a.1
      (first|subst Ea|(obtain⟨rfl,rfl⟩:=si_ Ea))
      refine start_ (n:=12) (S:=fun w'=>c_ w' t 0 (.slice Ca m.length Da)∧c_ w' t 1 (.int .i64 p)∧c_ w' t 2 (.int .i64 q)∧c_ w' t 3 (.string r)∧c_ w' G 0 (.int .i64 l)∧c_ w' G 1 (u)) (ds:=[]) (b_ 0 12) (by kernel_rfl) rfl rfl (f4_ d.1 (e2_ i.1)) (fun A=>?_);refine with_tabW spec_l6Draw.tab6 spec_l6Draw.bits6 (fun B ha=>?_)
      generalize wr.drew=sd at a b j d i o HK D A ⊢
      refine p_ B ?_
      refine qw_ 3 (m_ 12 9) B ?_
      refine qt_ 1 (m_ 12 11) B ha A ?_
      refine qt_ 4 (m_ 12 27) B ha A ?_
      refine o1_ 2 (b_ 5 7) B (fun K hK=>?_)
      refine gs_ Tryz.func60 #[.slice Ca m.length Da] ?_
      with_reducible refine(spec_Finger.calls k1 _ _ m Q _ ?_ ?_ fb.1).mono ?_
      exact cp_ ((Kd.R_reads' a.1).2.2)
      exact(Kd.R_reads' a.1).2.1
      rintro e td ⟨rfl,hb⟩
      refine⟨_,rfl,?_⟩
      obtain⟨a,b,j,d,i⟩:=u5_ hb a b j d i
      replace o:=IsS102.bk_ o hb
      replace HK:=kt_ HK hb
      replace D:=st_ D hb
      (try clear hb)
      obtain⟨ed,fd,Fa⟩:=Kd.S_slice b.1
      (first|subst Fa|(obtain⟨rfl,rfl⟩:=si_ Fa))
      refine ho_ hK (f4_ d.1 (e2_ i.1)) (fun A=>?_)
      iterate 3 refine p_ B ?_
      refine t0_ B ha A ?_
      iterate 3 refine p_ B ?_
      refine done_ (done_of B.1 (by kernel_rfl)) ?_
      try go_wp2
      go_meet
      case rel=>exact⟨_,(decide ((s.length:Int)<4)),rs_,H',⟨by have:=fa.1;first|omega|exact Nat.le_refl _⟩,⟨rp_ a.1⟩,⟨sp_ b.1⟩,⟨bq_ j.1⟩,⟨bq_ d.1⟩,⟨bq_ i.1⟩,⟨IsS102.pk_ o.1⟩,⟨ku_ HK.1⟩,⟨hs_ D.1⟩⟩
     have P:(Q==l)=false:=beq_eq_false_iff_ne.mpr ga
     have eb:(Q !=l)=true:=bne_iff_ne.mpr ga
     (first|rw[P]|(simp only[i64_w,i32_w];rw[P])|skip)
     have H':=M_ H
     clear H
     try go_wp2
     obtain⟨a,b,j,d,i⟩:=y5_ a b j d i
     replace o:=M_ (IsS102.drew o.1)
     replace HK:=M_ (keep_drew HK.1)
     replace D:=db_ D
     obtain⟨Ga,Ha,Ia⟩:=Kd.R_slice a.1
     (first|subst Ia|(obtain⟨rfl,rfl⟩:=si_ Ia))
     refine start_ (n:=12) (S:=fun w'=>c_ w' t 0 (.slice Ga m.length Ha)∧c_ w' t 1 (.int .i64 p)∧c_ w' t 2 (.int .i64 q)∧c_ w' t 3 (.string r)∧c_ w' G 0 (.int .i64 l)∧c_ w' G 1 (u)) (ds:=[]) (b_ 0 12) (by kernel_rfl) rfl rfl (f4_ d.1 (e2_ i.1)) (fun A=>?_);refine with_tabW spec_l6Draw.tab6 spec_l6Draw.bits6 (fun B ha=>?_)
     generalize wr.drew=ud at a b j d i o HK D A ⊢
     refine p_ B ?_
     refine qw_ 3 (m_ 12 9) B ?_
     refine qt_ 1 (m_ 12 11) B ha A ?_
     refine qt_ 4 (m_ 12 27) B ha A ?_
     refine o1_ 2 (b_ 5 7) B (fun K hK=>?_)
     refine gs_ Tryz.func60 #[.slice Ga m.length Ha] ?_
     with_reducible refine(spec_Finger.calls k1 _ _ m Q _ ?_ ?_ fb.1).mono ?_
     exact cp_ ((Kd.R_reads' a.1).2.2)
     exact(Kd.R_reads' a.1).2.1
     rintro e vd ⟨rfl,hb⟩
     refine⟨_,rfl,?_⟩
     obtain⟨a,b,j,d,i⟩:=u5_ hb a b j d i
     replace o:=IsS102.bk_ o hb
     replace HK:=kt_ HK hb
     replace D:=st_ D hb
     (try clear hb)
     refine ho_ hK (f4_ d.1 (e2_ i.1)) (fun A=>?_)
     iterate 2 refine p_ B ?_
     iterate 4 refine v_ B ?_
     refine p_ B ?_
     refine done_ (done_of B.1 (by kernel_rfl)) ?_
     try go_wp2
     go_meet
     case rel=>exact⟨_,(false),rs_,H',⟨by have:=fa.1;first|omega|exact Nat.le_refl _⟩,⟨rp_ a.1⟩,⟨sp_ b.1⟩,⟨bq_ j.1⟩,⟨bq_ d.1⟩,⟨bq_ i.1⟩,⟨IsS102.pk_ o.1⟩,⟨ku_ HK.1⟩,⟨hs_ D.1⟩⟩
    case rest=>
     clear ta
     obtain⟨kq,U,rfl,HA,HJ19,a,b,j,d,i,o,HK,D⟩:=hcut
     cases kq with
     | zero=>exact absurd HA.1 (by simp[spec_l6Draw.j1])
     | succ aa=>
      have H:=HA.1
      clear HA
      simp only[spec_l6Draw.j1] at H
      replace H:=ib_ H;rcases H with⟨rfl,H⟩|⟨rfl,H⟩
      ·
       replace H:=bi_ H;obtain⟨⟨ua,da,gb⟩,Xb,H⟩:=H;(try dsimp only at H)
       replace H:=bi_ H;obtain⟨⟨va,Ja,Ka,La,Ma,Na⟩,Yb,H⟩:=H;(try dsimp only at H)
       have H':=M_ H
       clear H
       have Zb:=n2_ I
       have ac:=n2_ J
       have bc:=n2_ O
       obtain⟨cc,dc,ec,fc⟩:=bc2_ i.1
       have gc:=n2_ F
       have hc:=n2_ N
       obtain⟨ic,jc,kc,lc,mc,nc,oc,pc⟩:=bc4_ d.1
       obtain⟨ib,jb,kb⟩:=Kd.S_slice b.1
       subst kb
       obtain⟨Oa,Pa,lb⟩:=Kd.R_slice a.1
       subst lb
       go_wp2_with (first|((with_reducible refine gate_callee (f:=62) rfl ?_);refine gl_ (some 33) Tryz.func62 #[.agg #[.int .i64 l,.slice ib s.length jb],.agg #[.slice Oa m.length Pa,.int .i64 p,.int .i64 q,.string r]] ?_;(with_reducible refine(spec_PutChain.calls aa l _ _ s _ _ m p q r ua da gb _ ?_ ?_ ?_ ?_ Xb.1).mono ?_);exact cp_ ((Kd.S_reads' b.1).2.2);exact(Kd.S_reads' b.1).2.1;exact cp_ ((Kd.R_reads' a.1).2.2);exact(Kd.R_reads' a.1).2.1;rintro e wd ⟨gd,rfl,E,hb⟩;refine⟨_,rfl,?_⟩;have V:=M_ (Kd.S_lower (Kd.S_newB (Kd.S_new' (Kd.S_new' E (Kd.R_lt (rp_ a.1))) (Kd.S_lt (sp_ b.1))) (pb_ d.1)) (ks_ HK));replace a:=rb_ a hb;replace b:=M_ (Kd.S_elder' (sp_ b.1) (Kd.S_base E) hb);obtain⟨j,d,i⟩:=u3_ hb j d i;replace o:=IsS102.bk_ o hb;replace HK:=kt_ HK hb;replace D:=st_ D hb;(try clear hb E);obtain⟨qc,rc,sc,tc⟩:=bc2_ i.1;obtain⟨Qa,Ra,mb⟩:=Kd.S_slice V.1;subst mb)|((with_reducible refine gate_callee (f:=52) rfl ?_);refine gl_ (some 37) Tryz.func52 #[.pointer (some ⟨g,0,none⟩)] ?_;(with_reducible refine(spec_l4Draw.calls aa g C x y va Ja Ka La Ma Na W _ ?_ ?_ Yb.1).mono ?_);exact IsS102.pk_ o.1;exact hs_ D.1;rintro e xd ⟨hd,rfl,E,hi,hb,hk⟩;refine⟨_,rfl,?_⟩;replace b:=M_ (Kd.S_mono (Kd.S_told (Kd.S_oldK (IsS102.apartS (IsS102.pk_ o.1) (sy_ b.1 i.1) (by decide)) hk) (Kd.R_base E)) (fun _ h_=>h_.1));replace j:=kc_ hk j #[.int .i64 0,.slice none 0 0];replace d:=kc_ hk d #[.slice Oa m.length Pa,.int .i64 p,.int .i64 q,.string r];replace V:=M_ (Kd.S_mono (Kd.S_told (Kd.S_oldK (IsS102.apartS (IsS102.pk_ o.1) (sy_ V.1 i.1) (by decide)) hk) (Kd.R_base E)) (fun _ h_=>h_.1));have wa:=M_ (Kd.R_lower (Kd.R_new' E (Kd.R_lt (ry_ a.1 i.1))) (ks_ HK));replace a:=M_ (Kd.R_mono (Kd.R_told (Kd.R_oldK (IsS102.apart (IsS102.pk_ o.1) (ry_ a.1 i.1) (by decide)) hk) (Kd.R_base E)) (fun _ h_=>h_.1));replace i:=kc_ hk i #[.int .i64 ua,.slice Qa da.length Ra];replace HK:=kh_ HK hk;replace D:=M_ (hb);replace o:=M_ (hi);(try clear hb hk hi E);obtain⟨nb,ob,pb⟩:=Kd.R_slice wa.1;subst pb;obtain⟨uc,vc,xc,yc,zc,Ac,Bc,Cc⟩:=bc4_ d.1))
       go_roundg aa
       case measure=>have:=fa.1;have:=HJ19.1;omega
       case rel=>exact⟨(wrap64 (M-1)),(Ma),(Na),(va),(Ja),(Ka),(La),(ua),(da),(.slice nb va.length ob),(.slice Qa da.length Ra),rs_,H',⟨by have:=fa.1;have:=HJ19.1;omega⟩,⟨Kd.R_mono (ry_ wa.1 d.1) (fun _ hk=>trivial)⟩,⟨Kd.S_mono (sf_ t V.1 (fun _ hk=>hk.1.2)) (fun _ hk=>⟨hk.2,hk.1.2⟩)⟩,⟨bq_ j.1⟩,⟨bp_ d.1⟩,⟨bq_ i.1⟩,⟨IsS102.pk_ o.1⟩,⟨ku_ HK.1⟩,⟨hs_ D.1⟩⟩
      replace H:=bi_ H;obtain⟨⟨xa,Sa,Ta,Ua,Va,Wa⟩,Dc,H⟩:=H;(try dsimp only at H)
      have H':=M_ H
      clear H
      go_wp2_with (first|((with_reducible refine gate_callee (f:=52) rfl ?_);refine gl_ (some 37) Tryz.func52 #[.pointer (some ⟨g,0,none⟩)] ?_;(with_reducible refine(spec_l4Draw.calls aa g C x y xa Sa Ta Ua Va Wa W _ ?_ ?_ Dc.1).mono ?_);exact IsS102.pk_ o.1;exact hs_ D.1;rintro e yd ⟨jd,rfl,E,hi,hb,hk⟩;refine⟨_,rfl,?_⟩;replace b:=M_ (Kd.S_mono (Kd.S_told (Kd.S_oldK (IsS102.apartS (IsS102.pk_ o.1) (sp_ b.1) (by decide)) hk) (Kd.R_base E)) (fun _ h_=>h_.1));replace j:=kb_ hk j;replace d:=kb_ hk d;replace i:=kb_ hk i;have ya:=M_ (Kd.R_lower (Kd.R_new' E (Kd.R_lt (rp_ a.1))) (ks_ HK));replace a:=M_ (Kd.R_mono (Kd.R_told (Kd.R_oldK (IsS102.apart (IsS102.pk_ o.1) (rp_ a.1) (by decide)) hk) (Kd.R_base E)) (fun _ h_=>h_.1));replace HK:=kh_ HK hk;replace D:=M_ (hb);replace o:=M_ (hi);(try clear hb hk hi E);obtain⟨qb,rb,sb⟩:=Kd.R_slice ya.1;subst sb;have Ec:=n2_ F;have Fc:=n2_ ca;have Gc:=n2_ N;obtain⟨Hc,Ic,Jc,Kc,Lc,Mc,Nc,Oc⟩:=bc4_ d.1))
      go_roundg aa
      case measure=>have:=fa.1;have:=HJ19.1;omega
      case rel=>exact⟨(wrap64 (M-1)),(Va),(Wa),(xa),(Sa),(Ta),(Ua),(l),(s),(.slice qb xa.length rb),(u),rs_,H',⟨by have:=fa.1;have:=HJ19.1;omega⟩,⟨Kd.R_mono (ry_ ya.1 d.1) (fun _ hk=>trivial)⟩,⟨Kd.S_mono (sf_ t b.1 (fun _ hk=>hk.1.2)) (fun _ hk=>⟨hk.2,hk.1.2⟩)⟩,⟨bq_ j.1⟩,⟨bp_ d.1⟩,⟨bq_ i.1⟩,⟨IsS102.pk_ o.1⟩,⟨ku_ HK.1⟩,⟨hs_ D.1⟩⟩
   have db:decide (0≤M)=false:=decide_eq_false sa
   clear sa
   simp only[Option.some.injEq,Prod.mk.injEq] at H
   obtain⟨rfl,rfl,rfl,rfl⟩:=H
   have Pc:=n2_ I
   have Qc:=n2_ J
   have Rc:=n2_ O
   obtain⟨Sc,Tc,Uc,Vc⟩:=bc2_ i.1
   have Wc:=n2_ ba
   have Xc:=n2_ oa
   obtain⟨Yc,Zc,ad,bd⟩:=bc2_ j.1
   obtain⟨tb,ub,vb⟩:=Kd.S_slice b.1
   subst vb
   go_wp2
   refine bodyPost_ret (results_cell_row rfl _ _ T 80 #[.int .i64 l,.slice tb s.length ub] (0,0) _ rfl (bp_ j.1) Tryz.underlying80 rfl (by kernel_rfl)) rfl ?_
   exact⟨_,rr_,Kd.S_mono (sy_ b.1 j.1) (fun _ hk=>trivial),IsS102.pk_ o.1,hs_ D.1,ku_ HK.1⟩
def spec_l1AnyPlain.f (d:List Int) (e:Int) (g:Int):Option (ByteArray×Int×Int):=(spec_l1Once.f d e g 2).bind fun a=>(if a.1=true then ((spec_l1Plain.f d a.2.1 a.2.2).bind fun b=>(some (b.1,b.2.1,b.2.2))) else ((spec_l1Str.f d a.2.1 a.2.2 (([(⟨#[34]⟩:ByteArray),(⟨#[92]⟩:ByteArray),(⟨#[127]⟩:ByteArray),(⟨#[31]⟩:ByteArray),(⟨#[116,119,101,108,118,101,32,98,121,116,101,115]⟩:ByteArray),(⟨#[116,104,105,114,116,101,101,110,98,121,116,101,115]⟩:ByteArray),(⟨#[126]⟩:ByteArray),(⟨#[125]⟩:ByteArray),(⟨#[44,32,98,61]⟩:ByteArray),(⟨#[125,32,49,45,50]⟩:ByteArray)]:List ByteArray))).bind fun c=>(some (c.1,c.2.1,c.2.2))))
theorem spec_l1AnyPlain.calls (g:Nat) (c:List Int) (l:Int) (m:Int) (E:ByteArray) (F:Int) (G:Int) (q w:World) (hI:IsS102 q w g c l m) (hB:Below q.heap.size q w) (h:spec_l1AnyPlain.f c l m=some (E,F,G)) :
  Calls Tryz.prog 131 #[.pointer (some ⟨g,0,none⟩)] w fun e w'=>e=.returned (.string E)∧IsS102 q w' g c F G∧Below q.heap.size q w'∧KeepBut w w' g none:=by
 have a:=M_ hI
 have HK:=M_ (KeepBut.refl w g none)
 have HL:=M_ hB.size
 clear hI
 have J:=M_ hB.size
 have n:=M_ hB
 clear hB
 unfold spec_l1AnyPlain.f at h
 have H:=h;clear h
 replace H:=bi_ H;obtain⟨⟨r,j,k⟩,K,H⟩:=H;(try dsimp only at H)
 have AHz_:=M_ H
 clear H
 go_enter Tryz.func131,Tryz.ntmps131
 go_wp2_with (first|(((with_reducible refine gate_callee (f:=70) rfl ?_);refine gl_ (some 4) Tryz.func70 #[.pointer (some ⟨g,0,none⟩),.int .i64 2] ?_;(with_reducible refine(spec_l1Once.calls g c l m 2 r j k q _ ?_ ?_ K.1).mono ?_);exact IsS102.pk_ a.1;exact hs_ n.1;rintro e Q ⟨rfl,hi,hb,hk⟩;refine⟨_,rfl,?_⟩;replace HK:=kh_ HK hk;replace n:=M_ (hb);replace a:=M_ (hi);(try clear hb hk hi));refine Aside0.out ?_))
 have H:=AHz_.1
 clear AHz_
 replace H:=ib_ H;rcases H with⟨rfl,H⟩|⟨rfl,H⟩
 ·
  replace H:=bi_ H;obtain⟨⟨s,t,u⟩,L,H⟩:=H;(try dsimp only at H)
  simp only[Option.some.injEq,Prod.mk.injEq] at H
  obtain⟨rfl,rfl,rfl⟩:=H
  refine⟨?_⟩
  go_wp2_with (first|((with_reducible refine gate_callee (f:=93) rfl ?_);refine gl_ (some 6) Tryz.func93 #[.pointer (some ⟨g,0,none⟩)] ?_;(with_reducible refine(spec_l1Plain.calls g c j k s t u q _ ?_ ?_ L.1).mono ?_);exact IsS102.pk_ a.1;exact hs_ n.1;rintro e R ⟨rfl,hi,hb,hk⟩;refine⟨_,rfl,?_⟩;replace HK:=kh_ HK hk;replace n:=M_ (hb);replace a:=M_ (hi);(try clear hb hk hi)))
  go_ret
  exact an_ ⟨IsS102.pk_ a.1,hs_ n.1,ku_ HK.1⟩
 obtain⟨o,hy_⟩:∃y_:List ByteArray,y_=(([(⟨#[34]⟩:ByteArray),(⟨#[92]⟩:ByteArray),(⟨#[127]⟩:ByteArray),(⟨#[31]⟩:ByteArray),(⟨#[116,119,101,108,118,101,32,98,121,116,101,115]⟩:ByteArray),(⟨#[116,104,105,114,116,101,101,110,98,121,116,101,115]⟩:ByteArray),(⟨#[126]⟩:ByteArray),(⟨#[125]⟩:ByteArray),(⟨#[44,32,98,61]⟩:ByteArray),(⟨#[125,32,49,45,50]⟩:ByteArray)]:List ByteArray)):=⟨_,rfl⟩
 replace H:((spec_l1Str.f c j k o).bind fun i=>(some (i.1,i.2.1,i.2.2)))=some (E,F,G):=hm_
 have p:=M_ hy_;clear hy_
 replace H:=bi_ H;obtain⟨⟨v,x,y⟩,O,H⟩:=H;(try dsimp only at H)
 simp only[Option.some.injEq,Prod.mk.injEq] at H
 obtain⟨rfl,rfl,rfl⟩:=H
 refine⟨?_⟩
 go_wp2_with (first|((with_reducible refine gd_ 8 rfl ?_);refine Kd.R_lit Kd.string _ 9 ?hg (N:=8) ?hd (xs:=([(⟨#[34]⟩:ByteArray),(⟨#[92]⟩:ByteArray),(⟨#[127]⟩:ByteArray),(⟨#[31]⟩:ByteArray),(⟨#[116,119,101,108,118,101,32,98,121,116,101,115]⟩:ByteArray),(⟨#[116,104,105,114,116,101,101,110,98,121,116,101,115]⟩:ByteArray),(⟨#[126]⟩:ByteArray),(⟨#[125]⟩:ByteArray),(⟨#[44,32,98,61]⟩:ByteArray),(⟨#[125,32,49,45,50]⟩:ByteArray)]:List ByteArray)) (inner:=[.string (⟨#[34]⟩:ByteArray),.string (⟨#[92]⟩:ByteArray),.string (⟨#[127]⟩:ByteArray),.string (⟨#[31]⟩:ByteArray),.string (⟨#[116,119,101,108,118,101,32,98,121,116,101,115]⟩:ByteArray),.string (⟨#[116,104,105,114,116,101,101,110,98,121,116,101,115]⟩:ByteArray),.string (⟨#[126]⟩:ByteArray),.string (⟨#[125]⟩:ByteArray),.string (⟨#[44,32,98,61]⟩:ByteArray),.string (⟨#[125,32,49,45,50]⟩:ByteArray)]) (ok:=fun _=>True) (okp:=fun _=>True) ?hr ?hp (fun _ hk=>hk) trivial (Below.refl _ _) (Nat.le_refl _) (by simp) ?_;(case hd=>rfl);(case hg=>rfl);(case hr=>first|(go_simp;done)|(go_simp;rfl));(case hp=>exact(Reps.one (show Kd.M Kd.string _ _ _ (⟨#[34]⟩:ByteArray) [.string (⟨#[34]⟩:ByteArray)] from rfl) (Reps.one (show Kd.M Kd.string _ _ _ (⟨#[92]⟩:ByteArray) [.string (⟨#[92]⟩:ByteArray)] from rfl) (Reps.one (show Kd.M Kd.string _ _ _ (⟨#[127]⟩:ByteArray) [.string (⟨#[127]⟩:ByteArray)] from rfl) (Reps.one (show Kd.M Kd.string _ _ _ (⟨#[31]⟩:ByteArray) [.string (⟨#[31]⟩:ByteArray)] from rfl) (Reps.one (show Kd.M Kd.string _ _ _ (⟨#[116,119,101,108,118,101,32,98,121,116,101,115]⟩:ByteArray) [.string (⟨#[116,119,101,108,118,101,32,98,121,116,101,115]⟩:ByteArray)] from rfl) (Reps.one (show Kd.M Kd.string _ _ _ (⟨#[116,104,105,114,116,101,101,110,98,121,116,101,115]⟩:ByteArray) [.string (⟨#[116,104,105,114,116,101,101,110,98,121,116,101,115]⟩:ByteArray)] from rfl) (Reps.one (show Kd.M Kd.string _ _ _ (⟨#[126]⟩:ByteArray) [.string (⟨#[126]⟩:ByteArray)] from rfl) (Reps.one (show Kd.M Kd.string _ _ _ (⟨#[125]⟩:ByteArray) [.string (⟨#[125]⟩:ByteArray)] from rfl) (Reps.one (show Kd.M Kd.string _ _ _ (⟨#[44,32,98,61]⟩:ByteArray) [.string (⟨#[44,32,98,61]⟩:ByteArray)] from rfl) (Reps.one (show Kd.M Kd.string _ _ _ (⟨#[125,32,49,45,50]⟩:ByteArray) [.string (⟨#[125,32,49,45,50]⟩:ByteArray)] from rfl) (Reps.none _ _))))))))))));intro I S d hb hg_ hnew_;clear hg_ hnew_;(first|rw[←p.1] at d|(simp only[Int.reduceToNat] at d;rw[←p.1] at d));have b:=rl_ d HK;have z:=IsS102.bk_ a hb;have n2_:=kt_ HK hb;have A:=st_ n hb;clear a HK n;have a:=z;have HK:=n2_;have n:=A;clear z n2_ A;clear hb d;obtain⟨B,C,D⟩:=Kd.R_slice b.1;subst D)|((with_reducible refine gate_callee (f:=112) rfl ?_);refine gl_ (some 9) Tryz.func112 #[.pointer (some ⟨g,0,none⟩),.slice B o.length C] ?_;(with_reducible refine(spec_l1Str.calls g c j k _ _ o v x y q _ ?_ ?_ ?_ ?_ ?_ O.1).mono ?_);exact IsS102.pk_ a.1;exact hs_ n.1;exact cp_ ((Kd.R_reads' b.1).2.2);exact(Kd.R_reads' b.1).2.1;exact far_slice (IsS102.own_ne a.1 b.1 (by decide));rintro e P ⟨rfl,hi,hb,hk⟩;refine⟨_,rfl,?_⟩;replace b:=IsS102.rk_ a b hk;replace HK:=kh_ HK hk;replace n:=M_ (hb);replace a:=M_ (hi);(try clear hb hk hi)))
 go_ret
 exact an_ ⟨IsS102.pk_ a.1,hs_ n.1,ku_ HK.1⟩
def spec_l1Names.f (b:List Int) (c:Int) (d:Int):Option (ByteArray×Int×Int):=(spec_l1Str.f b c d (([(⟨#[97,112,112]⟩:ByteArray),(⟨#[104,111,115,116]⟩:ByteArray),(⟨#[115,101,118]⟩:ByteArray),(⟨#[122,111,110,101]⟩:ByteArray)]:List ByteArray))).bind fun a=>(some (a.1,a.2.1,a.2.2))
theorem spec_l1Names.calls (g:Nat) (b:List Int) (i:Int) (j:Int) (u:ByteArray) (v:Int) (x:Int) (n w:World) (hI:IsS102 n w g b i j) (hB:Below n.heap.size n w) (h:spec_l1Names.f b i j=some (u,v,x)) :
  Calls Tryz.prog 155 #[.pointer (some ⟨g,0,none⟩)] w fun e w'=>e=.returned (.string u)∧IsS102 n w' g b v x∧Below n.heap.size n w'∧KeepBut w w' g none:=by
 have c:=M_ hI
 have HK:=M_ (KeepBut.refl w g none)
 have HL:=M_ hB.size
 clear hI
 have C:=M_ hB.size
 have o:=M_ hB
 clear hB
 unfold spec_l1Names.f at h
 have H:=h;clear h
 obtain⟨k,hy_⟩:∃y_:List ByteArray,y_=(([(⟨#[97,112,112]⟩:ByteArray),(⟨#[104,111,115,116]⟩:ByteArray),(⟨#[115,101,118]⟩:ByteArray),(⟨#[122,111,110,101]⟩:ByteArray)]:List ByteArray)):=⟨_,rfl⟩
 replace H:((spec_l1Str.f b i j k).bind fun d=>(some (d.1,d.2.1,d.2.2)))=some (u,v,x):=hm_
 have l:=M_ hy_;clear hy_
 replace H:=bi_ H;obtain⟨⟨p,q,r⟩,D,H⟩:=H;(try dsimp only at H)
 simp only[Option.some.injEq,Prod.mk.injEq] at H
 obtain⟨rfl,rfl,rfl⟩:=H
 go_enter Tryz.func155,Tryz.ntmps155
 go_wp2_with (first|((with_reducible refine gd_ 4 rfl ?_);refine Kd.R_lit Kd.string _ 9 ?hg (N:=4) ?hd (xs:=([(⟨#[97,112,112]⟩:ByteArray),(⟨#[104,111,115,116]⟩:ByteArray),(⟨#[115,101,118]⟩:ByteArray),(⟨#[122,111,110,101]⟩:ByteArray)]:List ByteArray)) (inner:=[.string (⟨#[97,112,112]⟩:ByteArray),.string (⟨#[104,111,115,116]⟩:ByteArray),.string (⟨#[115,101,118]⟩:ByteArray),.string (⟨#[122,111,110,101]⟩:ByteArray)]) (ok:=fun _=>True) (okp:=fun _=>True) ?hr ?hp (fun _ hk=>hk) trivial (Below.refl _ _) (Nat.le_refl _) (by simp) ?_;(case hd=>rfl);(case hg=>rfl);(case hr=>first|(go_simp;done)|(go_simp;rfl));(case hp=>exact(Reps.one (show Kd.M Kd.string _ _ _ (⟨#[97,112,112]⟩:ByteArray) [.string (⟨#[97,112,112]⟩:ByteArray)] from rfl) (Reps.one (show Kd.M Kd.string _ _ _ (⟨#[104,111,115,116]⟩:ByteArray) [.string (⟨#[104,111,115,116]⟩:ByteArray)] from rfl) (Reps.one (show Kd.M Kd.string _ _ _ (⟨#[115,101,118]⟩:ByteArray) [.string (⟨#[115,101,118]⟩:ByteArray)] from rfl) (Reps.one (show Kd.M Kd.string _ _ _ (⟨#[122,111,110,101]⟩:ByteArray) [.string (⟨#[122,111,110,101]⟩:ByteArray)] from rfl) (Reps.none _ _))))));intro B E m hb hg_ hnew_;clear hg_ hnew_;(first|rw[←l.1] at m|(simp only[Int.reduceToNat] at m;rw[←l.1] at m));have a:=rl_ m HK;have s:=IsS102.bk_ c hb;have n2_:=kt_ HK hb;have t:=st_ o hb;clear c HK o;have c:=s;have HK:=n2_;have o:=t;clear s n2_ t;clear hb m;obtain⟨y,z,A⟩:=Kd.R_slice a.1;subst A)|((with_reducible refine gate_callee (f:=112) rfl ?_);refine gl_ (some 5) Tryz.func112 #[.pointer (some ⟨g,0,none⟩),.slice y k.length z] ?_;(with_reducible refine(spec_l1Str.calls g b i j _ _ k p q r n _ ?_ ?_ ?_ ?_ ?_ D.1).mono ?_);exact IsS102.pk_ c.1;exact hs_ o.1;exact cp_ ((Kd.R_reads' a.1).2.2);exact(Kd.R_reads' a.1).2.1;exact far_slice (IsS102.own_ne c.1 a.1 (by decide));rintro e F ⟨rfl,hi,hb,hk⟩;refine⟨_,rfl,?_⟩;replace a:=IsS102.rk_ c a hk;replace HK:=kh_ HK hk;replace o:=M_ (hb);replace c:=M_ (hi);(try clear hb hk hi)))
 go_ret
 exact an_ ⟨IsS102.pk_ c.1,hs_ o.1,ku_ HK.1⟩
def spec_l1AnyName.f (d:List Int) (e:Int) (g:Int):Option (ByteArray×Int×Int):=(spec_l1Once.f d e g 2).bind fun a=>(if a.1=true then ((spec_l1Names.f d a.2.1 a.2.2).bind fun b=>(some (b.1,b.2.1,b.2.2))) else ((spec_l1Str.f d a.2.1 a.2.2 (([(⟨#[]⟩:ByteArray),(⟨#[65]⟩:ByteArray),(⟨#[110,105,110,101,99,104,97,114,115]⟩:ByteArray),(⟨#[101,105,103,104,116,97,98,99]⟩:ByteArray),(⟨#[97,32,98]⟩:ByteArray),(⟨#[97,49]⟩:ByteArray)]:List ByteArray))).bind fun c=>(some (c.1,c.2.1,c.2.2))))
theorem spec_l1AnyName.calls (g:Nat) (c:List Int) (l:Int) (m:Int) (E:ByteArray) (F:Int) (G:Int) (q w:World) (hI:IsS102 q w g c l m) (hB:Below q.heap.size q w) (h:spec_l1AnyName.f c l m=some (E,F,G)) :
  Calls Tryz.prog 148 #[.pointer (some ⟨g,0,none⟩)] w fun e w'=>e=.returned (.string E)∧IsS102 q w' g c F G∧Below q.heap.size q w'∧KeepBut w w' g none:=by
 have a:=M_ hI
 have HK:=M_ (KeepBut.refl w g none)
 have HL:=M_ hB.size
 clear hI
 have J:=M_ hB.size
 have n:=M_ hB
 clear hB
 unfold spec_l1AnyName.f at h
 have H:=h;clear h
 replace H:=bi_ H;obtain⟨⟨r,j,k⟩,K,H⟩:=H;(try dsimp only at H)
 have AHz_:=M_ H
 clear H
 go_enter Tryz.func148,Tryz.ntmps148
 go_wp2_with (first|(((with_reducible refine gate_callee (f:=70) rfl ?_);refine gl_ (some 4) Tryz.func70 #[.pointer (some ⟨g,0,none⟩),.int .i64 2] ?_;(with_reducible refine(spec_l1Once.calls g c l m 2 r j k q _ ?_ ?_ K.1).mono ?_);exact IsS102.pk_ a.1;exact hs_ n.1;rintro e Q ⟨rfl,hi,hb,hk⟩;refine⟨_,rfl,?_⟩;replace HK:=kh_ HK hk;replace n:=M_ (hb);replace a:=M_ (hi);(try clear hb hk hi));refine Aside0.out ?_))
 have H:=AHz_.1
 clear AHz_
 replace H:=ib_ H;rcases H with⟨rfl,H⟩|⟨rfl,H⟩
 ·
  replace H:=bi_ H;obtain⟨⟨s,t,u⟩,L,H⟩:=H;(try dsimp only at H)
  simp only[Option.some.injEq,Prod.mk.injEq] at H
  obtain⟨rfl,rfl,rfl⟩:=H
  refine⟨?_⟩
  go_wp2_with (first|((with_reducible refine gate_callee (f:=155) rfl ?_);refine gl_ (some 6) Tryz.func155 #[.pointer (some ⟨g,0,none⟩)] ?_;(with_reducible refine(spec_l1Names.calls g c j k s t u q _ ?_ ?_ L.1).mono ?_);exact IsS102.pk_ a.1;exact hs_ n.1;rintro e R ⟨rfl,hi,hb,hk⟩;refine⟨_,rfl,?_⟩;replace HK:=kh_ HK hk;replace n:=M_ (hb);replace a:=M_ (hi);(try clear hb hk hi)))
  go_ret
  exact an_ ⟨IsS102.pk_ a.1,hs_ n.1,ku_ HK.1⟩
 obtain⟨o,hy_⟩:∃y_:List ByteArray,y_=(([(⟨#[]⟩:ByteArray),(⟨#[65]⟩:ByteArray),(⟨#[110,105,110,101,99,104,97,114,115]⟩:ByteArray),(⟨#[101,105,103,104,116,97,98,99]⟩:ByteArray),(⟨#[97,32,98]⟩:ByteArray),(⟨#[97,49]⟩:ByteArray)]:List ByteArray)):=⟨_,rfl⟩
 replace H:((spec_l1Str.f c j k o).bind fun i=>(some (i.1,i.2.1,i.2.2)))=some (E,F,G):=hm_
 have p:=M_ hy_;clear hy_
 replace H:=bi_ H;obtain⟨⟨v,x,y⟩,O,H⟩:=H;(try dsimp only at H)
 simp only[Option.some.injEq,Prod.mk.injEq] at H
 obtain⟨rfl,rfl,rfl⟩:=H
 refine⟨?_⟩
 go_wp2_with (first|((with_reducible refine gd_ 8 rfl ?_);refine Kd.R_lit Kd.string _ 9 ?hg (N:=8) ?hd (xs:=([(⟨#[]⟩:ByteArray),(⟨#[65]⟩:ByteArray),(⟨#[110,105,110,101,99,104,97,114,115]⟩:ByteArray),(⟨#[101,105,103,104,116,97,98,99]⟩:ByteArray),(⟨#[97,32,98]⟩:ByteArray),(⟨#[97,49]⟩:ByteArray)]:List ByteArray)) (inner:=[.string (⟨#[]⟩:ByteArray),.string (⟨#[65]⟩:ByteArray),.string (⟨#[110,105,110,101,99,104,97,114,115]⟩:ByteArray),.string (⟨#[101,105,103,104,116,97,98,99]⟩:ByteArray),.string (⟨#[97,32,98]⟩:ByteArray),.string (⟨#[97,49]⟩:ByteArray)]) (ok:=fun _=>True) (okp:=fun _=>True) ?hr ?hp (fun _ hk=>hk) trivial (Below.refl _ _) (Nat.le_refl _) (by simp) ?_;(case hd=>rfl);(case hg=>rfl);(case hr=>first|(go_simp;done)|(go_simp;rfl));(case hp=>exact(Reps.one (show Kd.M Kd.string _ _ _ (⟨#[]⟩:ByteArray) [.string (⟨#[]⟩:ByteArray)] from rfl) (Reps.one (show Kd.M Kd.string _ _ _ (⟨#[65]⟩:ByteArray) [.string (⟨#[65]⟩:ByteArray)] from rfl) (Reps.one (show Kd.M Kd.string _ _ _ (⟨#[110,105,110,101,99,104,97,114,115]⟩:ByteArray) [.string (⟨#[110,105,110,101,99,104,97,114,115]⟩:ByteArray)] from rfl) (Reps.one (show Kd.M Kd.string _ _ _ (⟨#[101,105,103,104,116,97,98,99]⟩:ByteArray) [.string (⟨#[101,105,103,104,116,97,98,99]⟩:ByteArray)] from rfl) (Reps.one (show Kd.M Kd.string _ _ _ (⟨#[97,32,98]⟩:ByteArray) [.string (⟨#[97,32,98]⟩:ByteArray)] from rfl) (Reps.one (show Kd.M Kd.string _ _ _ (⟨#[97,49]⟩:ByteArray) [.string (⟨#[97,49]⟩:ByteArray)] from rfl) (Reps.none _ _))))))));intro I S d hb hg_ hnew_;clear hg_ hnew_;(first|rw[←p.1] at d|(simp only[Int.reduceToNat] at d;rw[←p.1] at d));have b:=rl_ d HK;have z:=IsS102.bk_ a hb;have n2_:=kt_ HK hb;have A:=st_ n hb;clear a HK n;have a:=z;have HK:=n2_;have n:=A;clear z n2_ A;clear hb d;obtain⟨B,C,D⟩:=Kd.R_slice b.1;subst D)|((with_reducible refine gate_callee (f:=112) rfl ?_);refine gl_ (some 9) Tryz.func112 #[.pointer (some ⟨g,0,none⟩),.slice B o.length C] ?_;(with_reducible refine(spec_l1Str.calls g c j k _ _ o v x y q _ ?_ ?_ ?_ ?_ ?_ O.1).mono ?_);exact IsS102.pk_ a.1;exact hs_ n.1;exact cp_ ((Kd.R_reads' b.1).2.2);exact(Kd.R_reads' b.1).2.1;exact far_slice (IsS102.own_ne a.1 b.1 (by decide));rintro e P ⟨rfl,hi,hb,hk⟩;refine⟨_,rfl,?_⟩;replace b:=IsS102.rk_ a b hk;replace HK:=kh_ HK hk;replace n:=M_ (hb);replace a:=M_ (hi);(try clear hb hk hi)))
 go_ret
 exact an_ ⟨IsS102.pk_ a.1,hs_ n.1,ku_ HK.1⟩
def spec_l2Any.f (k:Nat) (c:List Int) (j:Int) (l:Int):Option ((List S99)×Int×Int):=(spec_l2Draw.f k c j l).bind fun b=>((spec_l1Below.f c b.2.1 b.2.2 10).bind fun a=>(if a.1=0 then ((spec_l1AnyName.f c a.2.1 a.2.2).bind fun d=>((spec_l1AnyPlain.f c d.2.1 d.2.2).bind fun e=>(if b.1.length<4398046511104 then (some ((b.1++[(⟨d.1,e.1⟩:S99)]),e.2.1,e.2.2)) else (none)))) else (if a.1=1 then ((some (([(⟨(⟨#[122,122]⟩:ByteArray),(⟨#[49]⟩:ByteArray)⟩:S99)]:List S99):List S99)).bind fun h=>(if h.length+b.1.length<4398046511104 then (some ((h++b.1),a.2.1,a.2.2)) else (none))) else (if a.1=2 then (if 0<(b.1.length:Int) then (if b.1.length<4398046511104 then (some ((b.1++[(⟨(rd_T99 b.1 0).f0,(rd_T99 b.1 0).f1⟩:S99)]),a.2.1,a.2.2)) else (none)) else (none)) else (if a.1=3 then ((some (([(⟨(⟨#[122,117]⟩:ByteArray),(⟨#[]⟩:ByteArray)⟩:S99),(⟨(⟨#[122,118]⟩:ByteArray),(⟨#[]⟩:ByteArray)⟩:S99),(⟨(⟨#[122,119]⟩:ByteArray),(⟨#[]⟩:ByteArray)⟩:S99),(⟨(⟨#[122,120]⟩:ByteArray),(⟨#[]⟩:ByteArray)⟩:S99)]:List S99):List S99)).bind fun i=>(if b.1.length+i.length<4398046511104 then (some ((b.1++i),a.2.1,a.2.2)) else (none))) else (if a.1=4 then ((spec_l1AnyPlain.f c a.2.1 a.2.2).bind fun g=>(if 0<(b.1.length:Int) then (some ((b.1.set (0:Int).toNat (⟨(rd_T99 b.1 0).f0,g.1⟩:S99)),g.2.1,g.2.2)) else (none))) else (if a.1=5 then (some ((([]:List S99)),a.2.1,a.2.2)) else (some (b.1,a.2.1,a.2.2)))))))))
theorem spec_l2Any.calls (k:Nat) (g:Nat) (o:List Int) (X:Int) (Y:Int) (r1:List S99) (r2:Int) (r3:Int) (I w:World) (hI:IsS102 I w g o X Y) (hB:Below I.heap.size I w) (h:spec_l2Any.f k o X Y=some (r1,r2,r3)) :
  Calls Tryz.prog 129 #[.pointer (some ⟨g,0,none⟩)] w fun e w'=>∃v0_:Value,e=.returned (v0_)∧Kd.R k99 99 w' w.heap.size (fun _=>True) v0_ r1∧IsS102 I w' g o r2 r3∧Below I.heap.size I w'∧KeepBut w w' g none:=by
 have hu99:=Tryz.underlying99
 have d:=M_ hI
 have HK:=M_ (KeepBut.refl w g none)
 have HL:=M_ hB.size
 clear hI
 have Hb:=M_ hB.size
 have l:=M_ hB
 clear hB
 unfold spec_l2Any.f at h
 have H:=h;clear h
 replace H:=bi_ H;obtain⟨⟨c,C,D⟩,A2,H⟩:=H;(try dsimp only at H)
 replace H:=bi_ H;obtain⟨⟨i,m,n⟩,A3,H⟩:=H;(try dsimp only at H)
 have AHz_:=M_ H
 clear H
 go_enter Tryz.func129,Tryz.ntmps129
 go_wp2_with (first|(((with_reducible refine gate_callee (f:=88) rfl ?_);refine gl_ (some 5) Tryz.func88 #[.pointer (some ⟨g,0,none⟩)] ?_;(with_reducible refine(spec_l2Draw.calls k g o X Y c C D I _ ?_ ?_ A2.1).mono ?_);exact IsS102.pk_ d.1;exact hs_ l.1;rintro e w8 ⟨ha,rfl,Ua,hi,hb,hk⟩;refine⟨_,rfl,?_⟩;have a:=rl_ Ua HK;have Va:=kh_ HK hk;have n2_:=M_ (hb);have Wa:=M_ (hi);clear HK l d;have HK:=Va;have l:=n2_;have d:=Wa;clear Va n2_ Wa;(try clear hb hk hi Ua));refine Aside0.out ?_))
 have H:=AHz_.1
 clear AHz_
 replace H:=ie_ H;rcases H with⟨c4,H⟩|⟨c4,H⟩
 ·
  have Xa:(i==0)=true:=beq_iff_eq.mpr c4
  have Ya:(i !=0)=false:=bne_eq_false_iff_eq.mpr c4
  clear c4
  replace H:=bi_ H;obtain⟨⟨E,ia,ja⟩,A5,H⟩:=H;(try dsimp only at H)
  replace H:=bi_ H;obtain⟨⟨F,ka,la⟩,A6,H⟩:=H;(try dsimp only at H)
  replace H:=im_ H;obtain⟨Za,H⟩:=H
  obtain⟨ab,hy_⟩:∃y_:List S99,y_=(c++[(⟨E,F⟩:S99)]):=⟨_,rfl⟩
  replace H:(some (ab,ka,la))=some (r1,r2,r3):=hm_
  have sa:=M_ hy_;clear hy_
  simp only[Option.some.injEq,Prod.mk.injEq] at H
  obtain⟨rfl,rfl,rfl⟩:=H
  refine⟨?_⟩
  go_wp2_with (first|((with_reducible refine gate_callee (f:=69) rfl ?_);refine gl_ (some 7) Tryz.func69 #[.pointer (some ⟨g,0,none⟩),.int .i64 10] ?_;(with_reducible refine(spec_l1Below.calls g o C D 10 i m n I _ ?_ ?_ A3.1).mono ?_);exact IsS102.pk_ d.1;exact hs_ l.1;rintro e w9 ⟨rfl,hi,hb,hk⟩;refine⟨_,rfl,?_⟩;replace a:=IsS102.rk_ d a hk;replace HK:=kh_ HK hk;replace l:=M_ (hb);replace d:=M_ (hi);(try clear hb hk hi))|((with_reducible refine gate_callee (f:=148) rfl ?_);refine gl_ (some 12) Tryz.func148 #[.pointer (some ⟨g,0,none⟩)] ?_;(with_reducible refine(spec_l1AnyName.calls g o m n E ia ja I _ ?_ ?_ A5.1).mono ?_);exact IsS102.pk_ d.1;exact hs_ l.1;rintro e Lb ⟨rfl,hi,hb,hk⟩;refine⟨_,rfl,?_⟩;replace a:=IsS102.rk_ d a hk;replace HK:=kh_ HK hk;replace l:=M_ (hb);replace d:=M_ (hi);(try clear hb hk hi))|((with_reducible refine gate_callee (f:=131) rfl ?_);refine gl_ (some 14) Tryz.func131 #[.pointer (some ⟨g,0,none⟩)] ?_;(with_reducible refine(spec_l1AnyPlain.calls g o ia ja F ka la I _ ?_ ?_ A6.1).mono ?_);exact IsS102.pk_ d.1;exact hs_ l.1;rintro e Mb ⟨rfl,hi,hb,hk⟩;refine⟨_,rfl,?_⟩;replace a:=IsS102.rk_ d a hk;replace HK:=kh_ HK hk;replace l:=M_ (hb);replace d:=M_ (hi);(try clear hb hk hi))|((with_reducible refine gate_builtin (b:=.append) (xs:=#[.tmp 10,.tmp 16]) rfl ?_);at_builtin;refine Kd.R_append k99 w.heap.size rfl (.tmp 10) (.tmp 16) 27 99 (.agg #[(.string ⟨#[]⟩),(.string ⟨#[]⟩)]) 32 rfl Tryz.underlying27 info99 rfl (by decide) (by omega) ha c (⟨E,F⟩:S99) [.string E,.string F] (fun _=>True) (fun _=>False) rfl rfl ?aP (fun _ hk=>hk.elim) ?aF ?aO (Below.refl _ _) ?aS ?aL ?_;(case aP=>exact k99_mkM _ _ _ (⟨E,F⟩:S99));(case aF=>exact(fun _ _=>trivial));(case aO=>exact(rp_ a.1));(case aS=>exact(ks_ HK));(case aL=>have:=Za.1;omega);intro yb Nb ho hb hg hat;rw[←sa.1] at ho;replace d:=M_ (IsS102.grown (IsS102.pk_ d.1) hg (IsS102.own_ne d.1 a.1 (by decide)));replace l:=M_ (below_weaken (hs_ l.1) HL.out hb);replace HK:=M_ (KeepBut.trans (ku_ HK.1) (KeepBut.of_grown hg g) (Kd.R_base2 a.1));have ta:=M_ (ho);clear a;clear ho hb hg hat))
  go_ret
  exact⟨_,rr_,rp_ ta.1,IsS102.pk_ d.1,hs_ l.1,ku_ HK.1⟩
 have Xa:(i==0)=false:=beq_eq_false_iff_ne.mpr c4
 have Ya:(i !=0)=true:=bne_iff_ne.mpr c4
 replace H:=ie_ H;rcases H with⟨S,H⟩|⟨S,H⟩
 ·
  have ua:(i==1)=true:=beq_iff_eq.mpr S
  have va:(i !=1)=false:=bne_eq_false_iff_eq.mpr S
  clear S
  obtain⟨O,hy_⟩:∃y_:List S99,y_=(([(⟨(⟨#[122,122]⟩:ByteArray),(⟨#[49]⟩:ByteArray)⟩:S99)]:List S99)):=⟨_,rfl⟩
  replace H:(if O.length+c.length<4398046511104 then (some ((O++c),m,n)) else (none))=some (r1,r2,r3):=hm_
  have Z:=M_ hy_;clear hy_
  replace H:=im_ H;obtain⟨wa,H⟩:=H
  obtain⟨bb,hy_⟩:∃y_:List S99,y_=(O++c):=⟨_,rfl⟩
  replace H:(some (bb,m,n))=some (r1,r2,r3):=hm_
  have xa:=M_ hy_;clear hy_
  simp only[Option.some.injEq,Prod.mk.injEq] at H
  obtain⟨rfl,rfl,rfl⟩:=H
  refine⟨?_⟩
  go_wp2_with (first|((with_reducible refine gate_callee (f:=69) rfl ?_);refine gl_ (some 7) Tryz.func69 #[.pointer (some ⟨g,0,none⟩),.int .i64 10] ?_;(with_reducible refine(spec_l1Below.calls g o C D 10 i m n I _ ?_ ?_ A3.1).mono ?_);exact IsS102.pk_ d.1;exact hs_ l.1;rintro e Ob ⟨rfl,hi,hb,hk⟩;refine⟨_,rfl,?_⟩;replace a:=IsS102.rk_ d a hk;replace HK:=kh_ HK hk;replace l:=M_ (hb);replace d:=M_ (hi);(try clear hb hk hi))|((with_reducible refine gd_ 21 rfl ?_);refine Kd.R_lit k99 _ 99 ?hg (N:=21) ?hd (xs:=([(⟨(⟨#[122,122]⟩:ByteArray),(⟨#[49]⟩:ByteArray)⟩:S99)]:List S99)) (inner:=[.string (⟨#[122,122]⟩:ByteArray),.string (⟨#[49]⟩:ByteArray)]) (ok:=fun _=>True) (okp:=fun _=>True) ?hr ?hp (fun _ hk=>hk) trivial (Below.refl _ _) (Nat.le_refl _) (by simp) ?_;(case hd=>rfl);(case hg=>rfl);(case hr=>first|(go_simp;done)|(go_simp;rfl));(case hp=>exact(Reps.c2 (show Kd.M k99 _ _ _ (⟨(⟨#[122,122]⟩:ByteArray),(⟨#[49]⟩:ByteArray)⟩:S99) [.string (⟨#[122,122]⟩:ByteArray),.string (⟨#[49]⟩:ByteArray)] from (k99_mkM _ _ _ (⟨(⟨#[122,122]⟩:ByteArray),(⟨#[49]⟩:ByteArray)⟩:S99))) (Reps.none _ _)));intro cb Pb u hb hg_ hnew_;clear hg_ hnew_;(first|rw[←Z.1] at u|(simp only[Int.reduceToNat] at u;rw[←Z.1] at u));have A:=M_ (Kd.R_lower (Kd.R_new' u (Kd.R_lt (rp_ a.1))) (ks_ HK));replace a:=M_ (Kd.R_elder' (rp_ a.1) (Kd.R_base u) hb);replace d:=IsS102.bk_ d hb;replace HK:=kt_ HK hb;replace l:=st_ l hb;clear hb u;obtain⟨db,eb,fb⟩:=Kd.R_slice a.1;subst fb)|((with_reducible refine gate_builtin (b:=.append) (xs:=#[.tmp 21,.tmp 22]) rfl ?_);at_builtin;refine Kd.R_append_rows k99 w.heap.size rfl (.tmp 21) (.tmp 22) 27 99 (.agg #[(.string ⟨#[]⟩),(.string ⟨#[]⟩)]) 32 rfl Tryz.underlying27 info99 rfl (by decide) (by omega) cb O c _ _ _ (fun k_=>some k_≠(.slice db c.length eb:Value).ownBlock) (fun _=>False) rfl rfl ?aO ?aR (fun _ _ h=>h) (fun _ h=>h.elim) ?aF (Below.refl _ _) ?aS ?aL ?_;(case aR=>repeat (first|exact(Kd.R_reads' a.1).2.2|(with_reducible first|refine ca_ ?_ _|refine cn_ ?_ _|refine cd_ ?_)));(case aF=>exact(fun k_ hk=>Kd.fresh' (Kd.R_lt (rp_ a.1)) k_ hk));(case aO=>exact(Kd.R_mono (rp_ A.1) (fun _ hk=>hk.2)));(case aS=>exact(ks_ HK));(case aL=>have:=wa.1;omega);intro zb Qb ho hb hg hat;rw[←xa.1] at ho;replace d:=M_ (IsS102.grown (IsS102.pk_ d.1) hg (IsS102.own_ne d.1 A.1 (by decide)));replace a:=M_ (Kd.R_after (ok:=(fun _=>True)) (rp_ a.1) hg hat);replace l:=M_ (below_weaken (hs_ l.1) HL.out hb);replace HK:=M_ (KeepBut.trans (ku_ HK.1) (KeepBut.of_grown hg g) (Kd.R_base2 A.1));have ya:=M_ (ho);clear A;clear ho hb hg hat))
  go_ret
  exact⟨_,rr_,Kd.R_mono (rp_ ya.1) (fun _ hk=>trivial),IsS102.pk_ d.1,hs_ l.1,ku_ HK.1⟩
 have ua:(i==1)=false:=beq_eq_false_iff_ne.mpr S
 have va:(i !=1)=true:=bne_iff_ne.mpr S
 replace H:=ie_ H;rcases H with⟨T,H⟩|⟨T,H⟩
 ·
  have za:(i==2)=true:=beq_iff_eq.mpr T
  have Aa:(i !=2)=false:=bne_eq_false_iff_eq.mpr T
  clear T
  replace H:=in_ H;obtain⟨gb,H⟩:=H
  have tb:=decide_eq_true gb
  have ub:decide (0<c.length)=true:=decide_eq_true (by omega)
  clear gb
  replace H:=im_ H;obtain⟨Ba,H⟩:=H
  obtain⟨ib,hy_⟩:∃y_:List S99,y_=(c++[(⟨(rd_T99 c 0).f0,(rd_T99 c 0).f1⟩:S99)]):=⟨_,rfl⟩
  replace H:(some (ib,m,n))=some (r1,r2,r3):=hm_
  have Ca:=M_ hy_;clear hy_
  simp only[Option.some.injEq,Prod.mk.injEq] at H
  obtain⟨rfl,rfl,rfl⟩:=H
  refine⟨?_⟩
  go_wp2_with (first|((with_reducible refine gate_callee (f:=69) rfl ?_);refine gl_ (some 7) Tryz.func69 #[.pointer (some ⟨g,0,none⟩),.int .i64 10] ?_;(with_reducible refine(spec_l1Below.calls g o C D 10 i m n I _ ?_ ?_ A3.1).mono ?_);exact IsS102.pk_ d.1;exact hs_ l.1;rintro e Rb ⟨rfl,hi,hb,hk⟩;refine⟨_,rfl,?_⟩;replace a:=IsS102.rk_ d a hk;replace HK:=kh_ HK hk;replace l:=M_ (hb);replace d:=M_ (hi);(try clear hb hk hi);obtain⟨Ab,jb,kb⟩:=Kd.R_slice a.1;subst kb;have aa:0≤(0:Int):=(by omega);have ba:0<(c.length:Int):=of_decide_eq_true (by with_reducible assumption);obtain⟨Da,lb,q,r⟩:=at_T99 (Kd.R_reads' a.1).2.2 0 aa ba;cases lb;have qi713:(0<c.length)=True:=eq_true (by omega);(try rw[show ((0:Int)).toNat=0 from rfl] at q);(try rw[show 0*2=0 from rfl] at q);(try rw[Addr.add_zero'] at q);(try rw[show ((0:Int)).toNat=0 from rfl] at r);(try rw[show 0*2=0 from rfl] at r);(try rw[Addr.add_zero'] at r);replace aa:=eq_true aa;replace ba:=eq_true ba)|((with_reducible refine gate_builtin (b:=.append) (xs:=#[.tmp 26,.tmp 30]) rfl ?_);at_builtin;refine Kd.R_append k99 w.heap.size rfl (.tmp 26) (.tmp 30) 27 99 (.agg #[(.string ⟨#[]⟩),(.string ⟨#[]⟩)]) 32 rfl Tryz.underlying27 info99 rfl (by decide) (by omega) (.slice (some Da) c.length jb) c (⟨(rd_T99 c 0).f0,(rd_T99 c 0).f1⟩:S99) [.string ((rd_T99 c 0).f0),.string ((rd_T99 c 0).f1)] (fun _=>True) (fun _=>False) rfl rfl ?aP (fun _ hk=>hk.elim) ?aF ?aO (Below.refl _ _) ?aS ?aL ?_;(case aP=>exact k99_mkM _ _ _ (⟨(rd_T99 c 0).f0,(rd_T99 c 0).f1⟩:S99));(case aF=>exact(fun _ _=>trivial));(case aO=>exact(rp_ a.1));(case aS=>exact(ks_ HK));(case aL=>have:=Ba.1;omega);intro Bb Sb ho hb hg hat;rw[←Ca.1] at ho;replace d:=M_ (IsS102.grown (IsS102.pk_ d.1) hg (IsS102.own_ne d.1 a.1 (by decide)));replace l:=M_ (below_weaken (hs_ l.1) HL.out hb);replace HK:=M_ (KeepBut.trans (ku_ HK.1) (KeepBut.of_grown hg g) (Kd.R_base2 a.1));have Ea:=M_ (ho);clear a;clear ho hb hg hat))
  go_ret
  exact⟨_,rr_,rp_ Ea.1,IsS102.pk_ d.1,hs_ l.1,ku_ HK.1⟩
 have za:(i==2)=false:=beq_eq_false_iff_ne.mpr T
 have Aa:(i !=2)=true:=bne_iff_ne.mpr T
 have AHz_:=M_ H
 clear H
 refine⟨?_⟩
 go_wp2_with (first|(((with_reducible refine gate_callee (f:=69) rfl ?_);refine gl_ (some 7) Tryz.func69 #[.pointer (some ⟨g,0,none⟩),.int .i64 10] ?_;(with_reducible refine(spec_l1Below.calls g o C D 10 i m n I _ ?_ ?_ A3.1).mono ?_);exact IsS102.pk_ d.1;exact hs_ l.1;rintro e Tb ⟨rfl,hi,hb,hk⟩;refine⟨_,rfl,?_⟩;replace a:=IsS102.rk_ d a hk;replace HK:=kh_ HK hk;replace l:=M_ (hb);replace d:=M_ (hi);(try clear hb hk hi));refine Aside0.out ?_))
 have H:=AHz_.1
 clear AHz_
 replace H:=ie_ H;rcases H with⟨U,H⟩|⟨U,H⟩
 ·
  have Fa:(i==3)=true:=beq_iff_eq.mpr U
  have Ga:(i !=3)=false:=bne_eq_false_iff_eq.mpr U
  clear U
  obtain⟨G,hy_⟩:∃y_:List S99,y_=(([(⟨(⟨#[122,117]⟩:ByteArray),(⟨#[]⟩:ByteArray)⟩:S99),(⟨(⟨#[122,118]⟩:ByteArray),(⟨#[]⟩:ByteArray)⟩:S99),(⟨(⟨#[122,119]⟩:ByteArray),(⟨#[]⟩:ByteArray)⟩:S99),(⟨(⟨#[122,120]⟩:ByteArray),(⟨#[]⟩:ByteArray)⟩:S99)]:List S99)):=⟨_,rfl⟩
  replace H:(if c.length+G.length<4398046511104 then (some ((c++G),m,n)) else (none))=some (r1,r2,r3):=hm_
  have ca:=M_ hy_;clear hy_
  replace H:=im_ H;obtain⟨Ha,H⟩:=H
  obtain⟨mb,hy_⟩:∃y_:List S99,y_=(c++G):=⟨_,rfl⟩
  replace H:(some (mb,m,n))=some (r1,r2,r3):=hm_
  have Ia:=M_ hy_;clear hy_
  simp only[Option.some.injEq,Prod.mk.injEq] at H
  obtain⟨rfl,rfl,rfl⟩:=H
  refine⟨?_⟩
  go_wp2_with (first|((with_reducible refine gd_ 39 rfl ?_);refine Kd.R_lit k99 _ 99 ?hg (N:=39) ?hd (xs:=([(⟨(⟨#[122,117]⟩:ByteArray),(⟨#[]⟩:ByteArray)⟩:S99),(⟨(⟨#[122,118]⟩:ByteArray),(⟨#[]⟩:ByteArray)⟩:S99),(⟨(⟨#[122,119]⟩:ByteArray),(⟨#[]⟩:ByteArray)⟩:S99),(⟨(⟨#[122,120]⟩:ByteArray),(⟨#[]⟩:ByteArray)⟩:S99)]:List S99)) (inner:=[.string (⟨#[122,117]⟩:ByteArray),.string (⟨#[]⟩:ByteArray),.string (⟨#[122,118]⟩:ByteArray),.string (⟨#[]⟩:ByteArray),.string (⟨#[122,119]⟩:ByteArray),.string (⟨#[]⟩:ByteArray),.string (⟨#[122,120]⟩:ByteArray),.string (⟨#[]⟩:ByteArray)]) (ok:=fun _=>True) (okp:=fun _=>True) ?hr ?hp (fun _ hk=>hk) trivial (Below.refl _ _) (Nat.le_refl _) (by simp) ?_;(case hd=>rfl);(case hg=>rfl);(case hr=>first|(go_simp;done)|(go_simp;rfl));(case hp=>exact(Reps.c2 (show Kd.M k99 _ _ _ (⟨(⟨#[122,117]⟩:ByteArray),(⟨#[]⟩:ByteArray)⟩:S99) [.string (⟨#[122,117]⟩:ByteArray),.string (⟨#[]⟩:ByteArray)] from (k99_mkM _ _ _ (⟨(⟨#[122,117]⟩:ByteArray),(⟨#[]⟩:ByteArray)⟩:S99))) (Reps.c2 (show Kd.M k99 _ _ _ (⟨(⟨#[122,118]⟩:ByteArray),(⟨#[]⟩:ByteArray)⟩:S99) [.string (⟨#[122,118]⟩:ByteArray),.string (⟨#[]⟩:ByteArray)] from (k99_mkM _ _ _ (⟨(⟨#[122,118]⟩:ByteArray),(⟨#[]⟩:ByteArray)⟩:S99))) (Reps.c2 (show Kd.M k99 _ _ _ (⟨(⟨#[122,119]⟩:ByteArray),(⟨#[]⟩:ByteArray)⟩:S99) [.string (⟨#[122,119]⟩:ByteArray),.string (⟨#[]⟩:ByteArray)] from (k99_mkM _ _ _ (⟨(⟨#[122,119]⟩:ByteArray),(⟨#[]⟩:ByteArray)⟩:S99))) (Reps.c2 (show Kd.M k99 _ _ _ (⟨(⟨#[122,120]⟩:ByteArray),(⟨#[]⟩:ByteArray)⟩:S99) [.string (⟨#[122,120]⟩:ByteArray),.string (⟨#[]⟩:ByteArray)] from (k99_mkM _ _ _ (⟨(⟨#[122,120]⟩:ByteArray),(⟨#[]⟩:ByteArray)⟩:S99))) (Reps.none _ _))))));intro Cb Ub x hb hg_ hnew_;clear hg_ hnew_;(first|rw[←ca.1] at x|(simp only[Int.reduceToNat] at x;rw[←ca.1] at x));have s:=M_ (Kd.R_lower (Kd.R_new' x (Kd.R_lt (rp_ a.1))) (ks_ HK));replace a:=M_ (Kd.R_elder' (rp_ a.1) (Kd.R_base x) hb);replace d:=IsS102.bk_ d hb;replace HK:=kt_ HK hb;replace l:=st_ l hb;clear hb x;obtain⟨nb,ob,pb⟩:=Kd.R_slice s.1;subst pb)|((with_reducible refine gate_builtin (b:=.append) (xs:=#[.tmp 34,.tmp 39]) rfl ?_);at_builtin;refine Kd.R_append_rows k99 w.heap.size rfl (.tmp 34) (.tmp 39) 27 99 (.agg #[(.string ⟨#[]⟩),(.string ⟨#[]⟩)]) 32 rfl Tryz.underlying27 info99 rfl (by decide) (by omega) ha c G _ _ _ (fun k_=>some k_≠(.slice nb G.length ob:Value).ownBlock) (fun _=>False) rfl rfl ?aO ?aR (fun _ _ h=>h) (fun _ h=>h.elim) ?aF (Below.refl _ _) ?aS ?aL ?_;(case aR=>repeat (first|exact(Kd.R_reads' s.1).2.2|(with_reducible first|refine ca_ ?_ _|refine cn_ ?_ _|refine cd_ ?_)));(case aF=>exact(fun k_ hk=>Kd.fresh' (Kd.R_lt (rp_ s.1)) k_ hk));(case aO=>exact(Kd.R_mono (rp_ a.1) (fun _ hk=>hk.2)));(case aS=>exact(ks_ HK));(case aL=>have:=Ha.1;omega);intro Db Vb ho hb hg hat;rw[←Ia.1] at ho;replace d:=M_ (IsS102.grown (IsS102.pk_ d.1) hg (IsS102.own_ne d.1 a.1 (by decide)));replace s:=M_ (Kd.R_after (ok:=(fun _=>True)) (rp_ s.1) hg hat);replace l:=M_ (below_weaken (hs_ l.1) HL.out hb);replace HK:=M_ (KeepBut.trans (ku_ HK.1) (KeepBut.of_grown hg g) (Kd.R_base2 a.1));have Ja:=M_ (ho);clear a;clear ho hb hg hat))
  go_ret
  exact⟨_,rr_,Kd.R_mono (rp_ Ja.1) (fun _ hk=>trivial),IsS102.pk_ d.1,hs_ l.1,ku_ HK.1⟩
 have Fa:(i==3)=false:=beq_eq_false_iff_ne.mpr U
 have Ga:(i !=3)=true:=bne_iff_ne.mpr U
 replace H:=ie_ H;rcases H with⟨V,H⟩|⟨V,H⟩
 ·
  have Ka:(i==4)=true:=beq_iff_eq.mpr V
  have La:(i !=4)=false:=bne_eq_false_iff_eq.mpr V
  clear V
  replace H:=bi_ H;obtain⟨⟨y,ma,na⟩,vb,H⟩:=H;(try dsimp only at H)
  replace H:=in_ H;obtain⟨qb,H⟩:=H
  have wb:=decide_eq_true qb
  have xb:decide (0<c.length)=true:=decide_eq_true (by omega)
  clear qb
  obtain⟨oa,hy_⟩:∃y_:List S99,y_=(c.set (0:Int).toNat (⟨(rd_T99 c 0).f0,y⟩:S99)):=⟨_,rfl⟩
  replace H:(some (oa,ma,na))=some (r1,r2,r3):=hm_
  have Ma:=M_ hy_;clear hy_
  simp only[Option.some.injEq,Prod.mk.injEq] at H
  obtain⟨rfl,rfl,rfl⟩:=H
  refine⟨?_⟩
  go_wp2_with (first|((with_reducible refine gate_callee (f:=131) rfl ?_);refine gl_ (some 45) Tryz.func131 #[.pointer (some ⟨g,0,none⟩)] ?_;(with_reducible refine(spec_l1AnyPlain.calls g o m n y ma na I _ ?_ ?_ vb.1).mono ?_);exact IsS102.pk_ d.1;exact hs_ l.1;rintro e J ⟨rfl,hi,hb,hk⟩;refine⟨_,rfl,?_⟩;replace a:=IsS102.rk_ d a hk;replace HK:=kh_ HK hk;replace l:=M_ (hb);replace d:=M_ (hi);(try clear hb hk hi);have Na:0≤(0:Int):=(by omega);have Oa:(0:Int)<((c.length:Int):Int):=of_decide_eq_true (by with_reducible assumption);have qi39:(0<c.length)=True:=eq_true (by omega);obtain⟨go39,pa,qa,ra,gl39,cl39,HG39⟩:=Kd.R_form a.1 (by omega);(first|cases qa|(injection qa with ea_ en_ ec_;(first|subst ea_|(injection ea_ with ea_;subst ea_));subst ec_;clear en_));have GB39:=M_ ra;have GG39:=M_ HG39;clear ra gl39 HG39;obtain⟨Eb,hcl39,hM39,K,hfr39⟩:=Kd.R_elem a.1 z99 (0:Int) Na Oa;obtain rfl:=k99_openM hM39;have P:J.cell? ⟨go39,(0:Int).toNat*2,none⟩=some (.string ((rd_T99 c 0).f0)):=K 0 _ rfl;have Q:J.cell? ⟨go39,(0:Int).toNat*2+1,none⟩=some (.string ((rd_T99 c 0).f1)):=K 1 _ rfl;have hf39_0:J.frozen? ⟨go39,(0:Int).toNat*2,none⟩=false:=hfr39 0;have hf39_1:J.frozen? ⟨go39,(0:Int).toNat*2+1,none⟩=false:=hfr39 1;clear hcl39 K hfr39 hM39;(try rw[show ((0:Int)).toNat=0 from rfl] at P);(try simp only[Nat.reduceMul,Nat.zero_mul,Nat.zero_add,Nat.reduceAdd] at P);(try rw[show ((0:Int)).toNat=0 from rfl] at hf39_0);(try simp only[Nat.reduceMul,Nat.zero_mul,Nat.zero_add,Nat.reduceAdd] at hf39_0);(try rw[show ((0:Int)).toNat=0 from rfl] at Q);(try simp only[Nat.reduceMul,Nat.zero_mul,Nat.zero_add,Nat.reduceAdd] at Q);(try rw[show ((0:Int)).toNat=0 from rfl] at hf39_1);(try simp only[Nat.reduceMul,Nat.zero_mul,Nat.zero_add,Nat.reduceAdd] at hf39_1);replace Na:=eq_true Na;replace Oa:=eq_true Oa;have HX43:=M_ (show Kd.R k99 99 J w.heap.size (fun _=>True) (.slice (some ⟨go39,0,none⟩) c.length pa) c from (rp_ a.1));obtain⟨Fb,hcl43,hM43,L,hfr43⟩:=Kd.R_elem HX43.out z99 (0:Int) (by omega) (by have h_:(0:Int)<((c.length:Int):Int):=of_decide_eq_true (by with_reducible assumption);first|exact h_|(have e_:=(Kd.R_reads' a.1).1;omega)|simpa using h_);obtain rfl:=k99_openM hM43;have HP43:=Kd.R_seg HX43.out (0:Int) (by omega) (by have h_:(0:Int)<((c.length:Int):Int):=of_decide_eq_true (by with_reducible assumption);first|exact h_|(have e_:=(Kd.R_reads' a.1).1;omega)|simpa using h_) (seg:=[.string y]) (j:=1) hcl43 L (show 2≤2 from by decide) (x':=(⟨(rd_T99 c 0).f0,y⟩:S99)) (k99_mkM _ _ _ (⟨(rd_T99 c 0).f0,y⟩:S99)) (fun _ hk=>hk);have B:=L 1 _ rfl;(try simp only[show (k99).sz=2 from rfl,Nat.mul_one,Nat.add_zero] at B);(try rw[show ((0:Int)).toNat=0 from rfl] at B);(try simp only[Nat.reduceMul,Nat.zero_mul,Nat.zero_add,Nat.reduceAdd] at B);have hf43_1:=hfr43 1;(try simp only[show (k99).sz=2 from rfl,Nat.mul_one,Nat.add_zero] at hf43_1);(try rw[show ((0:Int)).toNat=0 from rfl] at hf43_1);(try simp only[Nat.reduceMul,Nat.zero_mul,Nat.zero_add,Nat.reduceAdd] at hf43_1);clear hcl43 L hfr43 hM43)|((with_reducible refine gate_store (t:=9) (p:=47) rfl ?_);refine store_event (t:=9) (p:=47) (v:=?vo_w44) (w1:=(J.setCell ⟨go39,1,none⟩ (.string y))) ?hg ?ho ?hn ?hr ?_;(case ho=>rfl);(case hg=>rfl);(case hn=>rfl);(case hr=>first|(go_simp;done)|(go_simp;rfl));intro Pa hw;have hg:J.grownBy Pa (some go39):=(by rw[hw];exact HP43.2);have hp_:Kd.R k99 99 Pa w.heap.size (fun _=>True) (.slice (some ⟨go39,0,none⟩) c.length pa) oa:=(by rw[hw,Ma.1];exact HP43.1);clear HP43;replace d:=M_ (IsS102.grown (IsS102.pk_ d.1) hg (IsS102.own_ne d.1 a.1 (by decide)));replace l:=M_ ((by rw[hw];exact below_set (l.1) (Nat.le_trans HL.out GB39.out):Below I.heap.size I Pa));replace HK:=M_ (KeepBut.trans (ku_ HK.1) (KeepBut.of_grown hg g) (Kd.R_base2 a.1));replace a:=M_ (hp_);clear hg hw hp_))
  go_ret
  exact⟨_,rr_,rp_ a.1,IsS102.pk_ d.1,hs_ l.1,ku_ HK.1⟩
 have Ka:(i==4)=false:=beq_eq_false_iff_ne.mpr V
 have La:(i !=4)=true:=bne_iff_ne.mpr V
 replace H:=ie_ H;rcases H with⟨W,H⟩|⟨W,H⟩
 ·
  have Qa:(i==5)=true:=beq_iff_eq.mpr W
  have Ra:(i !=5)=false:=bne_eq_false_iff_eq.mpr W
  clear W
  obtain⟨rb,hy_⟩:∃y_:List S99,y_=(([]:List S99)):=⟨_,rfl⟩
  replace H:(some (rb,m,n))=some (r1,r2,r3):=hm_
  have da:=M_ hy_;clear hy_
  simp only[Option.some.injEq,Prod.mk.injEq] at H
  obtain⟨rfl,rfl,rfl⟩:=H
  refine⟨?_⟩
  go_wp2_with (first|((with_reducible refine gd_ 50 rfl ?_);refine Kd.R_lit k99 _ 99 ?hg (N:=50) ?hd (xs:=([]:List S99)) (inner:=[]) (ok:=fun _=>True) (okp:=fun _=>True) ?hr ?hp (fun _ hk=>hk) trivial (Below.refl _ _) (Nat.le_refl _) (by simp) ?_;(case hd=>rfl);(case hg=>rfl);(case hr=>first|(go_simp;done)|(go_simp;rfl));(case hp=>exact(Reps.none _ _));intro Gb Wb z hb hg_ hnew_;clear hg_ hnew_;(first|rw[←da.1] at z|(simp only[Int.reduceToNat] at z;rw[←da.1] at z));have Sa:=M_ (Kd.R_lower (Kd.R_new' z (Kd.R_lt (rp_ a.1))) (ks_ HK));replace a:=M_ (Kd.R_elder' (rp_ a.1) (Kd.R_base z) hb);replace d:=IsS102.bk_ d hb;replace HK:=kt_ HK hb;replace l:=st_ l hb;clear hb z))
  go_ret
  exact⟨_,rr_,Kd.R_mono (rp_ Sa.1) (fun _ hk=>trivial),IsS102.pk_ d.1,hs_ l.1,ku_ HK.1⟩
 have Qa:(i==5)=false:=beq_eq_false_iff_ne.mpr W
 have Ra:(i !=5)=true:=bne_iff_ne.mpr W
 simp only[Option.some.injEq,Prod.mk.injEq] at H
 obtain⟨rfl,rfl,rfl⟩:=H
 refine⟨?_⟩
 go_wp2
 go_ret
 exact⟨_,rr_,rp_ a.1,IsS102.pk_ d.1,hs_ l.1,ku_ HK.1⟩
def spec_l1Odd.f (b:List Int) (c:Int) (d:Int):Option (Int×Int×Int):=(spec_l1Int.f b c d (([(-1),0,1,2,255,256,65535,2147483647,2147483648,4294967295,4294967296,(-2147483648),9223372036854775807,(-9223372036854775808)]:List Int))).bind fun a=>(some (a.1,a.2.1,a.2.2))
theorem spec_l1Odd.calls (g:Nat) (b:List Int) (i:Int) (j:Int) (u:Int) (v:Int) (x:Int) (n w:World) (hI:IsS102 n w g b i j) (hB:Below n.heap.size n w) (h:spec_l1Odd.f b i j=some (u,v,x)) :
  Calls Tryz.prog 149 #[.pointer (some ⟨g,0,none⟩)] w fun e w'=>e=.returned (.int .i64 u)∧IsS102 n w' g b v x∧Below n.heap.size n w'∧KeepBut w w' g none:=by
 have c:=M_ hI
 have HK:=M_ (KeepBut.refl w g none)
 have HL:=M_ hB.size
 clear hI
 have C:=M_ hB.size
 have o:=M_ hB
 clear hB
 unfold spec_l1Odd.f at h
 have H:=h;clear h
 obtain⟨k,hy_⟩:∃y_:List Int,y_=(([(-1),0,1,2,255,256,65535,2147483647,2147483648,4294967295,4294967296,(-2147483648),9223372036854775807,(-9223372036854775808)]:List Int)):=⟨_,rfl⟩
 replace H:((spec_l1Int.f b i j k).bind fun d=>(some (d.1,d.2.1,d.2.2)))=some (u,v,x):=hm_
 have l:=M_ hy_;clear hy_
 replace H:=bi_ H;obtain⟨⟨p,q,r⟩,D,H⟩:=H;(try dsimp only at H)
 simp only[Option.some.injEq,Prod.mk.injEq] at H
 obtain⟨rfl,rfl,rfl⟩:=H
 go_enter Tryz.func149,Tryz.ntmps149
 go_wp2_with (first|((with_reducible refine gd_ 4 rfl ?_);refine Kd.R_lit (Kd.int .i64) _ 3 ?hg (N:=4) ?hd (xs:=([(-1),0,1,2,255,256,65535,2147483647,2147483648,4294967295,4294967296,(-2147483648),9223372036854775807,(-9223372036854775808)]:List Int)) (inner:=[.int .i64 (-1),.int .i64 0,.int .i64 1,.int .i64 2,.int .i64 255,.int .i64 256,.int .i64 65535,.int .i64 2147483647,.int .i64 2147483648,.int .i64 4294967295,.int .i64 4294967296,.int .i64 (-2147483648),.int .i64 9223372036854775807,.int .i64 (-9223372036854775808)]) (ok:=fun _=>True) (okp:=fun _=>True) ?hr ?hp (fun _ hk=>hk) trivial (Below.refl _ _) (Nat.le_refl _) (by simp) ?_;(case hd=>rfl);(case hg=>rfl);(case hr=>first|(go_simp;done)|(go_simp;rfl));(case hp=>exact(Reps.one (show Kd.M (Kd.int .i64) _ _ _ (-1) [.int .i64 (-1)] from rfl) (Reps.one (show Kd.M (Kd.int .i64) _ _ _ 0 [.int .i64 0] from rfl) (Reps.one (show Kd.M (Kd.int .i64) _ _ _ 1 [.int .i64 1] from rfl) (Reps.one (show Kd.M (Kd.int .i64) _ _ _ 2 [.int .i64 2] from rfl) (Reps.one (show Kd.M (Kd.int .i64) _ _ _ 255 [.int .i64 255] from rfl) (Reps.one (show Kd.M (Kd.int .i64) _ _ _ 256 [.int .i64 256] from rfl) (Reps.one (show Kd.M (Kd.int .i64) _ _ _ 65535 [.int .i64 65535] from rfl) (Reps.one (show Kd.M (Kd.int .i64) _ _ _ 2147483647 [.int .i64 2147483647] from rfl) (Reps.one (show Kd.M (Kd.int .i64) _ _ _ 2147483648 [.int .i64 2147483648] from rfl) (Reps.one (show Kd.M (Kd.int .i64) _ _ _ 4294967295 [.int .i64 4294967295] from rfl) (Reps.one (show Kd.M (Kd.int .i64) _ _ _ 4294967296 [.int .i64 4294967296] from rfl) (Reps.one (show Kd.M (Kd.int .i64) _ _ _ (-2147483648) [.int .i64 (-2147483648)] from rfl) (Reps.one (show Kd.M (Kd.int .i64) _ _ _ 9223372036854775807 [.int .i64 9223372036854775807] from rfl) (Reps.one (show Kd.M (Kd.int .i64) _ _ _ (-9223372036854775808) [.int .i64 (-9223372036854775808)] from rfl) (Reps.none _ _))))))))))))))));intro B E m hb hg_ hnew_;clear hg_ hnew_;(first|rw[←l.1] at m|(simp only[Int.reduceToNat] at m;rw[←l.1] at m));have a:=rl_ m HK;have s:=IsS102.bk_ c hb;have n2_:=kt_ HK hb;have t:=st_ o hb;clear c HK o;have c:=s;have HK:=n2_;have o:=t;clear s n2_ t;clear hb m;obtain⟨y,z,A⟩:=Kd.R_slice a.1;subst A)|((with_reducible refine gate_callee (f:=66) rfl ?_);refine gl_ (some 5) Tryz.func66 #[.pointer (some ⟨g,0,none⟩),.slice y k.length z] ?_;(with_reducible refine(spec_l1Int.calls g b i j _ _ k p q r n _ ?_ ?_ ?_ ?_ ?_ D.1).mono ?_);exact IsS102.pk_ c.1;exact hs_ o.1;exact cp_ ((Kd.R_reads' a.1).2.2);exact(Kd.R_reads' a.1).2.1;exact far_slice (IsS102.own_ne c.1 a.1 (by decide));rintro e F ⟨rfl,hi,hb,hk⟩;refine⟨_,rfl,?_⟩;replace a:=IsS102.rk_ c a hk;replace HK:=kh_ HK hk;replace o:=M_ (hb);replace c:=M_ (hi);(try clear hb hk hi)))
 go_ret
 exact an_ ⟨IsS102.pk_ c.1,hs_ o.1,ku_ HK.1⟩
def spec_l1Raw.f (d:List Int) (e:Int) (g:Int):Option (Int×Int×Int):=(spec_l1Once.f d e g 2).bind fun a=>(if a.1=true then ((spec_l1Odd.f d a.2.1 a.2.2).bind fun b=>(some (b.1,b.2.1,b.2.2))) else ((spec_l1Int.f d a.2.1 a.2.2 (([(-1),0,1,3,99999,100000]:List Int))).bind fun c=>(some (c.1,c.2.1,c.2.2))))
theorem spec_l1Raw.calls (g:Nat) (c:List Int) (l:Int) (m:Int) (E:Int) (F:Int) (G:Int) (q w:World) (hI:IsS102 q w g c l m) (hB:Below q.heap.size q w) (h:spec_l1Raw.f c l m=some (E,F,G)) :
  Calls Tryz.prog 130 #[.pointer (some ⟨g,0,none⟩)] w fun e w'=>e=.returned (.int .i64 E)∧IsS102 q w' g c F G∧Below q.heap.size q w'∧KeepBut w w' g none:=by
 have a:=M_ hI
 have HK:=M_ (KeepBut.refl w g none)
 have HL:=M_ hB.size
 clear hI
 have J:=M_ hB.size
 have n:=M_ hB
 clear hB
 unfold spec_l1Raw.f at h
 have H:=h;clear h
 replace H:=bi_ H;obtain⟨⟨r,j,k⟩,K,H⟩:=H;(try dsimp only at H)
 have AHz_:=M_ H
 clear H
 go_enter Tryz.func130,Tryz.ntmps130
 go_wp2_with (first|(((with_reducible refine gate_callee (f:=70) rfl ?_);refine gl_ (some 4) Tryz.func70 #[.pointer (some ⟨g,0,none⟩),.int .i64 2] ?_;(with_reducible refine(spec_l1Once.calls g c l m 2 r j k q _ ?_ ?_ K.1).mono ?_);exact IsS102.pk_ a.1;exact hs_ n.1;rintro e Q ⟨rfl,hi,hb,hk⟩;refine⟨_,rfl,?_⟩;replace HK:=kh_ HK hk;replace n:=M_ (hb);replace a:=M_ (hi);(try clear hb hk hi));refine Aside0.out ?_))
 have H:=AHz_.1
 clear AHz_
 replace H:=ib_ H;rcases H with⟨rfl,H⟩|⟨rfl,H⟩
 ·
  replace H:=bi_ H;obtain⟨⟨s,t,u⟩,L,H⟩:=H;(try dsimp only at H)
  simp only[Option.some.injEq,Prod.mk.injEq] at H
  obtain⟨rfl,rfl,rfl⟩:=H
  refine⟨?_⟩
  go_wp2_with (first|((with_reducible refine gate_callee (f:=149) rfl ?_);refine gl_ (some 6) Tryz.func149 #[.pointer (some ⟨g,0,none⟩)] ?_;(with_reducible refine(spec_l1Odd.calls g c j k s t u q _ ?_ ?_ L.1).mono ?_);exact IsS102.pk_ a.1;exact hs_ n.1;rintro e R ⟨rfl,hi,hb,hk⟩;refine⟨_,rfl,?_⟩;replace HK:=kh_ HK hk;replace n:=M_ (hb);replace a:=M_ (hi);(try clear hb hk hi)))
  go_ret
  exact an_ ⟨IsS102.pk_ a.1,hs_ n.1,ku_ HK.1⟩
 obtain⟨o,hy_⟩:∃y_:List Int,y_=(([(-1),0,1,3,99999,100000]:List Int)):=⟨_,rfl⟩
 replace H:((spec_l1Int.f c j k o).bind fun i=>(some (i.1,i.2.1,i.2.2)))=some (E,F,G):=hm_
 have p:=M_ hy_;clear hy_
 replace H:=bi_ H;obtain⟨⟨v,x,y⟩,O,H⟩:=H;(try dsimp only at H)
 simp only[Option.some.injEq,Prod.mk.injEq] at H
 obtain⟨rfl,rfl,rfl⟩:=H
 refine⟨?_⟩
 go_wp2_with (first|((with_reducible refine gd_ 8 rfl ?_);refine Kd.R_lit (Kd.int .i64) _ 3 ?hg (N:=8) ?hd (xs:=([(-1),0,1,3,99999,100000]:List Int)) (inner:=[.int .i64 (-1),.int .i64 0,.int .i64 1,.int .i64 3,.int .i64 99999,.int .i64 100000]) (ok:=fun _=>True) (okp:=fun _=>True) ?hr ?hp (fun _ hk=>hk) trivial (Below.refl _ _) (Nat.le_refl _) (by simp) ?_;(case hd=>rfl);(case hg=>rfl);(case hr=>first|(go_simp;done)|(go_simp;rfl));(case hp=>exact(Reps.one (show Kd.M (Kd.int .i64) _ _ _ (-1) [.int .i64 (-1)] from rfl) (Reps.one (show Kd.M (Kd.int .i64) _ _ _ 0 [.int .i64 0] from rfl) (Reps.one (show Kd.M (Kd.int .i64) _ _ _ 1 [.int .i64 1] from rfl) (Reps.one (show Kd.M (Kd.int .i64) _ _ _ 3 [.int .i64 3] from rfl) (Reps.one (show Kd.M (Kd.int .i64) _ _ _ 99999 [.int .i64 99999] from rfl) (Reps.one (show Kd.M (Kd.int .i64) _ _ _ 100000 [.int .i64 100000] from rfl) (Reps.none _ _))))))));intro I S d hb hg_ hnew_;clear hg_ hnew_;(first|rw[←p.1] at d|(simp only[Int.reduceToNat] at d;rw[←p.1] at d));have b:=rl_ d HK;have z:=IsS102.bk_ a hb;have n2_:=kt_ HK hb;have A:=st_ n hb;clear a HK n;have a:=z;have HK:=n2_;have n:=A;clear z n2_ A;clear hb d;obtain⟨B,C,D⟩:=Kd.R_slice b.1;subst D)|((with_reducible refine gate_callee (f:=66) rfl ?_);refine gl_ (some 9) Tryz.func66 #[.pointer (some ⟨g,0,none⟩),.slice B o.length C] ?_;(with_reducible refine(spec_l1Int.calls g c j k _ _ o v x y q _ ?_ ?_ ?_ ?_ ?_ O.1).mono ?_);exact IsS102.pk_ a.1;exact hs_ n.1;exact cp_ ((Kd.R_reads' b.1).2.2);exact(Kd.R_reads' b.1).2.1;exact far_slice (IsS102.own_ne a.1 b.1 (by decide));rintro e P ⟨rfl,hi,hb,hk⟩;refine⟨_,rfl,?_⟩;replace b:=IsS102.rk_ a b hk;replace HK:=kh_ HK hk;replace n:=M_ (hb);replace a:=M_ (hi);(try clear hb hk hi)))
 go_ret
 exact an_ ⟨IsS102.pk_ a.1,hs_ n.1,ku_ HK.1⟩
def spec_l4Any.f (k:Nat) (c:List Int) (i:Int) (j:Int):Option ((List S99)×Int×Int×ByteArray×Int×Int):=(spec_l4Draw.f k c i j).bind fun a=>((spec_l1Below.f c a.2.2.2.2.1 a.2.2.2.2.2 12).bind fun b=>(if b.1=0 then ((spec_l2Any.f k c b.2.1 b.2.2).bind fun d=>(some (d.1,a.2.1,a.2.2.1,a.2.2.2.1,d.2.1,d.2.2))) else (if b.1=1 then ((spec_l1Int.f c b.2.1 b.2.2 (([(-1),99999,100000]:List Int))).bind fun e=>(some (a.1,e.1,a.2.2.1,a.2.2.2.1,e.2.1,e.2.2))) else (if b.1=2 then ((spec_l1Raw.f c b.2.1 b.2.2).bind fun g=>(some (a.1,a.2.1,g.1,a.2.2.2.1,g.2.1,g.2.2))) else (if b.1=3 then ((spec_l1AnyPlain.f c b.2.1 b.2.2).bind fun h=>(some (a.1,a.2.1,a.2.2.1,h.1,h.2.1,h.2.2))) else (some (a.1,a.2.1,a.2.2.1,a.2.2.2.1,b.2.1,b.2.2)))))))
theorem spec_l4Any.calls (k:Nat) (g:Nat) (j:List Int) (L:Int) (O:Int) (r1:List S99) (r2:Int) (r3:Int) (r4:ByteArray) (r5:Int) (r6:Int) (D w:World) (hI:IsS102 D w g j L O) (hB:Below D.heap.size D w) (h:spec_l4Any.f k j L O=some (r1,r2,r3,r4,r5,r6)) :
  Calls Tryz.prog 115 #[.pointer (some ⟨g,0,none⟩)] w fun e w'=>∃v0_:Value,e=.returned (.agg #[v0_,.int .i64 r2,.int .i64 r3,.string r4])∧Kd.R k99 99 w' w.heap.size (fun _=>True) v0_ r1∧IsS102 D w' g j r5 r6∧Below D.heap.size D w'∧KeepBut w w' g none:=by
 have hu29:=Tryz.underlying29
 have d:=M_ hI
 have HK:=M_ (KeepBut.refl w g none)
 have HL:=M_ hB.size
 clear hI
 have ma:=M_ hB.size
 have u:=M_ hB
 clear hB
 unfold spec_l4Any.f at h
 have H:=h;clear h
 replace H:=bi_ H;obtain⟨⟨m,r,n,o,y,z⟩,A2,H⟩:=H;(try dsimp only at H)
 replace H:=bi_ H;obtain⟨⟨i,s,t⟩,A3,H⟩:=H;(try dsimp only at H)
 have AHz_:=M_ H
 clear H
 go_enter Tryz.func115,Tryz.ntmps115
 go_wp2_with (first|((with_reducible refine gd_ 2 rfl ?_);refine bV_ 2 #[.slice none 0 0,.int .i64 0,.int .i64 0,.string (⟨#[]⟩:ByteArray)] 29 ?_;intro l hg w6 a hb;replace u:=st_ u hb;have ca:=Ge_.mk ((by rw[hg];exact(ks_ HK):w.heap.size≤l));replace HK:=kt_ HK hb;have Ia:=gt_ ma ca;have P:=IsS102.nl_ d hg;replace d:=IsS102.bk_ d hb;have q:=ns_ P;clear hb hg)|((with_reducible refine gate_callee (f:=52) rfl ?_);refine gl_ (some 5) Tryz.func52 #[.pointer (some ⟨g,0,none⟩)] ?_;(with_reducible refine(spec_l4Draw.calls k g j L O m r n o y z D _ ?_ ?_ A2.1).mono ?_);exact IsS102.pk_ d.1;exact hs_ u.1;rintro e w7 ⟨Gc,rfl,G,hi,hb,hk⟩;refine⟨_,rfl,?_⟩;replace a:=kb_ hk a;have c:=rl_ G HK;replace HK:=kh_ HK hk;replace u:=M_ (hb);replace d:=M_ (hi);(try clear hb hk hi G))|(((with_reducible refine gd_ 3 rfl ?_);refine bV_ 3 #[.slice none 0 0,.int .i64 0,.int .i64 0,.string (⟨#[]⟩:ByteArray)] 29 ?_;intro x hg w8 b hb;obtain⟨c,u⟩:=u2_ hb c u;have da:=Ge_.mk ((by rw[hg];exact(ks_ HK):w.heap.size≤x));replace HK:=kt_ HK hb;have Ja:=gt_ ma da;obtain⟨ea,E,a⟩:=nb_ a hg hb;have Q:=IsS102.nl_ d hg;replace d:=IsS102.bk_ d hb;have S:=ns_ Q;clear hb hg;obtain⟨A,B,Ka⟩:=Kd.R_slice c.1;subst Ka;have La:=n2_ E;have Ma:=n2_ S;obtain⟨Na,Oa,Pa,Qa,Ra,Sa,Ta,Ua⟩:=bc4_ b.1);refine Aside0.out ?_))
 have H:=AHz_.1
 clear AHz_
 replace H:=ie_ H;rcases H with⟨c4,H⟩|⟨c4,H⟩
 ·
  have oa:(i==0)=true:=beq_iff_eq.mpr c4
  have pa:(i !=0)=false:=bne_eq_false_iff_eq.mpr c4
  clear c4
  replace H:=bi_ H;obtain⟨⟨T,qa,ra⟩,A5,H⟩:=H;(try dsimp only at H)
  simp only[Option.some.injEq,Prod.mk.injEq] at H
  obtain⟨rfl,rfl,rfl,rfl,rfl,rfl⟩:=H
  refine⟨?_⟩
  go_wp2_with (first|((with_reducible refine gate_callee (f:=69) rfl ?_);refine gl_ (some 7) Tryz.func69 #[.pointer (some ⟨g,0,none⟩),.int .i64 12] ?_;(with_reducible refine(spec_l1Below.calls g j y z 12 i s t D _ ?_ ?_ A3.1).mono ?_);exact IsS102.pk_ d.1;exact hs_ u.1;rintro e Lc ⟨rfl,hi,hb,hk⟩;refine⟨_,rfl,?_⟩;replace a:=kc_ hk a #[.slice none 0 0,.int .i64 0,.int .i64 0,.string (⟨#[]⟩:ByteArray)];replace c:=M_ (Kd.R_mono (Kd.R_keep (IsS102.apart (IsS102.pk_ d.1) (ry_ c.1 b.1) (by decide)) hk (fun _ h=>h.2)) (fun _ h=>h.1));replace b:=kc_ hk b #[.slice A m.length B,.int .i64 r,.int .i64 n,.string o];replace HK:=kh_ HK hk;replace u:=M_ (hb);replace d:=M_ (hi);(try clear hb hk hi))|((with_reducible refine gate_callee (f:=129) rfl ?_);refine gl_ (some 11) Tryz.func129 #[.pointer (some ⟨g,0,none⟩)] ?_;(with_reducible refine(spec_l2Any.calls k g j s t T qa ra D _ ?_ ?_ A5.1).mono ?_);exact IsS102.pk_ d.1;exact hs_ u.1;rintro e Mc ⟨Hc,rfl,G,hi,hb,hk⟩;refine⟨_,rfl,?_⟩;replace a:=kb_ hk a;replace b:=kb_ hk b;have U:=M_ (Kd.R_lower (Kd.R_new' G (Kd.R_lt (rp_ c.1))) (ks_ HK));replace c:=M_ (Kd.R_mono (Kd.R_told (Kd.R_oldK (IsS102.apart (IsS102.pk_ d.1) (rp_ c.1) (by decide)) hk) (Kd.R_base G)) (fun _ h_=>h_.1));replace HK:=kh_ HK hk;replace u:=M_ (hb);replace d:=M_ (hi);(try clear hb hk hi G);obtain⟨aa,ba,sa⟩:=Kd.R_slice U.1;subst sa;obtain⟨Va,Wa,Xa,Ya,Za,ab,bb,cb⟩:=bc4_ b.1;have db:=n2_ q;obtain⟨eb,fb,gb,ib,jb,kb,lb,mb⟩:=bc4_ a.1))
  refine bodyPost_ret (results_cell_row rfl _ _ l 29 #[.slice aa T.length ba,.int .i64 r,.int .i64 n,.string o] (0,0) _ rfl (bp_ a.1) Tryz.underlying29 rfl (by kernel_rfl)) rfl ?_
  exact⟨_,rr_,Kd.R_mono (rf_ l (Kd.R_far (p:=⟨x,0,none⟩) (Kd.R_types (Kd.R_types U.1 b.1 (by decide)) a.1 (by decide)) (fun _ hk=>hk.1.2) (.slice aa T.length ba)) (fun _ hk=>hk.2)) (fun _ hk=>trivial),IsS102.pk_ d.1,hs_ u.1,ku_ HK.1⟩
 have oa:(i==0)=false:=beq_eq_false_iff_ne.mpr c4
 have pa:(i !=0)=true:=bne_iff_ne.mpr c4
 replace H:=ie_ H;rcases H with⟨I,H⟩|⟨I,H⟩
 ·
  have fa:(i==1)=true:=beq_iff_eq.mpr I
  have ga:(i !=1)=false:=bne_eq_false_iff_eq.mpr I
  clear I
  obtain⟨V,hy_⟩:∃y_:List Int,y_=(([(-1),99999,100000]:List Int)):=⟨_,rfl⟩
  replace H:((spec_l1Int.f j s t V).bind fun F=>(some (m,F.1,n,o,F.2.1,F.2.2)))=some (r1,r2,r3,r4,r5,r6):=hm_
  have W:=M_ hy_;clear hy_
  replace H:=bi_ H;obtain⟨⟨X,ta,ua⟩,nb,H⟩:=H;(try dsimp only at H)
  simp only[Option.some.injEq,Prod.mk.injEq] at H
  obtain⟨rfl,rfl,rfl,rfl,rfl,rfl⟩:=H
  refine⟨?_⟩
  go_wp2_with (first|((with_reducible refine gate_callee (f:=69) rfl ?_);refine gl_ (some 7) Tryz.func69 #[.pointer (some ⟨g,0,none⟩),.int .i64 12] ?_;(with_reducible refine(spec_l1Below.calls g j y z 12 i s t D _ ?_ ?_ A3.1).mono ?_);exact IsS102.pk_ d.1;exact hs_ u.1;rintro e Nc ⟨rfl,hi,hb,hk⟩;refine⟨_,rfl,?_⟩;replace a:=kc_ hk a #[.slice none 0 0,.int .i64 0,.int .i64 0,.string (⟨#[]⟩:ByteArray)];replace c:=M_ (Kd.R_mono (Kd.R_keep (IsS102.apart (IsS102.pk_ d.1) (ry_ c.1 b.1) (by decide)) hk (fun _ h=>h.2)) (fun _ h=>h.1));replace b:=kc_ hk b #[.slice A m.length B,.int .i64 r,.int .i64 n,.string o];replace HK:=kh_ HK hk;replace u:=M_ (hb);replace d:=M_ (hi);(try clear hb hk hi))|((with_reducible refine gd_ 16 rfl ?_);refine Kd.R_lit (Kd.int .i64) _ 3 ?hg (N:=16) ?hd (xs:=([(-1),99999,100000]:List Int)) (inner:=[.int .i64 (-1),.int .i64 99999,.int .i64 100000]) (ok:=fun _=>True) (okp:=fun _=>True) ?hr ?hp (fun _ hk=>hk) trivial (Below.refl _ _) (Nat.le_refl _) (by simp) ?_;(case hd=>rfl);(case hg=>rfl);(case hr=>first|(go_simp;done)|(go_simp;rfl));(case hp=>exact(Reps.one (show Kd.M (Kd.int .i64) _ _ _ (-1) [.int .i64 (-1)] from rfl) (Reps.one (show Kd.M (Kd.int .i64) _ _ _ 99999 [.int .i64 99999] from rfl) (Reps.one (show Kd.M (Kd.int .i64) _ _ _ 100000 [.int .i64 100000] from rfl) (Reps.none _ _)))));intro Ic Oc C hb hg_ hnew_;clear hg_ hnew_;(first|rw[←W.1] at C|(simp only[Int.reduceToNat] at C;rw[←W.1] at C));replace c:=rb_ c hb;have v:=rl_ C HK;replace d:=IsS102.bk_ d hb;obtain⟨a,b⟩:=u2_ hb a b;replace HK:=kt_ HK hb;replace u:=st_ u hb;clear hb C;obtain⟨va,wa,xa⟩:=Kd.R_slice v.1;subst xa)|((with_reducible refine gate_callee (f:=66) rfl ?_);refine gl_ (some 17) Tryz.func66 #[.pointer (some ⟨g,0,none⟩),.slice va V.length wa] ?_;(with_reducible refine(spec_l1Int.calls g j s t _ _ V X ta ua D _ ?_ ?_ ?_ ?_ ?_ nb.1).mono ?_);exact IsS102.pk_ d.1;exact hs_ u.1;exact cp_ ((Kd.R_reads' v.1).2.2);exact(Kd.R_reads' v.1).2.1;exact far_slice (IsS102.own_ne d.1 v.1 (by decide));rintro e Pc ⟨rfl,hi,hb,hk⟩;refine⟨_,rfl,?_⟩;replace a:=kb_ hk a;replace c:=IsS102.rk_ d c hk;replace b:=kb_ hk b;replace v:=IsS102.rk_ d v hk;replace HK:=kh_ HK hk;replace u:=M_ (hb);replace d:=M_ (hi);(try clear hb hk hi);obtain⟨ob,pb,qb,rb,sb,tb,ub,vb⟩:=bc4_ b.1;have wb:=n2_ q;obtain⟨xb,yb,zb,Ab,Bb,Cb,Db,Eb⟩:=bc4_ a.1))
  refine bodyPost_ret (results_cell_row rfl _ _ l 29 #[.slice A m.length B,.int .i64 X,.int .i64 n,.string o] (0,0) _ rfl (bp_ a.1) Tryz.underlying29 rfl (by kernel_rfl)) rfl ?_
  exact⟨_,rr_,Kd.R_mono (rf_ l (Kd.R_far (p:=⟨x,1,none⟩) (Kd.R_types (Kd.R_types c.1 b.1 (by decide)) a.1 (by decide)) (fun _ hk=>hk.1.2) (.int .i64 X)) (fun _ hk=>hk.2)) (fun _ hk=>trivial),IsS102.pk_ d.1,hs_ u.1,ku_ HK.1⟩
 have fa:(i==1)=false:=beq_eq_false_iff_ne.mpr I
 have ga:(i !=1)=true:=bne_iff_ne.mpr I
 replace H:=ie_ H;rcases H with⟨J,H⟩|⟨J,H⟩
 ·
  have ha:(i==2)=true:=beq_iff_eq.mpr J
  have ia:(i !=2)=false:=bne_eq_false_iff_eq.mpr J
  clear J
  replace H:=bi_ H;obtain⟨⟨Y,ya,za⟩,Fb,H⟩:=H;(try dsimp only at H)
  simp only[Option.some.injEq,Prod.mk.injEq] at H
  obtain⟨rfl,rfl,rfl,rfl,rfl,rfl⟩:=H
  refine⟨?_⟩
  go_wp2_with (first|((with_reducible refine gate_callee (f:=69) rfl ?_);refine gl_ (some 7) Tryz.func69 #[.pointer (some ⟨g,0,none⟩),.int .i64 12] ?_;(with_reducible refine(spec_l1Below.calls g j y z 12 i s t D _ ?_ ?_ A3.1).mono ?_);exact IsS102.pk_ d.1;exact hs_ u.1;rintro e Qc ⟨rfl,hi,hb,hk⟩;refine⟨_,rfl,?_⟩;replace a:=kc_ hk a #[.slice none 0 0,.int .i64 0,.int .i64 0,.string (⟨#[]⟩:ByteArray)];replace c:=M_ (Kd.R_mono (Kd.R_keep (IsS102.apart (IsS102.pk_ d.1) (ry_ c.1 b.1) (by decide)) hk (fun _ h=>h.2)) (fun _ h=>h.1));replace b:=kc_ hk b #[.slice A m.length B,.int .i64 r,.int .i64 n,.string o];replace HK:=kh_ HK hk;replace u:=M_ (hb);replace d:=M_ (hi);(try clear hb hk hi))|((with_reducible refine gate_callee (f:=130) rfl ?_);refine gl_ (some 22) Tryz.func130 #[.pointer (some ⟨g,0,none⟩)] ?_;(with_reducible refine(spec_l1Raw.calls g j s t Y ya za D _ ?_ ?_ Fb.1).mono ?_);exact IsS102.pk_ d.1;exact hs_ u.1;rintro e Rc ⟨rfl,hi,hb,hk⟩;refine⟨_,rfl,?_⟩;replace a:=kb_ hk a;replace c:=IsS102.rk_ d c hk;replace b:=kb_ hk b;replace HK:=kh_ HK hk;replace u:=M_ (hb);replace d:=M_ (hi);(try clear hb hk hi);obtain⟨Gb,Hb,Ib,Jb,Kb,Lb,Mb,Nb⟩:=bc4_ b.1;have Ob:=n2_ q;obtain⟨Pb,Qb,Rb,Sb,Tb,Ub,Vb,Wb⟩:=bc4_ a.1))
  refine bodyPost_ret (results_cell_row rfl _ _ l 29 #[.slice A m.length B,.int .i64 r,.int .i64 Y,.string o] (0,0) _ rfl (bp_ a.1) Tryz.underlying29 rfl (by kernel_rfl)) rfl ?_
  exact⟨_,rr_,Kd.R_mono (rf_ l (Kd.R_far (p:=⟨x,2,none⟩) (Kd.R_types (Kd.R_types c.1 b.1 (by decide)) a.1 (by decide)) (fun _ hk=>hk.1.2) (.int .i64 Y)) (fun _ hk=>hk.2)) (fun _ hk=>trivial),IsS102.pk_ d.1,hs_ u.1,ku_ HK.1⟩
 have ha:(i==2)=false:=beq_eq_false_iff_ne.mpr J
 have ia:(i !=2)=true:=bne_iff_ne.mpr J
 replace H:=ie_ H;rcases H with⟨K,H⟩|⟨K,H⟩
 ·
  have ja:(i==3)=true:=beq_iff_eq.mpr K
  have ka:(i !=3)=false:=bne_eq_false_iff_eq.mpr K
  clear K
  replace H:=bi_ H;obtain⟨⟨Z,Aa,Ba⟩,Xb,H⟩:=H;(try dsimp only at H)
  simp only[Option.some.injEq,Prod.mk.injEq] at H
  obtain⟨rfl,rfl,rfl,rfl,rfl,rfl⟩:=H
  refine⟨?_⟩
  go_wp2_with (first|((with_reducible refine gate_callee (f:=69) rfl ?_);refine gl_ (some 7) Tryz.func69 #[.pointer (some ⟨g,0,none⟩),.int .i64 12] ?_;(with_reducible refine(spec_l1Below.calls g j y z 12 i s t D _ ?_ ?_ A3.1).mono ?_);exact IsS102.pk_ d.1;exact hs_ u.1;rintro e Sc ⟨rfl,hi,hb,hk⟩;refine⟨_,rfl,?_⟩;replace a:=kc_ hk a #[.slice none 0 0,.int .i64 0,.int .i64 0,.string (⟨#[]⟩:ByteArray)];replace c:=M_ (Kd.R_mono (Kd.R_keep (IsS102.apart (IsS102.pk_ d.1) (ry_ c.1 b.1) (by decide)) hk (fun _ h=>h.2)) (fun _ h=>h.1));replace b:=kc_ hk b #[.slice A m.length B,.int .i64 r,.int .i64 n,.string o];replace HK:=kh_ HK hk;replace u:=M_ (hb);replace d:=M_ (hi);(try clear hb hk hi))|((with_reducible refine gate_callee (f:=131) rfl ?_);refine gl_ (some 27) Tryz.func131 #[.pointer (some ⟨g,0,none⟩)] ?_;(with_reducible refine(spec_l1AnyPlain.calls g j s t Z Aa Ba D _ ?_ ?_ Xb.1).mono ?_);exact IsS102.pk_ d.1;exact hs_ u.1;rintro e Tc ⟨rfl,hi,hb,hk⟩;refine⟨_,rfl,?_⟩;replace a:=kb_ hk a;replace c:=IsS102.rk_ d c hk;replace b:=kb_ hk b;replace HK:=kh_ HK hk;replace u:=M_ (hb);replace d:=M_ (hi);(try clear hb hk hi);obtain⟨Yb,Zb,ac,bc,cc,dc,ec,fc⟩:=bc4_ b.1;have gc:=n2_ q;obtain⟨hc,ic,jc,kc,lc,mc,nc,oc⟩:=bc4_ a.1))
  refine bodyPost_ret (results_cell_row rfl _ _ l 29 #[.slice A m.length B,.int .i64 r,.int .i64 n,.string Z] (0,0) _ rfl (bp_ a.1) Tryz.underlying29 rfl (by kernel_rfl)) rfl ?_
  exact⟨_,rr_,Kd.R_mono (rf_ l (Kd.R_far (p:=⟨x,3,none⟩) (Kd.R_types (Kd.R_types c.1 b.1 (by decide)) a.1 (by decide)) (fun _ hk=>hk.1.2) (.string Z)) (fun _ hk=>hk.2)) (fun _ hk=>trivial),IsS102.pk_ d.1,hs_ u.1,ku_ HK.1⟩
 have ja:(i==3)=false:=beq_eq_false_iff_ne.mpr K
 have ka:(i !=3)=true:=bne_iff_ne.mpr K
 simp only[Option.some.injEq,Prod.mk.injEq] at H
 obtain⟨rfl,rfl,rfl,rfl,rfl,rfl⟩:=H
 refine⟨?_⟩
 go_wp2_with (first|((with_reducible refine gate_callee (f:=69) rfl ?_);refine gl_ (some 7) Tryz.func69 #[.pointer (some ⟨g,0,none⟩),.int .i64 12] ?_;(with_reducible refine(spec_l1Below.calls g j y z 12 i s t D _ ?_ ?_ A3.1).mono ?_);exact IsS102.pk_ d.1;exact hs_ u.1;rintro e Uc ⟨rfl,hi,hb,hk⟩;refine⟨_,rfl,?_⟩;replace a:=kc_ hk a #[.slice none 0 0,.int .i64 0,.int .i64 0,.string (⟨#[]⟩:ByteArray)];replace c:=M_ (Kd.R_mono (Kd.R_keep (IsS102.apart (IsS102.pk_ d.1) (ry_ c.1 b.1) (by decide)) hk (fun _ h=>h.2)) (fun _ h=>h.1));replace b:=kc_ hk b #[.slice A m.length B,.int .i64 r,.int .i64 n,.string o];replace HK:=kh_ HK hk;replace u:=M_ (hb);replace d:=M_ (hi);(try clear hb hk hi);obtain⟨pc,qc,rc,sc,tc,uc,vc,wc⟩:=bc4_ b.1;have xc:=n2_ q;obtain⟨yc,zc,Ac,Bc,Cc,Dc,Ec,Fc⟩:=bc4_ a.1))
 refine bodyPost_ret (results_cell_row rfl _ _ l 29 #[.slice A m.length B,.int .i64 r,.int .i64 n,.string o] (0,0) _ rfl (bp_ a.1) Tryz.underlying29 rfl (by kernel_rfl)) rfl ?_
 exact⟨_,rr_,Kd.R_mono (ry_ c.1 a.1) (fun _ hk=>trivial),IsS102.pk_ d.1,hs_ u.1,ku_ HK.1⟩
def spec_l6Any.f (k:Nat) (g:List Int) (h:Int) (i:Int):Option (Int×(List S29)×Int×Int):=(spec_l6Draw.f k g h i).bind fun a=>((spec_l1Below.f g a.2.2.1 a.2.2.2 8).bind fun b=>(if b.1=0 then ((spec_l1Below.f g b.2.1 b.2.2 33).bind fun e=>(some (e.1,a.2.1,e.2.1,e.2.2))) else (if b.1=1 then ((spec_l4Any.f k g b.2.1 b.2.2).bind fun c=>(if a.2.1.length<2513169434916 then (some (a.1,(a.2.1++[(⟨c.1,c.2.1,c.2.2.1,c.2.2.2.1⟩:S29)]),c.2.2.2.2.1,c.2.2.2.2.2)) else (none))) else (if b.1=2 then (if 0<(a.2.1.length:Int) then ((spec_l4Copy.f ((rd_T29 a.2.1 0).f0) ((rd_T29 a.2.1 0).f1) ((rd_T29 a.2.1 0).f2) ((rd_T29 a.2.1 0).f3)).bind fun d=>(if a.2.1.length<2513169434916 then (some (a.1,(a.2.1++[(⟨d.1,d.2.1,d.2.2.1,d.2.2.2⟩:S29)]),b.2.1,b.2.2)) else (none))) else (none)) else (if b.1=3 then (some (a.1,(([]:List S29)),b.2.1,b.2.2)) else (some (a.1,a.2.1,b.2.1,b.2.2)))))))
def spec_l6Any.T6:Bool×List (List Nat×List Nat):=(true,[([],[]),([0],[0]),([],[]),([2],[2]),([3],[3]),([1,4,3],[1,4]),([0,1,2,3,4,5],[]),([6,5,5,0,1,2,3,4,5],[5,6])])
def spec_l6Any.B6:List Nat:=[0,1,0,4,12,31,63,127]
theorem spec_l6Any.tab6:rtab .any (opsOf Tryz.f91 6)=spec_l6Any.T6:=by kernel_rfl
theorem spec_l6Any.bits6:waitsOk spec_l6Any.T6.2 spec_l6Any.B6=true:=by kernel_rfl
def spec_l6Any.T8:Bool×List (List Nat×List Nat):=(true,[([],[]),([0],[0]),([],[]),([2],[2]),([3],[3]),([4],[4]),([5],[5]),([6],[6]),([1,7,6],[1,7]),([0,1,2,3,4,5,6,7,8],[]),([9,8,8,0,1,2,3,4,5,6,7,8],[8,9])])
def spec_l6Any.B8:List Nat:=[0,1,0,4,12,28,60,124,255,511,1023]
theorem spec_l6Any.tab8:rtab .any (opsOf Tryz.f91 8)=spec_l6Any.T8:=by kernel_rfl
theorem spec_l6Any.bits8:waitsOk spec_l6Any.T8.2 spec_l6Any.B8=true:=by kernel_rfl
theorem spec_l6Any.calls (k:Nat) (g:Nat) (B:List Int) (ra:Int) (sa:Int) (r1:Int) (r2:List S29) (r3:Int) (r4:Int) (w0 w:World) (hI:IsS102 w0 w g B ra sa) (hB:Below w0.heap.size w0 w) (h:spec_l6Any.f k B ra sa=some (r1,r2,r3,r4)) :
  Calls Tryz.prog 91 #[.pointer (some ⟨g,0,none⟩)] w fun e w'=>∃v1_:Value,e=.returned (.agg #[.int .i64 r1,v1_])∧Kd.S k29 29 w' w.heap.size (fun _=>True) v1_ r2∧IsS102 w0 w' g B r3 r4∧Below w0.heap.size w0 w'∧KeepBut w w' g none:=by
 have hu80:=Tryz.underlying80
 have hu29:=Tryz.underlying29
 have j:=M_ hI
 have HK:=M_ (KeepBut.refl w g none)
 have HL:=M_ hB.size
 clear hI
 have qb:=M_ hB.size
 have z:=M_ hB
 clear hB
 unfold spec_l6Any.f at h
 have H:=h;clear h
 replace H:=bi_ H;obtain⟨⟨q,d,T,U⟩,A2,H⟩:=H;(try dsimp only at H)
 replace H:=bi_ H;obtain⟨⟨l,J,L⟩,A3,H⟩:=H;(try dsimp only at H)
 have AHz_:=M_ H
 clear H
 go_enter Tryz.func91,Tryz.ntmps91
 go_wp2_with (first|((with_reducible refine gd_ 2 rfl ?_);refine bV_ 2 #[.int .i64 0,.slice none 0 0] 80 ?_;intro t hg w6 b hb;replace z:=st_ z hb;have Ya:=Ge_.mk ((by rw[hg];exact(ks_ HK):w.heap.size≤t));replace HK:=kt_ HK hb;have Jb:=gt_ qb Ya;have ta:=IsS102.nl_ j hg;replace j:=IsS102.bk_ j hb;have C:=ns_ ta;clear hb hg)|((with_reducible refine gate_callee (f:=114) rfl ?_);refine gl_ (some 5) Tryz.func114 #[.pointer (some ⟨g,0,none⟩)] ?_;(with_reducible refine(spec_l6Draw.calls k g B ra sa q d T U w0 _ ?_ ?_ A2.1).mono ?_);exact IsS102.pk_ j.1;exact hs_ z.1;rintro e w7 ⟨Uc,rfl,M,hi,hb,hk⟩;refine⟨_,rfl,?_⟩;replace b:=kb_ hk b;have c:=sl_ M HK;replace HK:=kh_ HK hk;replace z:=M_ (hb);replace j:=M_ (hi);(try clear hb hk hi M))|(((with_reducible refine gd_ 3 rfl ?_);refine bV_ 3 #[.int .i64 0,.slice none 0 0] 80 ?_;intro r hg w8 a hb;obtain⟨c,z⟩:=u2_ hb c z;have Za:=Ge_.mk ((by rw[hg];exact(ks_ HK):w.heap.size≤r));replace HK:=kt_ HK hb;have Kb:=gt_ qb Za;obtain⟨O,I,b⟩:=nb_ b hg hb;have ua:=IsS102.nl_ j hg;replace j:=IsS102.bk_ j hb;have va:=ns_ ua;clear hb hg;have Vc:=n2_ I;have Lb:=n2_ va;obtain⟨Mb,Nb,Ob,Pb⟩:=bc2_ a.1;obtain⟨A,m,sb⟩:=Kd.S_slice c.1;subst sb);refine Aside0.out ?_))
 have H:=AHz_.1
 clear AHz_
 replace H:=ie_ H;rcases H with⟨c4,H⟩|⟨c4,H⟩
 ·
  have tb:(l==0)=true:=beq_iff_eq.mpr c4
  have ub:(l !=0)=false:=bne_eq_false_iff_eq.mpr c4
  clear c4
  replace H:=bi_ H;obtain⟨⟨wa,vb,wb⟩,A5,H⟩:=H;(try dsimp only at H)
  simp only[Option.some.injEq,Prod.mk.injEq] at H
  obtain⟨rfl,rfl,rfl,rfl⟩:=H
  refine⟨?_⟩
  go_wp2_with (first|((with_reducible refine gate_callee (f:=69) rfl ?_);refine gl_ (some 7) Tryz.func69 #[.pointer (some ⟨g,0,none⟩),.int .i64 8] ?_;(with_reducible refine(spec_l1Below.calls g B T U 8 l J L w0 _ ?_ ?_ A3.1).mono ?_);exact IsS102.pk_ j.1;exact hs_ z.1;rintro e fd ⟨rfl,hi,hb,hk⟩;refine⟨_,rfl,?_⟩;replace b:=kc_ hk b #[.int .i64 0,.slice none 0 0];replace c:=M_ (Kd.S_mono (Kd.S_keep (IsS102.apartS (IsS102.pk_ j.1) (sy_ c.1 a.1) (by decide)) hk (fun _ h=>h.2)) (fun _ h=>h.1));replace a:=kc_ hk a #[.int .i64 q,.slice A d.length m];replace HK:=kh_ HK hk;replace z:=M_ (hb);replace j:=M_ (hi);(try clear hb hk hi))|((with_reducible refine gate_callee (f:=69) rfl ?_);refine gl_ (some 11) Tryz.func69 #[.pointer (some ⟨g,0,none⟩),.int .i64 33] ?_;(with_reducible refine(spec_l1Below.calls g B J L 33 wa vb wb w0 _ ?_ ?_ A5.1).mono ?_);exact IsS102.pk_ j.1;exact hs_ z.1;rintro e gd ⟨rfl,hi,hb,hk⟩;refine⟨_,rfl,?_⟩;replace b:=kb_ hk b;replace c:=IsS102.sk_ j c hk;replace a:=kb_ hk a;replace HK:=kh_ HK hk;replace z:=M_ (hb);replace j:=M_ (hi);(try clear hb hk hi);obtain⟨Qb,Rb,Sb,Tb⟩:=bc2_ a.1;have Ub:=n2_ C;obtain⟨Vb,Wb,Xb,Yb⟩:=bc2_ b.1))
  refine bodyPost_ret (results_cell_row rfl _ _ t 80 #[.int .i64 wa,.slice A d.length m] (0,0) _ rfl (bp_ b.1) Tryz.underlying80 rfl (by kernel_rfl)) rfl ?_
  exact⟨_,rr_,Kd.S_mono (sf_ t (Kd.S_far (p:=⟨r,0,none⟩) (Kd.S_types (Kd.S_types c.1 a.1 (by decide)) b.1 (by decide)) (fun _ hk=>hk.1.2) (.int .i64 wa)) (fun _ hk=>hk.2)) (fun _ hk=>trivial),IsS102.pk_ j.1,hs_ z.1,ku_ HK.1⟩
 have tb:(l==0)=false:=beq_eq_false_iff_ne.mpr c4
 have ub:(l !=0)=true:=bne_iff_ne.mpr c4
 replace H:=ie_ H;rcases H with⟨oa,H⟩|⟨oa,H⟩
 ·
  have ab:(l==1)=true:=beq_iff_eq.mpr oa
  have bb:(l !=1)=false:=bne_eq_false_iff_eq.mpr oa
  clear oa
  replace H:=bi_ H;obtain⟨⟨V,aa,ba,ca,Ka,La⟩,Zb,H⟩:=H;(try dsimp only at H)
  replace H:=im_ H;obtain⟨cb,H⟩:=H
  obtain⟨xa,hy_⟩:∃y_:List S29,y_=(d++[(⟨V,aa,ba,ca⟩:S29)]):=⟨_,rfl⟩
  replace H:(some (q,xa,Ka,La))=some (r1,r2,r3,r4):=hm_
  have db:=M_ hy_;clear hy_
  simp only[Option.some.injEq,Prod.mk.injEq] at H
  obtain⟨rfl,rfl,rfl,rfl⟩:=H
  refine⟨?_⟩
  try go_wp2_with (first|((with_reducible refine gate_callee (f:=69) rfl ?_);refine gl_ (some 7) Tryz.func69 #[.pointer (some ⟨g,0,none⟩),.int .i64 8] ?_;(with_reducible refine(spec_l1Below.calls g B T U 8 l J L w0 _ ?_ ?_ A3.1).mono ?_);exact IsS102.pk_ j.1;exact hs_ z.1;rintro e ac ⟨rfl,hi,hb,hk⟩;refine⟨_,rfl,?_⟩;replace b:=kc_ hk b #[.int .i64 0,.slice none 0 0];replace c:=M_ (Kd.S_mono (Kd.S_keep (IsS102.apartS (IsS102.pk_ j.1) (sy_ c.1 a.1) (by decide)) hk (fun _ h=>h.2)) (fun _ h=>h.1));replace a:=kc_ hk a #[.int .i64 q,.slice A d.length m];replace HK:=kh_ HK hk;replace z:=M_ (hb);replace j:=M_ (hi);(try clear hb hk hi)))
  obtain⟨c,b,a⟩:=y3_ c b a
  replace j:=M_ (IsS102.drew j.1)
  replace HK:=M_ (keep_drew HK.1)
  replace z:=db_ z
  refine start_ (n:=8) (S:=fun w'=>c_ w' r 0 (.int .i64 q)∧c_ w' r 1 (.slice A d.length m)) (ds:=[7]) (b_ 0 8) (by kernel_rfl) rfl rfl (e2_ a.1) (fun i=>?_);refine with_tabW spec_l6Any.tab6 spec_l6Any.bits6 (fun s ya=>?_)
  generalize ac.drew=jd at c b a j HK z i ⊢
  refine p_ s ?_
  refine qw_ 2 (m_ 8 5) s ?_
  refine qt_ 1 (b_ 3 5) s ya i ?_
  refine o1_ 3 (b_ 4 4) s (fun K Z=>?_)
  refine gs_ Tryz.func115 #[.pointer (some ⟨g,0,none⟩)] ?_
  with_reducible refine(spec_l4Any.calls k g B J L V aa ba ca Ka La w0 _ ?_ ?_ Zb.1).mono ?_
  exact IsS102.pk_ j.1
  exact hs_ z.1
  rintro e kd ⟨Wc,rfl,M,hi,hb,hk⟩
  refine⟨_,rfl,?_⟩
  replace b:=kb_ hk b
  replace c:=M_ (Kd.S_mono (Kd.S_told (Kd.S_oldK (IsS102.apartS (IsS102.pk_ j.1) (sp_ c.1) (by decide)) hk) (Kd.R_base M)) (fun _ h_=>h_.1))
  replace a:=kb_ hk a
  have X:=rl_ M HK
  replace HK:=kh_ HK hk
  replace z:=M_ (hb)
  replace j:=M_ (hi)
  (try clear hb hk hi M)
  obtain⟨Ma,Na,Oa⟩:=Kd.R_slice X.1
  (first|subst Oa|(obtain⟨rfl,rfl⟩:=si_ Oa))
  refine ho_ Z (e2_ a.1) (fun i=>?_)
  refine o1_ 4 (b_ 5 3) s (fun K Z=>?_)
  refine value_ (w1:=?_) (v:=?_) (by rfl) rfl ?_ ?_
  rotate_left 2
  ·
   go_simp
   constructor
   ·
    rfl
   rfl
  refine ho_ Z ⟨(blk_cell (blk_alloc a.1 _) 0).trans rfl,(blk_cell (blk_alloc a.1 _) 1).trans rfl⟩ (fun i=>?_)
  refine o1_ 5 (b_ 6 2) s (fun K Z=>?_)
  refine Kd.S_append_step k29 w.heap.size (by rfl) (.tmp 16) (.tmp 19) 40 29 (.agg #[(.slice none 0 0),(.int .i64 0),(.int .i64 0),(.string ⟨#[]⟩)]) 56 rfl Tryz.underlying40 info29 rfl (by decide) (by omega) (.slice A d.length m) d (⟨V,aa,ba,ca⟩:S29) [.slice Ma V.length Na,.int .i64 aa,.int .i64 ba,.string ca] (fun _=>True) (fun k_=>some k_=(.slice Ma V.length Na:Value).ownBlock) rfl rfl ?aP (fun k_ hk_=>((Kd.R_mono (ok':=fun k_=>((fun _=>True)) k_∧some k_≠(.slice A d.length m:Value).ownBlock) (Kd.R_apart' (X.1) (Kd.S_typed c.1) (by decide)) (fun k_ hk=>⟨trivial,hk.2⟩))).1 k_ hk_.symm) ?aF ?aO (Below.refl _ _) ?aS ?aL ?_
  (case aP=>exact k29_mkM _ _ _ (⟨V,aa,ba,ca⟩:S29) (Kd.R_mono (Kd.R_tight rfl (Kd.R_mono (ok':=fun k_=>((fun _=>True)) k_∧some k_≠(.slice A d.length m:Value).ownBlock) (Kd.R_apart' (X.1) (Kd.S_typed c.1) (by decide)) (fun k_ hk=>⟨trivial,hk.2⟩))) (fun _ h_=>h_)))
  (case aF=>exact(fun _ _=>trivial))
  (case aO=>exact(Kd.S_mono (sp_ c.1) (fun k_ hk=>⟨trivial,fun e_=>hk.2 e_⟩)))
  (case aS=>exact(ks_ HK))
  (case aL=>have:=cb.1;omega)
  intro Xc bc ho hb hg hat
  rw[←db.1] at ho
  replace j:=M_ (IsS102.grown (IsS102.pk_ j.1) hg (IsS102.own_neS j.1 c.1 (by decide)))
  replace b:=bg_ b hg c
  replace a:=bg_ a hg c
  replace z:=M_ (below_weaken (hs_ z.1) HL.out hb)
  replace HK:=M_ (KeepBut.trans (ku_ HK.1) (KeepBut.of_grown hg g) (Kd.S_base2 c.1))
  have za:=M_ (ho)
  clear c X
  clear ho hb hg hat
  obtain⟨Pa,Qa,Ra⟩:=Kd.S_slice za.1
  (first|subst Ra|(obtain⟨rfl,rfl⟩:=si_ Ra))
  refine ho_ Z (e2_ a.1) (fun i=>?_)
  refine p_ s ?_
  refine l1_ 7 (b_ 8 0) s (fun K Z=>?_)
  have Yc:bc.cell? ⟨r,1,none⟩=some (.slice A d.length m):=bx_ a.1 1
  have cc:=blk_frozen a.1 1
  have xb:=O.1
  have yb:=I.1
  refine skip_ (w1:=?_) (by rfl) rfl ?_ ?_
  rotate_left
  ·
   go_simp
   rfl
  refine Z.out _ _ ?_
  clear Z K
  refine done_ (done_of s.1 (by kernel_rfl)) ?_
  obtain⟨dc,ec,fc,gc⟩:=bc2_ a.1
  have hc:=n2_ C
  obtain⟨ic,jc,kc,lc⟩:=bc2_ b.1
  try go_wp2
  refine bodyPost_ret (results_cell_row rfl _ _ t 80 #[.int .i64 q,.slice Pa xa.length Qa] (0,0) _ rfl (bp_ b.1) Tryz.underlying80 rfl (by kernel_rfl)) rfl ?_
  exact⟨_,rr_,Kd.S_mono (sf_ t (Kd.S_far (p:=⟨r,1,none⟩) (Kd.S_types (Kd.S_types za.1 a.1 (by decide)) b.1 (by decide)) (fun _ hk=>hk.1.2) (.slice Pa xa.length Qa)) (fun _ hk=>hk.2)) (fun _ hk=>trivial),IsS102.pk_ j.1,hs_ z.1,ku_ HK.1⟩
 have ab:(l==1)=false:=beq_eq_false_iff_ne.mpr oa
 have bb:(l !=1)=true:=bne_iff_ne.mpr oa
 replace H:=ie_ H;rcases H with⟨pa,H⟩|⟨pa,H⟩
 ·
  have eb:(l==2)=true:=beq_iff_eq.mpr pa
  have fb:(l !=2)=false:=bne_eq_false_iff_eq.mpr pa
  clear pa
  replace H:=in_ H;obtain⟨zb,H⟩:=H
  have mc:=decide_eq_true zb
  have nc:decide (0<d.length)=true:=decide_eq_true (by omega)
  clear zb
  replace H:=bi_ H;obtain⟨⟨P,da,ea,fa⟩,oc,H⟩:=H;(try dsimp only at H)
  replace H:=im_ H;obtain⟨gb,H⟩:=H
  obtain⟨Aa,hy_⟩:∃y_:List S29,y_=(d++[(⟨P,da,ea,fa⟩:S29)]):=⟨_,rfl⟩
  replace H:(some (q,Aa,J,L))=some (r1,r2,r3,r4):=hm_
  have ib:=M_ hy_;clear hy_
  simp only[Option.some.injEq,Prod.mk.injEq] at H
  obtain⟨rfl,rfl,rfl,rfl⟩:=H
  refine⟨?_⟩
  try go_wp2_with (first|((with_reducible refine gate_callee (f:=69) rfl ?_);refine gl_ (some 7) Tryz.func69 #[.pointer (some ⟨g,0,none⟩),.int .i64 8] ?_;(with_reducible refine(spec_l1Below.calls g B T U 8 l J L w0 _ ?_ ?_ A3.1).mono ?_);exact IsS102.pk_ j.1;exact hs_ z.1;rintro e pc ⟨rfl,hi,hb,hk⟩;refine⟨_,rfl,?_⟩;replace b:=kc_ hk b #[.int .i64 0,.slice none 0 0];replace c:=M_ (Kd.S_mono (Kd.S_keep (IsS102.apartS (IsS102.pk_ j.1) (sy_ c.1 a.1) (by decide)) hk (fun _ h=>h.2)) (fun _ h=>h.1));replace a:=kc_ hk a #[.int .i64 q,.slice A d.length m];replace HK:=kh_ HK hk;replace z:=M_ (hb);replace j:=M_ (hi);(try clear hb hk hi)))
  obtain⟨c,b,a⟩:=y3_ c b a
  replace j:=M_ (IsS102.drew j.1)
  replace HK:=M_ (keep_drew HK.1)
  replace z:=db_ z
  have ja:0≤(0:Int):=(by omega)
  have ka:0<(d.length:Int):=of_decide_eq_true (by with_reducible assumption)
  obtain⟨o,la,ma,Ab,u,D,E,F,ga,ha⟩:=at_T29 (Kd.S_reads' c.1).2.2 0 ja ka
  cases Ab
  obtain⟨qc,Ia,Ja,na⟩:=Kd.S_get c.1 z29 0 ja (by first|exact ka|exact of_decide_eq_true (by with_reducible assumption)|(have e_:=(Kd.S_reads' c.1).1;omega))
  obtain⟨Bb,rfl,Q⟩:=k29_openM Ja
  have G:=na 0 _ rfl
  rw[Nat.add_zero] at G
  replace G:=Option.some.inj (G.symm.trans u)
  rw[G] at Q
  have x:=M_ (show Kd.R k99 99 _ _ _ _ ((rd_T29 d 0).f0) from Q)
  clear G Q na Ia
  have qi803:(0<d.length)=True:=eq_true (by omega)
  (try rw[show ((0:Int)).toNat=0 from rfl] at u)
  (try rw[show 0*4=0 from rfl] at u)
  (try rw[Addr.add_zero'] at u)
  (try rw[show ((0:Int)).toNat=0 from rfl] at D)
  (try rw[show 0*4=0 from rfl] at D)
  (try rw[Addr.add_zero'] at D)
  (try rw[show ((0:Int)).toNat=0 from rfl] at E)
  (try rw[show 0*4=0 from rfl] at E)
  (try rw[Addr.add_zero'] at E)
  (try rw[show ((0:Int)).toNat=0 from rfl] at F)
  (try rw[show 0*4=0 from rfl] at F)
  (try rw[Addr.add_zero'] at F)
  have y:=M_ ha
  have Ba:=M_ ga
  clear ha ga
  replace ja:=eq_true ja;replace ka:=eq_true ka
  refine start_ (n:=11) (S:=fun w'=>c_ w' r 0 (.int .i64 q)∧c_ w' r 1 (.slice (some o) d.length m)∧w'.cell? o=some (.slice la ((rd_T29 d 0).f0).length ma)∧w'.cell? ⟨o.block,o.off+1,none⟩=some (.int .i64 ((rd_T29 d 0).f1))∧w'.cell? ⟨o.block,o.off+2,none⟩=some (.int .i64 ((rd_T29 d 0).f2))∧w'.cell? ⟨o.block,o.off+3,none⟩=some (.string ((rd_T29 d 0).f3))) (ds:=[8,10]) (b_ 0 11) (by kernel_rfl) rfl rfl ⟨bx_ a.1 0,bx_ a.1 1,u,D,E,F⟩ (fun i=>?_);refine with_tabW spec_l6Any.tab8 spec_l6Any.bits8 (fun s ya=>?_)
  generalize pc.drew=ld at c b a j HK z x y u D E F i ⊢
  refine p_ s ?_
  refine qw_ 2 (m_ 11 5) s ?_
  refine qt_ 1 (b_ 3 8) s ya i ?_
  refine t0_ s ya i ?_
  refine p_ s ?_
  refine t0_ s ya i ?_
  refine o1_ 6 (b_ 7 4) s (fun K Z=>?_)
  refine gs_ Tryz.func63 #[.agg #[.slice la ((rd_T29 d 0).f0).length ma,.int .i64 ((rd_T29 d 0).f1),.int .i64 ((rd_T29 d 0).f2),.string ((rd_T29 d 0).f3)]] ?_
  with_reducible refine(spec_l4Copy.calls _ _ ((rd_T29 d 0).f0) ((rd_T29 d 0).f1) ((rd_T29 d 0).f2) ((rd_T29 d 0).f3) P da ea fa _ ?side1 ?side2 oc.1).mono ?_
  (case side1=>repeat (first|exact(by repeat (first|(with_reducible exact y.1)|(with_reducible first|refine ca_ ?_ _|refine cn_ ?_ _|refine cd_ ?_)|exact y.1))|(with_reducible first|refine ca_ ?_ _|refine cn_ ?_ _|refine cd_ ?_)))
  (case side2=>exact Ba.1)
  rintro e md ⟨Zc,rfl,M,hb⟩
  have Cb:=(hb.cell (World.block_lt_of_cell? _ _ (i.2.2.1))).trans (i.2.2.1)
  have Db:=(hb.cell (World.block_lt_of_cell? _ _ (i.2.2.2.1))).trans (i.2.2.2.1)
  have Eb:=(hb.cell (World.block_lt_of_cell? _ _ (i.2.2.2.2.1))).trans (i.2.2.2.2.1)
  have Fb:=(hb.cell (World.block_lt_of_cell? _ _ (i.2.2.2.2.2))).trans (i.2.2.2.2.2)
  refine⟨_,rfl,?_⟩
  replace c:=M_ (Kd.S_elder' (sp_ c.1) (Kd.R_base M) hb)
  have Y:=M_ (Kd.R_lower (Kd.R_new' M (Kd.R_lt (rp_ x.1))) (ks_ HK))
  replace x:=M_ (Kd.R_elder' (rp_ x.1) (Kd.R_base M) hb)
  replace j:=IsS102.bk_ j hb
  obtain⟨b,a⟩:=u2_ hb b a
  replace y:=M_ (Kd.C_below (by repeat (first|(with_reducible exact y.1)|(with_reducible first|refine ca_ ?_ _|refine cn_ ?_ _|refine cd_ ?_)|exact y.1)) hb)
  replace HK:=kt_ HK hb
  replace z:=st_ z hb
  (try clear hb M)
  obtain⟨Ca,Da,Sa⟩:=Kd.R_slice Y.1
  (first|subst Sa|(obtain⟨rfl,rfl⟩:=si_ Sa))
  refine ho_ Z ⟨bx_ a.1 0,bx_ a.1 1,Cb,Db,Eb,Fb⟩ (fun i=>?_)
  refine o1_ 7 (b_ 8 3) s (fun K Z=>?_)
  refine value_ (w1:=?_) (v:=?_) (by rfl) rfl ?_ ?_
  rotate_left 2
  ·
   go_simp
   constructor
   ·
    rfl
   rfl
  refine ho_ Z ⟨(blk_cell (blk_alloc a.1 _) 0).trans rfl,(blk_cell (blk_alloc a.1 _) 1).trans rfl,(World.cell?_alloc_lt _ _ _ (World.block_lt_of_cell? _ _ (i.2.2.1))).trans (i.2.2.1),(World.cell?_alloc_lt _ _ _ (World.block_lt_of_cell? _ _ (i.2.2.2.1))).trans (i.2.2.2.1),(World.cell?_alloc_lt _ _ _ (World.block_lt_of_cell? _ _ (i.2.2.2.2.1))).trans (i.2.2.2.2.1),(World.cell?_alloc_lt _ _ _ (World.block_lt_of_cell? _ _ (i.2.2.2.2.2))).trans (i.2.2.2.2.2)⟩ (fun i=>?_)
  refine l1_ 8 (b_ 9 2) s (fun K Z=>?_)
  refine Kd.S_append_step k29 w.heap.size (by rfl) (.tmp 25) (.tmp 31) 40 29 (.agg #[(.slice none 0 0),(.int .i64 0),(.int .i64 0),(.string ⟨#[]⟩)]) 56 rfl Tryz.underlying40 info29 rfl (by decide) (by omega) (.slice (some o) d.length m) d (⟨P,da,ea,fa⟩:S29) [.slice Ca P.length Da,.int .i64 da,.int .i64 ea,.string fa] (fun _=>True) (fun k_=>some k_=(.slice Ca P.length Da:Value).ownBlock) rfl rfl ?aP (fun k_ hk_=>((Kd.R_mono (ok':=fun k_=>((fun _=>True)) k_∧some k_≠(.slice (some o) d.length m:Value).ownBlock) (Kd.R_apart' (Y.1) (Kd.S_typed c.1) (by decide)) (fun k_ hk=>⟨trivial,hk.2⟩))).1 k_ hk_.symm) ?aF ?aO (Below.refl _ _) ?aS ?aL ?_
  (case aP=>exact k29_mkM _ _ _ (⟨P,da,ea,fa⟩:S29) (Kd.R_mono (Kd.R_tight rfl (Kd.R_mono (ok':=fun k_=>((fun _=>True)) k_∧some k_≠(.slice (some o) d.length m:Value).ownBlock) (Kd.R_apart' (Y.1) (Kd.S_typed c.1) (by decide)) (fun k_ hk=>⟨trivial,hk.2⟩))) (fun _ h_=>h_)))
  (case aF=>exact(fun _ _=>trivial))
  (case aO=>exact(Kd.S_mono (sp_ c.1) (fun k_ hk=>⟨trivial,fun e_=>hk.2 e_⟩)))
  (case aS=>exact(ks_ HK))
  (case aL=>have:=gb.1;omega)
  intro ad rc ho hb hg hat
  rw[←ib.1] at ho
  replace j:=M_ (IsS102.grown (IsS102.pk_ j.1) hg (IsS102.own_neS j.1 c.1 (by decide)))
  replace b:=bg_ b hg c
  replace a:=bg_ a hg c
  replace x:=M_ (Kd.R_after (ok:=(fun k_=>some k_≠(.slice Ca P.length Da:Value).ownBlock)) (Kd.R_mono (rp_ x.1) (fun _ hk=>⟨hk.2,hk.1.2⟩)) hg hat)
  replace z:=M_ (below_weaken (hs_ z.1) HL.out hb)
  replace HK:=M_ (KeepBut.trans (ku_ HK.1) (KeepBut.of_grown hg g) (Kd.S_base2 c.1))
  have Ea:=M_ (ho)
  clear c Y
  clear ho hb hg hat
  obtain⟨Ta,Ua,Va⟩:=Kd.S_slice Ea.1
  (first|subst Va|(obtain⟨rfl,rfl⟩:=si_ Va))
  refine Z.out _ _ ?_
  clear Z K
  refine nm_ ?_
  refine p_ s ?_
  refine l1_ 10 (b_ 11 0) s (fun K Z=>?_)
  have bd:rc.cell? ⟨r,1,none⟩=some (.slice (some o) d.length m):=bx_ a.1 1
  have sc:=blk_frozen a.1 1
  have Gb:=O.1
  have Hb:=I.1
  refine skip_ (w1:=?_) (by rfl) rfl ?_ ?_
  rotate_left
  ·
   go_simp
   rfl
  refine Z.out _ _ ?_
  clear Z K
  refine done_ (done_of s.1 (by kernel_rfl)) ?_
  obtain⟨tc,uc,vc,wc⟩:=bc2_ a.1
  have xc:=n2_ C
  obtain⟨yc,zc,Ac,Bc⟩:=bc2_ b.1
  try go_wp2
  refine bodyPost_ret (results_cell_row rfl _ _ t 80 #[.int .i64 q,.slice Ta Aa.length Ua] (0,0) _ rfl (bp_ b.1) Tryz.underlying80 rfl (by kernel_rfl)) rfl ?_
  exact⟨_,rr_,Kd.S_mono (sf_ t (Kd.S_far (p:=⟨r,1,none⟩) (Kd.S_types (Kd.S_types Ea.1 a.1 (by decide)) b.1 (by decide)) (fun _ hk=>hk.1.2) (.slice Ta Aa.length Ua)) (fun _ hk=>hk.2)) (fun _ hk=>trivial),IsS102.pk_ j.1,hs_ z.1,ku_ HK.1⟩
 have eb:(l==2)=false:=beq_eq_false_iff_ne.mpr pa
 have fb:(l !=2)=true:=bne_iff_ne.mpr pa
 replace H:=ie_ H;rcases H with⟨qa,H⟩|⟨qa,H⟩
 ·
  have jb:(l==3)=true:=beq_iff_eq.mpr qa
  have kb:(l !=3)=false:=bne_eq_false_iff_eq.mpr qa
  clear qa
  obtain⟨Fa,hy_⟩:∃y_:List S29,y_=(([]:List S29)):=⟨_,rfl⟩
  replace H:(some (q,Fa,J,L))=some (r1,r2,r3,r4):=hm_
  have Ga:=M_ hy_;clear hy_
  simp only[Option.some.injEq,Prod.mk.injEq] at H
  obtain⟨rfl,rfl,rfl,rfl⟩:=H
  refine⟨?_⟩
  go_wp2_with (first|((with_reducible refine gate_callee (f:=69) rfl ?_);refine gl_ (some 7) Tryz.func69 #[.pointer (some ⟨g,0,none⟩),.int .i64 8] ?_;(with_reducible refine(spec_l1Below.calls g B T U 8 l J L w0 _ ?_ ?_ A3.1).mono ?_);exact IsS102.pk_ j.1;exact hs_ z.1;rintro e nd ⟨rfl,hi,hb,hk⟩;refine⟨_,rfl,?_⟩;replace b:=kc_ hk b #[.int .i64 0,.slice none 0 0];replace c:=M_ (Kd.S_mono (Kd.S_keep (IsS102.apartS (IsS102.pk_ j.1) (sy_ c.1 a.1) (by decide)) hk (fun _ h=>h.2)) (fun _ h=>h.1));replace a:=kc_ hk a #[.int .i64 q,.slice A d.length m];replace HK:=kh_ HK hk;replace z:=M_ (hb);replace j:=M_ (hi);(try clear hb hk hi))|((with_reducible refine gd_ 36 rfl ?_);refine Kd.S_lit k29 _ 29 ?hg (N:=36) ?hd (xs:=([]:List S29)) (inner:=[]) (ok:=fun _=>True) (okp:=fun _=>True) ?hr ?hp (fun _ hk=>hk) trivial (Below.refl _ _) (Nat.le_refl _) (by simp) ?_;(case hd=>rfl);(case hg=>rfl);(case hr=>first|(go_simp;done)|(go_simp;rfl));(case hp=>exact(Reps.none _ _));intro cd od W hb hg_ hnew_;clear hg_ hnew_;(first|rw[←Ga.1] at W|(simp only[Int.reduceToNat] at W;rw[←Ga.1] at W));have Ha:=M_ (Kd.S_lower (Kd.S_new' W (Kd.S_lt (sp_ c.1))) (ks_ HK));replace c:=M_ (Kd.S_elder' (sp_ c.1) (Kd.S_base W) hb);replace j:=IsS102.bk_ j hb;obtain⟨b,a⟩:=u2_ hb b a;replace HK:=kt_ HK hb;replace z:=st_ z hb;clear hb W;obtain⟨Wa,Xa,Ib⟩:=Kd.S_slice Ha.1;subst Ib;obtain⟨Cc,Dc,Ec,Fc⟩:=bc2_ a.1;have Gc:=n2_ C;obtain⟨Hc,Ic,Jc,Kc⟩:=bc2_ b.1))
  refine bodyPost_ret (results_cell_row rfl _ _ t 80 #[.int .i64 q,.slice Wa Fa.length Xa] (0,0) _ rfl (bp_ b.1) Tryz.underlying80 rfl (by kernel_rfl)) rfl ?_
  exact⟨_,rr_,Kd.S_mono (sf_ t (Kd.S_far (p:=⟨r,1,none⟩) (Kd.S_types (Kd.S_types Ha.1 a.1 (by decide)) b.1 (by decide)) (fun _ hk=>hk.1.2) (.slice Wa Fa.length Xa)) (fun _ hk=>hk.2)) (fun _ hk=>trivial),IsS102.pk_ j.1,hs_ z.1,ku_ HK.1⟩
 have jb:(l==3)=false:=beq_eq_false_iff_ne.mpr qa
 have kb:(l !=3)=true:=bne_iff_ne.mpr qa
 simp only[Option.some.injEq,Prod.mk.injEq] at H
 obtain⟨rfl,rfl,rfl,rfl⟩:=H
 refine⟨?_⟩
 go_wp2_with (first|((with_reducible refine gate_callee (f:=69) rfl ?_);refine gl_ (some 7) Tryz.func69 #[.pointer (some ⟨g,0,none⟩),.int .i64 8] ?_;(with_reducible refine(spec_l1Below.calls g B T U 8 l J L w0 _ ?_ ?_ A3.1).mono ?_);exact IsS102.pk_ j.1;exact hs_ z.1;rintro e pd ⟨rfl,hi,hb,hk⟩;refine⟨_,rfl,?_⟩;replace b:=kc_ hk b #[.int .i64 0,.slice none 0 0];replace c:=M_ (Kd.S_mono (Kd.S_keep (IsS102.apartS (IsS102.pk_ j.1) (sy_ c.1 a.1) (by decide)) hk (fun _ h=>h.2)) (fun _ h=>h.1));replace a:=kc_ hk a #[.int .i64 q,.slice A d.length m];replace HK:=kh_ HK hk;replace z:=M_ (hb);replace j:=M_ (hi);(try clear hb hk hi);obtain⟨Lc,Mc,Nc,Oc⟩:=bc2_ a.1;have Pc:=n2_ C;obtain⟨Qc,Rc,Sc,Tc⟩:=bc2_ b.1))
 refine bodyPost_ret (results_cell_row rfl _ _ t 80 #[.int .i64 q,.slice A d.length m] (0,0) _ rfl (bp_ b.1) Tryz.underlying80 rfl (by kernel_rfl)) rfl ?_
 exact⟨_,rr_,Kd.S_mono (sy_ c.1 b.1) (fun _ hk=>trivial),IsS102.pk_ j.1,hs_ z.1,ku_ HK.1⟩
def spec_l7Any.f (k:Nat) (e:List Int) (h:Int) (i:Int) (j:Int) (l:Int):Option (Int×Int×(List S80)×Int×Int):=(spec_l7Draw.f k e h i j l).bind fun a=>((spec_l1Below.f e a.2.2.2.1 a.2.2.2.2 12).bind fun b=>(if b.1=0 then ((spec_l1Int.f e b.2.1 b.2.2 (([(-2),4,5]:List Int))).bind fun d=>(some (d.1,a.2.1,a.2.2.1,d.2.1,d.2.2))) else (if b.1=1 then (some (a.1,(-1),a.2.2.1,b.2.1,b.2.2)) else (if b.1=2 then ((spec_l6Any.f k e b.2.1 b.2.2).bind fun c=>(if a.2.2.1.length<4398046511104 then (some (a.1,a.2.1,(a.2.2.1++[(⟨c.1,c.2.1⟩:S80)]),c.2.2.1,c.2.2.2)) else (none))) else (if b.1=3 then (if (a.2.2.1.length:Int)>0 then (if 0<(a.2.2.1.length:Int) then ((spec_l6Copy.f k ((rd_T80 a.2.2.1 0).f0) ((rd_T80 a.2.2.1 0).f1)).bind fun g=>(if a.2.2.1.length<4398046511104 then (some (a.1,a.2.1,(a.2.2.1++[(⟨g.1,g.2⟩:S80)]),b.2.1,b.2.2)) else (none))) else (none)) else (some (a.1,a.2.1,a.2.2.1,b.2.1,b.2.2))) else (some (a.1,a.2.1,a.2.2.1,b.2.1,b.2.2)))))))
def spec_l7Any.T8:Bool×List (List Nat×List Nat):=(true,[([],[]),([0],[0]),([],[]),([2],[2]),([3],[3]),([1,4,3],[1,4]),([0,1,2,3,4,5],[]),([6,5,5,0,1,2,3,4,5],[5,6])])
def spec_l7Any.B8:List Nat:=[0,1,0,4,12,31,63,127]
theorem spec_l7Any.tab8:rtab .any (opsOf Tryz.f51 8)=spec_l7Any.T8:=by kernel_rfl
theorem spec_l7Any.bits8:waitsOk spec_l7Any.T8.2 spec_l7Any.B8=true:=by kernel_rfl
def spec_l7Any.T11:Bool×List (List Nat×List Nat):=(true,[([],[]),([0],[0]),([],[]),([2],[2]),([3],[3]),([4],[4]),([5],[5]),([6],[6]),([1,7,6],[1,7]),([0,1,2,3,4,5,6,7,8],[]),([9,8,8,0,1,2,3,4,5,6,7,8],[8,9])])
def spec_l7Any.B11:List Nat:=[0,1,0,4,12,28,60,124,255,511,1023]
theorem spec_l7Any.tab11:rtab .any (opsOf Tryz.f51 11)=spec_l7Any.T11:=by kernel_rfl
theorem spec_l7Any.bits11:waitsOk spec_l7Any.T11.2 spec_l7Any.B11=true:=by kernel_rfl
theorem spec_l7Any.calls (k:Nat) (g:Nat) (x:List Int) (ra:Int) (sa:Int) (a1:Int) (a2:Int) (r1:Int) (r2:Int) (r3:List S80) (r4:Int) (r5:Int) (w0 w:World) (hI:IsS102 w0 w g x ra sa) (hB:Below w0.heap.size w0 w) (h:spec_l7Any.f k x ra sa a1 a2=some (r1,r2,r3,r4,r5)) :
  Calls Tryz.prog 51 #[.pointer (some ⟨g,0,none⟩),.int .i64 a1,.int .i64 a2] w fun e w'=>∃v2_:Value,e=.returned (.agg #[.int .i64 r1,.int .i64 r2,v2_])∧Kd.S k80 80 w' w.heap.size (fun _=>True) v2_ r3∧IsS102 w0 w' g x r4 r5∧Below w0.heap.size w0 w'∧KeepBut w w' g none:=by
 have hu26:=Tryz.underlying26
 have hu80:=Tryz.underlying80
 have d:=M_ hI
 have HK:=M_ (KeepBut.refl w g none)
 have HL:=M_ hB.size
 clear hI
 have wb:=M_ hB.size
 have u:=M_ hB
 clear hB
 unfold spec_l7Any.f at h
 have H:=h;clear h
 replace H:=bi_ H;obtain⟨⟨q,o,i,O,P⟩,A4,H⟩:=H;(try dsimp only at H)
 replace H:=bi_ H;obtain⟨⟨l,F,G⟩,A5,H⟩:=H;(try dsimp only at H)
 have AHz_:=M_ H
 clear H
 go_enter Tryz.func51,Tryz.ntmps51
 go_wp2_with (first|((with_reducible refine gd_ 6 rfl ?_);refine bV_ 6 #[.int .i64 0,.int .i64 0,.slice none 0 0] 26 ?_;intro s hg w8 b hb;replace u:=st_ u hb;have Xa:=Ge_.mk ((by rw[hg];exact(ks_ HK):w.heap.size≤s));replace HK:=kt_ HK hb;have cc:=gt_ wb Xa;have ta:=IsS102.nl_ d hg;replace d:=IsS102.bk_ d hb;have y:=ns_ ta;clear hb hg)|((with_reducible refine gate_callee (f:=90) rfl ?_);refine gl_ (some 11) Tryz.func90 #[.pointer (some ⟨g,0,none⟩),.int .i64 a1,.int .i64 a2] ?_;(with_reducible refine(spec_l7Draw.calls k g x ra sa a1 a2 q o i O P w0 _ ?_ ?_ A4.1).mono ?_);exact IsS102.pk_ d.1;exact hs_ u.1;rintro e w9 ⟨Zd,rfl,Q,hi,hb,hk⟩;refine⟨_,rfl,?_⟩;obtain⟨Ha,Ya⟩:=Kd.S_name Q;replace b:=kb_ hk b;have c:=M_ (Kd.S_lower (Kd.S_gez Ya Q) (ks_ HK));replace HK:=kh_ HK hk;replace u:=M_ (hb);replace d:=M_ (hi);(try clear hb hk hi Q))|(((with_reducible refine gd_ 7 rfl ?_);refine bV_ 7 #[.int .i64 0,.int .i64 0,.slice none 0 0] 26 ?_;intro m hg ie a hb;obtain⟨c,u⟩:=u2_ hb c u;have Za:=Ge_.mk ((by rw[hg];exact(ks_ HK):w.heap.size≤m));replace HK:=kt_ HK hb;have dc:=gt_ wb Za;obtain⟨R,I,b⟩:=nb_ b hg hb;have ua:=IsS102.nl_ d hg;replace d:=IsS102.bk_ d hb;have va:=ns_ ua;clear hb hg;have ec:=n2_ I;have fc:=n2_ va;obtain⟨gc,hc,ic,jc,kc,lc⟩:=bc3_ a.1;obtain⟨z,r,xb⟩:=Kd.S_slice c.1;subst xb);refine Aside0.out ?_))
 have H:=AHz_.1
 clear AHz_
 replace H:=ie_ H;rcases H with⟨c6,H⟩|⟨c6,H⟩
 ·
  have yb:(l==0)=true:=beq_iff_eq.mpr c6
  have zb:(l !=0)=false:=bne_eq_false_iff_eq.mpr c6
  clear c6
  obtain⟨wa,hy_⟩:∃y_:List Int,y_=(([(-2),4,5]:List Int)):=⟨_,rfl⟩
  replace H:((spec_l1Int.f x F G wa).bind fun da=>(some (da.1,o,i,da.2.1,da.2.2)))=some (r1,r2,r3,r4,r5):=hm_
  have xa:=M_ hy_;clear hy_
  replace H:=bi_ H;obtain⟨⟨ya,Ab,Bb⟩,A7,H⟩:=H;(try dsimp only at H)
  simp only[Option.some.injEq,Prod.mk.injEq] at H
  obtain⟨rfl,rfl,rfl,rfl,rfl⟩:=H
  refine⟨?_⟩
  go_wp2_with (first|((with_reducible refine gate_callee (f:=69) rfl ?_);refine gl_ (some 13) Tryz.func69 #[.pointer (some ⟨g,0,none⟩),.int .i64 12] ?_;(with_reducible refine(spec_l1Below.calls g x O P 12 l F G w0 _ ?_ ?_ A5.1).mono ?_);exact IsS102.pk_ d.1;exact hs_ u.1;rintro e ke ⟨rfl,hi,hb,hk⟩;refine⟨_,rfl,?_⟩;replace b:=kc_ hk b #[.int .i64 0,.int .i64 0,.slice none 0 0];replace c:=M_ (Kd.S_mono (Kd.S_keep (IsS102.apartS (IsS102.pk_ d.1) (sy_ c.1 a.1) (by decide)) hk (fun _ h=>h.2)) (fun _ h=>h.1));replace a:=kc_ hk a #[.int .i64 q,.int .i64 o,.slice z i.length r];replace HK:=kh_ HK hk;replace u:=M_ (hb);replace d:=M_ (hi);(try clear hb hk hi))|((with_reducible refine gd_ 17 rfl ?_);refine Kd.R_lit (Kd.int .i64) _ 3 ?hg (N:=17) ?hd (xs:=([(-2),4,5]:List Int)) (inner:=[.int .i64 (-2),.int .i64 4,.int .i64 5]) (ok:=fun _=>True) (okp:=fun _=>True) ?hr ?hp (fun _ hk=>hk) trivial (Below.refl _ _) (Nat.le_refl _) (by simp) ?_;(case hd=>rfl);(case hg=>rfl);(case hr=>first|(go_simp;done)|(go_simp;rfl));(case hp=>exact(Reps.one (show Kd.M (Kd.int .i64) _ _ _ (-2) [.int .i64 (-2)] from rfl) (Reps.one (show Kd.M (Kd.int .i64) _ _ _ 4 [.int .i64 4] from rfl) (Reps.one (show Kd.M (Kd.int .i64) _ _ _ 5 [.int .i64 5] from rfl) (Reps.none _ _)))));intro ae le V hb hg_ hnew_;clear hg_ hnew_;(first|rw[←xa.1] at V|(simp only[Int.reduceToNat] at V;rw[←xa.1] at V));replace c:=sb_ c hb;have J:=rl_ V HK;replace d:=IsS102.bk_ d hb;obtain⟨b,a⟩:=u2_ hb b a;replace HK:=kt_ HK hb;replace u:=st_ u hb;clear hb V;obtain⟨Cb,Db,Eb⟩:=Kd.R_slice J.1;subst Eb)|((with_reducible refine gate_callee (f:=66) rfl ?_);refine gl_ (some 18) Tryz.func66 #[.pointer (some ⟨g,0,none⟩),.slice Cb wa.length Db] ?_;(with_reducible refine(spec_l1Int.calls g x F G _ _ wa ya Ab Bb w0 _ ?_ ?_ ?_ ?_ ?_ A7.1).mono ?_);exact IsS102.pk_ d.1;exact hs_ u.1;exact cp_ ((Kd.R_reads' J.1).2.2);exact(Kd.R_reads' J.1).2.1;exact far_slice (IsS102.own_ne d.1 J.1 (by decide));rintro e me ⟨rfl,hi,hb,hk⟩;refine⟨_,rfl,?_⟩;replace b:=kb_ hk b;replace c:=IsS102.sk_ d c hk;replace a:=kb_ hk a;replace J:=IsS102.rk_ d J hk;replace HK:=kh_ HK hk;replace u:=M_ (hb);replace d:=M_ (hi);(try clear hb hk hi);obtain⟨mc,nc,oc,pc,qc,rc⟩:=bc3_ a.1;have sc:=n2_ y;obtain⟨tc,uc,vc,wc,xc,yc⟩:=bc3_ b.1))
  refine bodyPost_ret (results_cell_row rfl _ _ s 26 #[.int .i64 ya,.int .i64 o,.slice z i.length r] (0,0) _ rfl (bp_ b.1) Tryz.underlying26 rfl (by kernel_rfl)) rfl ?_
  exact⟨_,rr_,Kd.S_mono (sf_ s (Kd.S_far (p:=⟨m,0,none⟩) (Kd.S_types (Kd.S_types c.1 a.1 (by decide)) b.1 (by decide)) (fun _ hk=>hk.1.2) (.int .i64 ya)) (fun _ hk=>hk.2)) (fun _ hk=>trivial),IsS102.pk_ d.1,hs_ u.1,ku_ HK.1⟩
 have yb:(l==0)=false:=beq_eq_false_iff_ne.mpr c6
 have zb:(l !=0)=true:=bne_iff_ne.mpr c6
 replace H:=ie_ H;rcases H with⟨oa,H⟩|⟨oa,H⟩
 ·
  have ab:(l==1)=true:=beq_iff_eq.mpr oa
  have bb:(l !=1)=false:=bne_eq_false_iff_eq.mpr oa
  clear oa
  simp only[Option.some.injEq,Prod.mk.injEq] at H
  obtain⟨rfl,rfl,rfl,rfl,rfl⟩:=H
  refine⟨?_⟩
  go_wp2_with (first|((with_reducible refine gate_callee (f:=69) rfl ?_);refine gl_ (some 13) Tryz.func69 #[.pointer (some ⟨g,0,none⟩),.int .i64 12] ?_;(with_reducible refine(spec_l1Below.calls g x O P 12 l F G w0 _ ?_ ?_ A5.1).mono ?_);exact IsS102.pk_ d.1;exact hs_ u.1;rintro e ne ⟨rfl,hi,hb,hk⟩;refine⟨_,rfl,?_⟩;replace b:=kc_ hk b #[.int .i64 0,.int .i64 0,.slice none 0 0];replace c:=M_ (Kd.S_mono (Kd.S_keep (IsS102.apartS (IsS102.pk_ d.1) (sy_ c.1 a.1) (by decide)) hk (fun _ h=>h.2)) (fun _ h=>h.1));replace a:=kc_ hk a #[.int .i64 q,.int .i64 o,.slice z i.length r];replace HK:=kh_ HK hk;replace u:=M_ (hb);replace d:=M_ (hi);(try clear hb hk hi);obtain⟨zc,Ac,Bc,Cc,Dc,Ec⟩:=bc3_ a.1;have Fc:=n2_ y;obtain⟨Gc,Hc,Ic,Jc,Kc,Lc⟩:=bc3_ b.1))
  refine bodyPost_ret (results_cell_row rfl _ _ s 26 #[.int .i64 q,.int .i64 (-1),.slice z i.length r] (0,0) _ rfl (bp_ b.1) Tryz.underlying26 rfl (by kernel_rfl)) rfl ?_
  exact⟨_,rr_,Kd.S_mono (sf_ s (Kd.S_far (p:=⟨m,1,none⟩) (Kd.S_types (Kd.S_types c.1 a.1 (by decide)) b.1 (by decide)) (fun _ hk=>hk.1.2) (.int .i64 (-1))) (fun _ hk=>hk.2)) (fun _ hk=>trivial),IsS102.pk_ d.1,hs_ u.1,ku_ HK.1⟩
 have ab:(l==1)=false:=beq_eq_false_iff_ne.mpr oa
 have bb:(l !=1)=true:=bne_iff_ne.mpr oa
 replace H:=ie_ H;rcases H with⟨pa,H⟩|⟨pa,H⟩
 ·
  have cb:(l==2)=true:=beq_iff_eq.mpr pa
  have db:(l !=2)=false:=bne_eq_false_iff_eq.mpr pa
  clear pa
  replace H:=bi_ H;obtain⟨⟨W,X,Na,Oa⟩,Mc,H⟩:=H;(try dsimp only at H)
  replace H:=im_ H;obtain⟨eb,H⟩:=H
  obtain⟨za,hy_⟩:∃y_:List S80,y_=(i++[(⟨W,X⟩:S80)]):=⟨_,rfl⟩
  replace H:(some (q,o,za,Na,Oa))=some (r1,r2,r3,r4,r5):=hm_
  have fb:=M_ hy_;clear hy_
  simp only[Option.some.injEq,Prod.mk.injEq] at H
  obtain⟨rfl,rfl,rfl,rfl,rfl⟩:=H
  refine⟨?_⟩
  try go_wp2_with (first|((with_reducible refine gate_callee (f:=69) rfl ?_);refine gl_ (some 13) Tryz.func69 #[.pointer (some ⟨g,0,none⟩),.int .i64 12] ?_;(with_reducible refine(spec_l1Below.calls g x O P 12 l F G w0 _ ?_ ?_ A5.1).mono ?_);exact IsS102.pk_ d.1;exact hs_ u.1;rintro e Nc ⟨rfl,hi,hb,hk⟩;refine⟨_,rfl,?_⟩;replace b:=kc_ hk b #[.int .i64 0,.int .i64 0,.slice none 0 0];replace c:=M_ (Kd.S_mono (Kd.S_keep (IsS102.apartS (IsS102.pk_ d.1) (sy_ c.1 a.1) (by decide)) hk (fun _ h=>h.2)) (fun _ h=>h.1));replace a:=kc_ hk a #[.int .i64 q,.int .i64 o,.slice z i.length r];replace HK:=kh_ HK hk;replace u:=M_ (hb);replace d:=M_ (hi);(try clear hb hk hi)))
  obtain⟨c,b,a⟩:=y3_ c b a
  replace d:=M_ (IsS102.drew d.1)
  replace HK:=M_ (keep_drew HK.1)
  replace u:=db_ u
  refine start_ (n:=8) (S:=fun w'=>c_ w' m 0 (.int .i64 q)∧c_ w' m 1 (.int .i64 o)∧c_ w' m 2 (.slice z i.length r)) (ds:=[7]) (b_ 0 8) (by kernel_rfl) rfl rfl (e3_ a.1) (fun j=>?_);refine with_tabW spec_l7Any.tab8 spec_l7Any.bits8 (fun t Aa=>?_)
  generalize Nc.drew=oe at c b a d HK u j ⊢
  refine p_ t ?_
  refine qw_ 2 (m_ 8 5) t ?_
  refine qt_ 1 (b_ 3 5) t Aa j ?_
  refine o1_ 3 (b_ 4 4) t (fun K U=>?_)
  refine gs_ Tryz.func91 #[.pointer (some ⟨g,0,none⟩)] ?_
  with_reducible refine(spec_l6Any.calls k g x F G W X Na Oa w0 _ ?_ ?_ Mc.1).mono ?_
  exact IsS102.pk_ d.1
  exact hs_ u.1
  rintro e pe ⟨be,rfl,Q,hi,hb,hk⟩
  refine⟨_,rfl,?_⟩
  obtain⟨Ub,Ba⟩:=Kd.S_name Q
  replace b:=kb_ hk b
  replace c:=M_ (Kd.S_mono (Kd.S_keep (IsS102.apartS (IsS102.pk_ d.1) ((Kd.S_ltz Ba (sp_ c.1))) (by decide)) hk (fun _ h=>h.2)) (fun _ h=>h.1))
  replace a:=kb_ hk a
  have ea:=M_ (Kd.S_lower (Kd.S_gez Ba Q) (ks_ HK))
  replace HK:=kh_ HK hk
  replace u:=M_ (hb)
  replace d:=M_ (hi)
  (try clear hb hk hi Q)
  obtain⟨Fb,Gb,Pa⟩:=Kd.S_slice ea.1
  (first|subst Pa|(obtain⟨rfl,rfl⟩:=si_ Pa))
  obtain⟨gb,Ia,ha⟩:=Kd.S_fp (Kd.S_apart' (ea.1) (Kd.S_typed c.1) (by decide))
  refine ho_ U (e3_ a.1) (fun j=>?_)
  refine o1_ 4 (b_ 5 3) t (fun K U=>?_)
  refine value_ (w1:=?_) (v:=?_) (by rfl) rfl ?_ ?_
  rotate_left 2
  ·
   go_simp
   constructor
   ·
    rfl
   rfl
  refine ho_ U ⟨(blk_cell (blk_alloc a.1 _) 0).trans rfl,(blk_cell (blk_alloc a.1 _) 1).trans rfl,(blk_cell (blk_alloc a.1 _) 2).trans rfl⟩ (fun j=>?_)
  refine o1_ 5 (b_ 6 2) t (fun K U=>?_)
  refine Kd.S_append_step k80 w.heap.size (by rfl) (.tmp 26) (.tmp 29) 24 80 (.agg #[(.int .i64 0),(.slice none 0 0)]) 32 rfl Tryz.underlying24 info80 rfl (by decide) (by omega) (.slice z i.length r) i (⟨W,X⟩:S80) [.int .i64 W,.slice Fb X.length Gb] (fun _=>True) (fun k_=>gb k_) rfl rfl ?aP (fun k_ hk_=>⟨trivial,(ha k_ hk_).1.2⟩) ?aF ?aO (Below.refl _ _) ?aS ?aL ?_
  (case aP=>exact k80_mkM _ _ _ (⟨W,X⟩:S80) (Kd.S_mono Ia (fun _ h_=>h_)))
  (case aF=>exact(fun _ _=>trivial))
  (case aO=>exact(Kd.S_mono (sp_ c.1) (fun k_ hk=>⟨trivial,fun e_=>(fun ez_=>Nat.lt_irrefl _ (Nat.lt_of_lt_of_le hk.2 (ha _ ez_).1.1.2)) e_⟩)))
  (case aS=>exact(ks_ HK))
  (case aL=>have:=eb.1;omega)
  intro ce Oc ho hb hg hat
  rw[←fb.1] at ho
  replace d:=M_ (IsS102.grown (IsS102.pk_ d.1) hg (IsS102.own_neS d.1 c.1 (by decide)))
  replace b:=bg_ b hg c
  replace a:=bg_ a hg c
  replace u:=M_ (below_weaken (hs_ u.1) HL.out hb)
  replace HK:=M_ (KeepBut.trans (ku_ HK.1) (KeepBut.of_grown hg g) (Kd.S_base2 c.1))
  have Ca:=M_ (ho)
  clear c ea
  clear ho hb hg hat
  obtain⟨Qa,Ra,Sa⟩:=Kd.S_slice Ca.1
  (first|subst Sa|(obtain⟨rfl,rfl⟩:=si_ Sa))
  refine ho_ U (e3_ a.1) (fun j=>?_)
  refine p_ t ?_
  refine l1_ 7 (b_ 8 0) t (fun K U=>?_)
  have de:Oc.cell? ⟨m,2,none⟩=some (.slice z i.length r):=bx_ a.1 2
  have Pc:=blk_frozen a.1 2
  have Hb:=R.1
  have Ib:=I.1
  refine skip_ (w1:=?_) (by rfl) rfl ?_ ?_
  rotate_left
  ·
   go_simp
   rfl
  refine U.out _ _ ?_
  clear U K
  refine done_ (done_of t.1 (by kernel_rfl)) ?_
  obtain⟨Qc,Rc,Sc,Tc,Uc,Vc⟩:=bc3_ a.1
  have Wc:=n2_ y
  obtain⟨Xc,Yc,Zc,ad,bd,cd⟩:=bc3_ b.1
  try go_wp2
  refine bodyPost_ret (results_cell_row rfl _ _ s 26 #[.int .i64 q,.int .i64 o,.slice Qa za.length Ra] (0,0) _ rfl (bp_ b.1) Tryz.underlying26 rfl (by kernel_rfl)) rfl ?_
  exact⟨_,rr_,Kd.S_mono (sf_ s (Kd.S_far (p:=⟨m,2,none⟩) (Kd.S_types (Kd.S_types Ca.1 a.1 (by decide)) b.1 (by decide)) (fun _ hk=>hk.1.2) (.slice Qa za.length Ra)) (fun _ hk=>hk.2)) (fun _ hk=>trivial),IsS102.pk_ d.1,hs_ u.1,ku_ HK.1⟩
 have cb:(l==2)=false:=beq_eq_false_iff_ne.mpr pa
 have db:(l !=2)=true:=bne_iff_ne.mpr pa
 replace H:=ie_ H;rcases H with⟨qa,H⟩|⟨qa,H⟩
 ·
  have ib:(l==3)=true:=beq_iff_eq.mpr qa
  have jb:(l !=3)=false:=bne_eq_false_iff_eq.mpr qa
  clear qa
  replace H:=ie_ H;rcases H with⟨Da,H⟩|⟨Da,H⟩
  ·
   have kb:decide (0<(i.length:Int))=true:=decide_eq_true Da
   have lb:decide (0<i.length)=true:=decide_eq_true (by omega)
   clear Da
   replace H:=in_ H;obtain⟨Jb,H⟩:=H
   have dd:=decide_eq_true Jb
   have ed:decide (0<i.length)=true:=decide_eq_true (by omega)
   clear Jb
   replace H:=bi_ H;obtain⟨⟨Y,Z⟩,fd,H⟩:=H;(try dsimp only at H)
   replace H:=im_ H;obtain⟨mb,H⟩:=H
   obtain⟨Ea,hy_⟩:∃y_:List S80,y_=(i++[(⟨Y,Z⟩:S80)]):=⟨_,rfl⟩
   replace H:(some (q,o,Ea,F,G))=some (r1,r2,r3,r4,r5):=hm_
   have nb:=M_ hy_;clear hy_
   simp only[Option.some.injEq,Prod.mk.injEq] at H
   obtain⟨rfl,rfl,rfl,rfl,rfl⟩:=H
   refine⟨?_⟩
   try go_wp2_with (first|((with_reducible refine gate_callee (f:=69) rfl ?_);refine gl_ (some 13) Tryz.func69 #[.pointer (some ⟨g,0,none⟩),.int .i64 12] ?_;(with_reducible refine(spec_l1Below.calls g x O P 12 l F G w0 _ ?_ ?_ A5.1).mono ?_);exact IsS102.pk_ d.1;exact hs_ u.1;rintro e gd ⟨rfl,hi,hb,hk⟩;refine⟨_,rfl,?_⟩;replace b:=kc_ hk b #[.int .i64 0,.int .i64 0,.slice none 0 0];replace c:=M_ (Kd.S_mono (Kd.S_keep (IsS102.apartS (IsS102.pk_ d.1) (sy_ c.1 a.1) (by decide)) hk (fun _ h=>h.2)) (fun _ h=>h.1));replace a:=kc_ hk a #[.int .i64 q,.int .i64 o,.slice z i.length r];replace HK:=kh_ HK hk;replace u:=M_ (hb);replace d:=M_ (hi);(try clear hb hk hi);obtain⟨jd,kd,ld,md,nd,od⟩:=bc3_ a.1))
   obtain⟨c,b,a⟩:=y3_ c b a
   replace d:=M_ (IsS102.drew d.1)
   replace HK:=M_ (keep_drew HK.1)
   replace u:=db_ u
   have ia:0≤(0:Int):=(by omega)
   have ja:0<(i.length:Int):=of_decide_eq_true (by with_reducible assumption)
   obtain⟨L,ka,la,Kb,C,A,aa,ba⟩:=at_T80 (Kd.S_reads' c.1).2.2 0 ia ja
   cases Kb
   obtain⟨pd,Ja,Ka,ma⟩:=Kd.S_get c.1 z80 0 ia (by first|exact ja|exact of_decide_eq_true (by with_reducible assumption)|(have e_:=(Kd.S_reads' c.1).1;omega))
   obtain⟨Lb,rfl,T⟩:=k80_openM Ka
   have D:=ma 1 _ rfl
   rw[add_field _ _ 1 (by omega)] at D
   replace D:=Option.some.inj (D.symm.trans A)
   rw[D] at T
   have E:=M_ (show Kd.S k29 29 _ _ _ _ ((rd_T80 i 0).f1) from T)
   clear D T ma Ja
   have qi843:(0<i.length)=True:=eq_true (by omega)
   (try rw[show ((0:Int)).toNat=0 from rfl] at C)
   (try rw[show 0*2=0 from rfl] at C)
   (try rw[Addr.add_zero'] at C)
   (try rw[show ((0:Int)).toNat=0 from rfl] at A)
   (try rw[show 0*2=0 from rfl] at A)
   (try rw[Addr.add_zero'] at A)
   have B:=M_ ba
   have Fa:=M_ aa
   clear ba aa
   replace ia:=eq_true ia;replace ja:=eq_true ja
   refine start_ (n:=11) (S:=fun w'=>c_ w' m 0 (.int .i64 q)∧c_ w' m 1 (.int .i64 o)∧c_ w' m 2 (.slice (some L) i.length r)∧w'.cell? L=some (.int .i64 ((rd_T80 i 0).f0))∧w'.cell? ⟨L.block,L.off+1,none⟩=some (.slice ka ((rd_T80 i 0).f1).length la)) (ds:=[8,10]) (b_ 0 11) (by kernel_rfl) rfl rfl ⟨bx_ a.1 0,bx_ a.1 1,bx_ a.1 2,C,A⟩ (fun j=>?_);refine with_tabW spec_l7Any.tab11 spec_l7Any.bits11 (fun t Aa=>?_)
   generalize gd.drew=qe at c b a d HK u E B C A j ⊢
   refine p_ t ?_
   refine qw_ 2 (m_ 11 5) t ?_
   refine qt_ 1 (b_ 3 8) t Aa j ?_
   refine t0_ t Aa j ?_
   refine p_ t ?_
   refine t0_ t Aa j ?_
   refine o1_ 6 (b_ 7 4) t (fun K U=>?_)
   refine gs_ Tryz.func92 #[.agg #[.int .i64 ((rd_T80 i 0).f0),.slice ka ((rd_T80 i 0).f1).length la]] ?_
   with_reducible refine(spec_l6Copy.calls k ((rd_T80 i 0).f0) _ _ ((rd_T80 i 0).f1) Y Z _ ?side1 ?side2 fd.1).mono ?_
   (case side1=>repeat (first|exact(by repeat (first|(with_reducible exact B.1)|(with_reducible first|refine ca_ ?_ _|refine cn_ ?_ _|refine cd_ ?_)|exact B.1))|(with_reducible first|refine ca_ ?_ _|refine cn_ ?_ _|refine cd_ ?_)))
   (case side2=>exact Fa.1)
   rintro e re ⟨ee,rfl,Q,hb⟩
   have Mb:=(hb.cell (World.block_lt_of_cell? _ _ (j.2.2.2.1))).trans (j.2.2.2.1)
   have Nb:=(hb.cell (World.block_lt_of_cell? _ _ (j.2.2.2.2))).trans (j.2.2.2.2)
   refine⟨_,rfl,?_⟩
   obtain⟨La,fa⟩:=Kd.S_name Q
   replace c:=su_ fa (sp_ c.1) hb
   replace E:=su_ fa (sp_ E.1) hb
   have ga:=M_ (Kd.S_lower (Kd.S_gez fa Q) (ks_ HK))
   replace d:=IsS102.bk_ d hb
   obtain⟨b,a⟩:=u2_ hb b a
   replace B:=M_ (Kd.C_below (by repeat (first|(with_reducible exact B.1)|(with_reducible first|refine ca_ ?_ _|refine cn_ ?_ _|refine cd_ ?_)|exact B.1)) hb)
   replace HK:=kt_ HK hb
   replace u:=st_ u hb
   (try clear hb Q)
   obtain⟨Ob,Pb,Ta⟩:=Kd.S_slice ga.1
   (first|subst Ta|(obtain⟨rfl,rfl⟩:=si_ Ta))
   obtain⟨ob,Ma,na⟩:=Kd.S_fp (Kd.S_apart' (ga.1) (Kd.S_typed c.1) (by decide))
   refine ho_ U ⟨bx_ a.1 0,bx_ a.1 1,bx_ a.1 2,Mb,Nb⟩ (fun j=>?_)
   refine o1_ 7 (b_ 8 3) t (fun K U=>?_)
   refine value_ (w1:=?_) (v:=?_) (by rfl) rfl ?_ ?_
   rotate_left 2
   ·
    go_simp
    constructor
    ·
     rfl
    rfl
   refine ho_ U ⟨(blk_cell (blk_alloc a.1 _) 0).trans rfl,(blk_cell (blk_alloc a.1 _) 1).trans rfl,(blk_cell (blk_alloc a.1 _) 2).trans rfl,(World.cell?_alloc_lt _ _ _ (World.block_lt_of_cell? _ _ (j.2.2.2.1))).trans (j.2.2.2.1),(World.cell?_alloc_lt _ _ _ (World.block_lt_of_cell? _ _ (j.2.2.2.2))).trans (j.2.2.2.2)⟩ (fun j=>?_)
   refine l1_ 8 (b_ 9 2) t (fun K U=>?_)
   refine Kd.S_append_step k80 w.heap.size (by rfl) (.tmp 39) (.tmp 45) 24 80 (.agg #[(.int .i64 0),(.slice none 0 0)]) 32 rfl Tryz.underlying24 info80 rfl (by decide) (by omega) (.slice (some L) i.length r) i (⟨Y,Z⟩:S80) [.int .i64 Y,.slice Ob Z.length Pb] (fun _=>True) (fun k_=>ob k_) rfl rfl ?aP (fun k_ hk_=>⟨trivial,(na k_ hk_).1.2⟩) ?aF ?aO (Below.refl _ _) ?aS ?aL ?_
   (case aP=>exact k80_mkM _ _ _ (⟨Y,Z⟩:S80) (Kd.S_mono Ma (fun _ h_=>h_)))
   (case aF=>exact(fun _ _=>trivial))
   (case aO=>exact(Kd.S_mono (sp_ c.1) (fun k_ hk=>⟨trivial,fun e_=>(fun ez_=>Nat.lt_irrefl _ (Nat.lt_of_lt_of_le hk.2 (na _ ez_).1.1.2)) e_⟩)))
   (case aS=>exact(ks_ HK))
   (case aL=>have:=mb.1;omega)
   intro fe qd ho hb hg hat
   rw[←nb.1] at ho
   replace d:=M_ (IsS102.grown (IsS102.pk_ d.1) hg (IsS102.own_neS d.1 c.1 (by decide)))
   replace b:=bg_ b hg c
   replace a:=bg_ a hg c
   replace E:=M_ (Kd.S_after (ok:=(fun k_=>Ha≤k_∧k_<La)) (Kd.S_mono (sp_ E.1) (fun _ hk=>⟨⟨hk.1.1.2,hk.2⟩,hk.1.2⟩)) hg hat)
   replace u:=M_ (below_weaken (hs_ u.1) HL.out hb)
   replace HK:=M_ (KeepBut.trans (ku_ HK.1) (KeepBut.of_grown hg g) (Kd.S_base2 c.1))
   have Ga:=M_ (ho)
   clear c ga
   clear ho hb hg hat
   obtain⟨Ua,Va,Wa⟩:=Kd.S_slice Ga.1
   (first|subst Wa|(obtain⟨rfl,rfl⟩:=si_ Wa))
   refine U.out _ _ ?_
   clear U K
   refine nm_ ?_
   refine p_ t ?_
   refine l1_ 10 (b_ 11 0) t (fun K U=>?_)
   have ge:qd.cell? ⟨m,2,none⟩=some (.slice (some L) i.length r):=bx_ a.1 2
   have rd:=blk_frozen a.1 2
   have Qb:=R.1
   have Rb:=I.1
   refine skip_ (w1:=?_) (by rfl) rfl ?_ ?_
   rotate_left
   ·
    go_simp
    rfl
   refine U.out _ _ ?_
   clear U K
   refine done_ (done_of t.1 (by kernel_rfl)) ?_
   obtain⟨sd,td,ud,vd,wd,xd⟩:=bc3_ a.1
   have yd:=n2_ y
   obtain⟨zd,Ad,Bd,Cd,Dd,Ed⟩:=bc3_ b.1
   try go_wp2
   refine bodyPost_ret (results_cell_row rfl _ _ s 26 #[.int .i64 q,.int .i64 o,.slice Ua Ea.length Va] (0,0) _ rfl (bp_ b.1) Tryz.underlying26 rfl (by kernel_rfl)) rfl ?_
   exact⟨_,rr_,Kd.S_mono (sf_ s (Kd.S_far (p:=⟨m,2,none⟩) (Kd.S_types (Kd.S_types Ga.1 a.1 (by decide)) b.1 (by decide)) (fun _ hk=>hk.1.2) (.slice Ua Ea.length Va)) (fun _ hk=>hk.2)) (fun _ hk=>trivial),IsS102.pk_ d.1,hs_ u.1,ku_ HK.1⟩
  have kb:decide (0<(i.length:Int))=false:=decide_eq_false Da
  have lb:decide (0<i.length)=false:=decide_eq_false (by omega)
  clear Da
  simp only[Option.some.injEq,Prod.mk.injEq] at H
  obtain⟨rfl,rfl,rfl,rfl,rfl⟩:=H
  refine⟨?_⟩
  go_wp2_with (first|((with_reducible refine gate_callee (f:=69) rfl ?_);refine gl_ (some 13) Tryz.func69 #[.pointer (some ⟨g,0,none⟩),.int .i64 12] ?_;(with_reducible refine(spec_l1Below.calls g x O P 12 l F G w0 _ ?_ ?_ A5.1).mono ?_);exact IsS102.pk_ d.1;exact hs_ u.1;rintro e se ⟨rfl,hi,hb,hk⟩;refine⟨_,rfl,?_⟩;replace b:=kc_ hk b #[.int .i64 0,.int .i64 0,.slice none 0 0];replace c:=M_ (Kd.S_mono (Kd.S_keep (IsS102.apartS (IsS102.pk_ d.1) (sy_ c.1 a.1) (by decide)) hk (fun _ h=>h.2)) (fun _ h=>h.1));replace a:=kc_ hk a #[.int .i64 q,.int .i64 o,.slice z i.length r];replace HK:=kh_ HK hk;replace u:=M_ (hb);replace d:=M_ (hi);(try clear hb hk hi);obtain⟨Fd,Gd,Hd,Id,Jd,Ld⟩:=bc3_ a.1;have Md:=n2_ y;obtain⟨Nd,Od,Pd,Qd,Rd,Sd⟩:=bc3_ b.1))
  refine bodyPost_ret (results_cell_row rfl _ _ s 26 #[.int .i64 q,.int .i64 o,.slice z i.length r] (0,0) _ rfl (bp_ b.1) Tryz.underlying26 rfl (by kernel_rfl)) rfl ?_
  exact⟨_,rr_,Kd.S_mono (sy_ c.1 b.1) (fun _ hk=>trivial),IsS102.pk_ d.1,hs_ u.1,ku_ HK.1⟩
 have ib:(l==3)=false:=beq_eq_false_iff_ne.mpr qa
 have jb:(l !=3)=true:=bne_iff_ne.mpr qa
 simp only[Option.some.injEq,Prod.mk.injEq] at H
 obtain⟨rfl,rfl,rfl,rfl,rfl⟩:=H
 refine⟨?_⟩
 go_wp2_with (first|((with_reducible refine gate_callee (f:=69) rfl ?_);refine gl_ (some 13) Tryz.func69 #[.pointer (some ⟨g,0,none⟩),.int .i64 12] ?_;(with_reducible refine(spec_l1Below.calls g x O P 12 l F G w0 _ ?_ ?_ A5.1).mono ?_);exact IsS102.pk_ d.1;exact hs_ u.1;rintro e te ⟨rfl,hi,hb,hk⟩;refine⟨_,rfl,?_⟩;replace b:=kc_ hk b #[.int .i64 0,.int .i64 0,.slice none 0 0];replace c:=M_ (Kd.S_mono (Kd.S_keep (IsS102.apartS (IsS102.pk_ d.1) (sy_ c.1 a.1) (by decide)) hk (fun _ h=>h.2)) (fun _ h=>h.1));replace a:=kc_ hk a #[.int .i64 q,.int .i64 o,.slice z i.length r];replace HK:=kh_ HK hk;replace u:=M_ (hb);replace d:=M_ (hi);(try clear hb hk hi);obtain⟨Td,Ud,Vd,Wd,Xd,Yd⟩:=bc3_ a.1;have Vb:=n2_ y;obtain⟨Wb,Xb,Yb,Zb,ac,bc⟩:=bc3_ b.1))
 refine bodyPost_ret (results_cell_row rfl _ _ s 26 #[.int .i64 q,.int .i64 o,.slice z i.length r] (0,0) _ rfl (bp_ b.1) Tryz.underlying26 rfl (by kernel_rfl)) rfl ?_
 exact⟨_,rr_,Kd.S_mono (sy_ c.1 b.1) (fun _ hk=>trivial),IsS102.pk_ d.1,hs_ u.1,ku_ HK.1⟩
def spec_l8Draw.l0:Nat→List S26→Int→List Int→Int→Int→Option ((List S26)×Int×Int)
 | 0,_,_,_,_,_=>none
 | k+1,g,h,b,c,d=>if h>0 then ((spec_l4Draw.f k b c d).bind fun a=>((spec_PutAlarm.f k g a.1 a.2.1 a.2.2.1 a.2.2.2.1).bind fun e=>(spec_l8Draw.l0 k e.1 (wrap64 (h-1)) b a.2.2.2.2.1 a.2.2.2.2.2))) else (some (g,c,d))
def spec_l8Draw.f (k:Nat) (c:List Int) (d:Int) (e:Int):Option ((List S26)×Int×Int):=(spec_l1Below.f c d e 3).bind fun a=>((spec_StoreNew.f k (wrap64 (1+a.1))).bind fun g=>((spec_l1Below.f c a.2.1 a.2.2 8).bind fun b=>(spec_l8Draw.l0 k g b.1 c b.2.1 b.2.2)))
theorem spec_l8Draw.calls (k:Nat) (g:Nat) (d:List Int) (s:Int) (t:Int) (r1:List S26) (r2:Int) (r3:Int) (r w:World) (hI:IsS102 r w g d s t) (hB:Below r.heap.size r w) (h:spec_l8Draw.f k d s t=some (r1,r2,r3)) :
  Calls Tryz.prog 83 #[.pointer (some ⟨g,0,none⟩)] w fun e w'=>∃v0_:Value,e=.returned (v0_)∧Kd.R k26 26 w' w.heap.size (fun _=>True) v0_ r1∧IsS102 r w' g d r2 r3∧Below r.heap.size r w'∧KeepBut w w' g none:=by
 have a:=M_ hI
 have HK:=M_ (KeepBut.refl w g none)
 have HL:=M_ hB.size
 clear hI
 have ka:=M_ hB.size
 have o:=M_ hB
 clear hB
 unfold spec_l8Draw.f at h
 have H:=h;clear h
 replace H:=bi_ H;obtain⟨⟨u,A,B⟩,A2,H⟩:=H;(try dsimp only at H)
 replace H:=bi_ H;obtain⟨C,A3,H⟩:=H
 replace H:=bi_ H;obtain⟨⟨D,E,F⟩,A4,H⟩:=H;(try dsimp only at H)
 have H':=M_ H
 clear H
 go_enter Tryz.func83,Tryz.ntmps83
 go_wp2_with (first|((with_reducible refine gate_callee (f:=69) rfl ?_);refine gl_ (some 6) Tryz.func69 #[.pointer (some ⟨g,0,none⟩),.int .i64 3] ?_;(with_reducible refine(spec_l1Below.calls g d s t 3 u A B r _ ?_ ?_ A2.1).mono ?_);exact IsS102.pk_ a.1;exact hs_ o.1;rintro e w5 ⟨rfl,hi,hb,hk⟩;refine⟨_,rfl,?_⟩;replace HK:=kh_ HK hk;replace o:=M_ (hb);replace a:=M_ (hi);(try clear hb hk hi))|((with_reducible refine gate_callee (f:=49) rfl ?_);refine gl_ (some 8) Tryz.func49 #[.int .i64 (wrap64 (1+u))] ?_;(with_reducible refine(spec_StoreNew.calls k (wrap64 (1+u)) C _ A3.1).mono ?_);rintro e w6 ⟨ha,rfl,j,hb⟩;refine⟨_,rfl,?_⟩;obtain⟨Z,K⟩:=Kd.R_name j;have p:=M_ (Kd.R_lower (Kd.R_gez K j) (ks_ HK));have M:=IsS102.bk_ a hb;have n2_:=kt_ HK hb;have N:=st_ o hb;clear a HK o;have a:=M;have HK:=n2_;have o:=N;clear M n2_ N;(try clear hb j))|((with_reducible refine gate_callee (f:=69) rfl ?_);refine gl_ (some 10) Tryz.func69 #[.pointer (some ⟨g,0,none⟩),.int .i64 8] ?_;(with_reducible refine(spec_l1Below.calls g d A B 8 D E F r _ ?_ ?_ A4.1).mono ?_);exact IsS102.pk_ a.1;exact hs_ o.1;rintro e w7 ⟨rfl,hi,hb,hk⟩;refine⟨_,rfl,?_⟩;replace p:=IsS102.rk_ a p hk;replace HK:=kh_ HK hk;replace o:=M_ (hb);replace a:=M_ (hi);(try clear hb hk hi)))
 go_loopg [3,4] k (fun kq v3 v4 w'=>∃(n:List S26) (m:Int) (b:Int) (c:Int),v4=.int .i64 m∧Aside0 (spec_l8Draw.l0 kq n m d b c=some (r1,r2,r3))∧Aside0 (kq≤k)∧Aside0 (Kd.R k26 26 w' w.heap.size (fun _=>True) v3 n)∧Aside0 (IsS102 r w' g d b c)∧Aside0 (KeepBut w w' g none)∧Aside0 (Below r.heap.size r w'))
 case atStart=>exact⟨(C),(D),(E),(F),rs_,H',⟨Nat.le_refl _⟩,⟨Kd.R_mono (rp_ p.1) (fun _ hk=>trivial)⟩,⟨IsS102.pk_ a.1⟩,⟨ku_ HK.1⟩,⟨hs_ o.1⟩⟩
 case round=>
  clear H'
  obtain⟨n,m,b,c,rfl,HA,O,i,a,HK,o⟩:=hrel
  cases gk with
  | zero=>exact absurd HA.1 (by simp[spec_l8Draw.l0])
  | succ k1=>
   have H:=HA.1
   clear HA
   simp only[spec_l8Draw.l0] at H
   replace H:=ie_ H;rcases H with⟨P,H⟩|⟨P,H⟩
   ·
    have Q:decide (0<m)=true:=decide_eq_true P
    clear P
    replace H:=bi_ H;obtain⟨⟨v,x,y,z,G,I⟩,A9,H⟩:=H;(try dsimp only at H)
    replace H:=bi_ H;obtain⟨⟨J,S⟩,ga,H⟩:=H;(try dsimp only at H)
    have H':=M_ H
    clear H
    go_wp2_with (first|((with_reducible refine gate_callee (f:=52) rfl ?_);refine gl_ (some 18) Tryz.func52 #[.pointer (some ⟨g,0,none⟩)] ?_;(with_reducible refine(spec_l4Draw.calls k1 g d b c v x y z G I r _ ?_ ?_ A9.1).mono ?_);exact IsS102.pk_ a.1;exact hs_ o.1;rintro e ra ⟨ia,rfl,j,hi,hb,hk⟩;refine⟨_,rfl,?_⟩;replace i:=M_ (Kd.R_mono (Kd.R_told (Kd.R_oldK (IsS102.apart (IsS102.pk_ a.1) (rp_ i.1) (by decide)) hk) (Kd.R_base j)) (fun _ h_=>h_.1));have l:=rl_ j HK;replace HK:=kh_ HK hk;replace o:=M_ (hb);replace a:=M_ (hi);(try clear hb hk hi j);obtain⟨T,U,V⟩:=Kd.R_slice i.1;subst V;obtain⟨W,X,Y⟩:=Kd.R_slice l.1;subst Y)|((with_reducible refine gate_callee (f:=37) rfl ?_);refine gl_ (some 19) Tryz.func37 #[.slice T n.length U,.agg #[.slice W v.length X,.int .i64 x,.int .i64 y,.string z]] ?_;(with_reducible refine(spec_PutAlarm.calls k1 _ _ n _ _ v x y z J S _ ?_ ?_ ?_ ?_ ga.1).mono ?_);exact cp_ ((Kd.R_reads' i.1).2.2);exact(Kd.R_reads' i.1).2.1;exact cp_ ((Kd.R_reads' l.1).2.2);exact(Kd.R_reads' l.1).2.1;rintro e sa ⟨ja,rfl,j,hb⟩;refine⟨_,rfl,?_⟩;obtain⟨aa,q⟩:=Kd.R_name j;replace i:=ru_ q (rp_ i.1) hb;replace l:=ru_ q (rp_ l.1) hb;have L:=M_ (Kd.R_lower (Kd.R_gez q j) (ks_ HK));replace a:=IsS102.bk_ a hb;replace HK:=kt_ HK hb;replace o:=st_ o hb;(try clear hb j)))
    go_roundg k1
    case measure=>have:=O.1;omega
    case rel=>exact⟨(J),(wrap64 (m-1)),(G),(I),rs_,H',⟨by have:=O.1;omega⟩,⟨Kd.R_mono (rp_ L.1) (fun _ hk=>trivial)⟩,⟨IsS102.pk_ a.1⟩,⟨ku_ HK.1⟩,⟨hs_ o.1⟩⟩
   have Q:decide (0<m)=false:=decide_eq_false P
   clear P
   simp only[Option.some.injEq,Prod.mk.injEq] at H
   obtain⟨rfl,rfl,rfl⟩:=H
   go_wp2
   go_ret
   exact⟨_,rr_,rp_ i.1,IsS102.pk_ a.1,hs_ o.1,ku_ HK.1⟩
def spec_l8Any.f (k:Nat) (e:List Int) (g:Int) (h:Int):Option ((List S26)×Int×Int):=(spec_l8Draw.f k e g h).bind fun b=>((spec_l1Below.f e b.2.1 b.2.2 (b.1.length:Int)).bind fun c=>((spec_l1Below.f e c.2.1 c.2.2 12).bind fun a=>(if a.1=0 then ((spec_l7Any.f k e a.2.1 a.2.2 c.1 (b.1.length:Int)).bind fun d=>(if 0≤c.1 then (if c.1<(b.1.length:Int) then (some ((b.1.set (c.1:Int).toNat (⟨d.1,d.2.1,d.2.2.1⟩:S26)),d.2.2.2.1,d.2.2.2.2)) else (none)) else (none))) else (if a.1=1 then (if b.1.length<3518437208883 then (some ((b.1++[(⟨(-1),0,([]:List S80)⟩:S26)]),a.2.1,a.2.2)) else (none)) else (if a.1=2 then (some ((([]:List S26)),a.2.1,a.2.2)) else (if a.1=3 then (if b.1.length+b.1.length<3518437208883 then (some ((b.1++b.1),a.2.1,a.2.2)) else (none)) else (some (b.1,a.2.1,a.2.2))))))))
theorem spec_l8Any.calls (k:Nat) (g:Nat) (s:List Int) (P:Int) (Q:Int) (r1:List S26) (r2:Int) (r3:Int) (G w:World) (hI:IsS102 G w g s P Q) (hB:Below G.heap.size G w) (h:spec_l8Any.f k s P Q=some (r1,r2,r3)) :
  Calls Tryz.prog 86 #[.pointer (some ⟨g,0,none⟩)] w fun e w'=>∃v0_:Value,e=.returned (v0_)∧Kd.R k26 26 w' w.heap.size (fun _=>True) v0_ r1∧IsS102 G w' g s r2 r3∧Below G.heap.size G w'∧KeepBut w w' g none:=by
 have hu26:=Tryz.underlying26
 have i:=M_ hI
 have HK:=M_ (KeepBut.refl w g none)
 have HL:=M_ hB.size
 clear hI
 have Oa:=M_ hB.size
 have u:=M_ hB
 clear hB
 unfold spec_l8Any.f at h
 have H:=h;clear h
 replace H:=bi_ H;obtain⟨⟨c,ba,ca⟩,A2,H⟩:=H;(try dsimp only at H)
 replace H:=bi_ H;obtain⟨⟨d,da,ea⟩,A3,H⟩:=H;(try dsimp only at H)
 replace H:=bi_ H;obtain⟨⟨l,E,F⟩,A4,H⟩:=H;(try dsimp only at H)
 have AHz_:=M_ H
 clear H
 go_enter Tryz.func86,Tryz.ntmps86
 go_wp2_with (first|((with_reducible refine gate_callee (f:=83) rfl ?_);refine gl_ (some 7) Tryz.func83 #[.pointer (some ⟨g,0,none⟩)] ?_;(with_reducible refine(spec_l8Draw.calls k g s P Q c ba ca G _ ?_ ?_ A2.1).mono ?_);exact IsS102.pk_ i.1;exact hs_ u.1;rintro e wb ⟨lb,rfl,K,hi,hb,hk⟩;refine⟨_,rfl,?_⟩;have a:=rl_ K HK;have Ba:=kh_ HK hk;have n2_:=M_ (hb);have Ca:=M_ (hi);clear HK u i;have HK:=Ba;have u:=n2_;have i:=Ca;clear Ba n2_ Ca;(try clear hb hk hi K);obtain⟨I,A,Da⟩:=Kd.R_slice a.1;subst Da)|((with_reducible refine gate_callee (f:=69) rfl ?_);refine gl_ (some 11) Tryz.func69 #[.pointer (some ⟨g,0,none⟩),.int .i64 (c.length:Int)] ?_;(with_reducible refine(spec_l1Below.calls g s ba ca (c.length:Int) d da ea G _ ?_ ?_ A3.1).mono ?_);exact IsS102.pk_ i.1;exact hs_ u.1;rintro e xb ⟨rfl,hi,hb,hk⟩;refine⟨_,rfl,?_⟩;replace a:=IsS102.rk_ i a hk;replace HK:=kh_ HK hk;replace u:=M_ (hb);replace i:=M_ (hi);(try clear hb hk hi))|(((with_reducible refine gate_callee (f:=69) rfl ?_);refine gl_ (some 13) Tryz.func69 #[.pointer (some ⟨g,0,none⟩),.int .i64 12] ?_;(with_reducible refine(spec_l1Below.calls g s da ea 12 l E F G _ ?_ ?_ A4.1).mono ?_);exact IsS102.pk_ i.1;exact hs_ u.1;rintro e yb ⟨rfl,hi,hb,hk⟩;refine⟨_,rfl,?_⟩;replace a:=IsS102.rk_ i a hk;replace HK:=kh_ HK hk;replace u:=M_ (hb);replace i:=M_ (hi);(try clear hb hk hi));refine Aside0.out ?_))
 have H:=AHz_.1
 clear AHz_
 replace H:=ie_ H;rcases H with⟨c5,H⟩|⟨c5,H⟩
 ·
  have Ea:(l==0)=true:=beq_iff_eq.mpr c5
  have Fa:(l !=0)=false:=bne_eq_false_iff_eq.mpr c5
  clear c5
  replace H:=bi_ H;obtain⟨⟨x,y,n,T,U⟩,A6,H⟩:=H;(try dsimp only at H)
  replace H:=i2_ H;obtain⟨mb,nb,H⟩:=H
  obtain⟨fa,hy_⟩:∃y_:List S26,y_=(c.set (d:Int).toNat (⟨x,y,n⟩:S26)):=⟨_,rfl⟩
  replace H:(some (fa,T,U))=some (r1,r2,r3):=hm_
  have ga:=M_ hy_;clear hy_
  simp only[Option.some.injEq,Prod.mk.injEq] at H
  obtain⟨rfl,rfl,rfl⟩:=H
  refine⟨?_⟩
  go_wp2_with (first|((with_reducible refine gate_callee (f:=51) rfl ?_);refine gl_ (some 20) Tryz.func51 #[.pointer (some ⟨g,0,none⟩),.int .i64 d,.int .i64 (c.length:Int)] ?_;(with_reducible refine(spec_l7Any.calls k g s E F d (c.length:Int) x y n T U G _ ?_ ?_ A6.1).mono ?_);exact IsS102.pk_ i.1;exact hs_ u.1;rintro e Ab ⟨ob,rfl,K,hi,hb,hk⟩;refine⟨_,rfl,?_⟩;replace a:=M_ (Kd.R_mono (Kd.R_told (Kd.R_oldK (IsS102.apart (IsS102.pk_ i.1) (rp_ a.1) (by decide)) hk) (Kd.S_base K)) (fun _ h_=>h_.1));have q:=sl_ K HK;replace HK:=kh_ HK hk;replace u:=M_ (hb);replace i:=M_ (hi);(try clear hb hk hi K))|((with_reducible refine gd_ 5 rfl ?_);refine bV_ 5 #[.int .i64 0,.int .i64 0,.slice none 0 0] 26 ?_;intro m hg Pa o hb;replace a:=M_ (Kd.R_below (Kd.R_elderB (rp_ a.1) m (Nat.le_of_eq hg.symm)) hb);obtain⟨q,u⟩:=u2_ hb q u;have ha:=Ge_.mk ((by rw[hg];exact(ks_ HK):w.heap.size≤m));replace HK:=kt_ HK hb;have Qa:=gt_ Oa ha;have V:=IsS102.nl_ i hg;replace i:=IsS102.bk_ i hb;have W:=ns_ V;clear hb hg;have Ra:=n2_ W;obtain⟨Sa,Ta,Ua,Va,Wa,Xa⟩:=bc3_ o.1;obtain⟨B,C,Ga⟩:=Kd.S_slice q.1;subst Ga)|((with_reducible refine gate_store (t:=26) (p:=5) rfl ?_);refine store_event (t:=26) (p:=5) (v:=?vo_w19) (w1:=(((Pa.setCell ⟨m,0,none⟩ (.int .i64 x)).setCell ⟨m,1,none⟩ (.int .i64 y)).setCell ⟨m,2,none⟩ (.slice B n.length C))) ?hg ?ho ?hn ?hr ?_;(case ho=>rfl);(case hg=>rfl);(case hn=>rfl);(case hr=>first|(go_simp;done)|(go_simp;rfl));intro r hw;replace a:Aside0 (Kd.R k26 26 r w.heap.size (fun k_=>some k_≠(.slice B n.length C:Value).ownBlock∧k_≠m) (.slice I c.length A) c):=⟨(by rw[hw];exact(Kd.R_mono (rf_ m a.1 (fun _ hk=>hk.2)) (fun _ hk=>⟨hk.1.2,hk.2⟩)))⟩;replace q:Aside0 (Kd.S k80 80 r w.heap.size (fun _=>True) (.slice B n.length C) n):=⟨(by rw[hw];exact(Kd.S_mono (sy_ q.1 o.1) (fun _ hk=>trivial)))⟩;replace o:Aside0 (r.heap[m]?=some (.cells #[.int .i64 x,.int .i64 y,.slice B n.length C] 26 (0,0))):=⟨(by rw[hw];exact(bp_ o.1))⟩;replace i:Aside0 (IsS102 G r g s T U):=⟨(by rw[hw];exact(IsS102.pk_ i.1))⟩;replace HK:Aside0 (KeepBut w r g none):=⟨(by rw[hw];exact(ku_ HK.1))⟩;replace u:Aside0 (Below G.heap.size G r):=⟨(by rw[hw];exact(hs_ u.1))⟩;clear hw;obtain⟨Ya,Za,ab,bb,cb,db⟩:=bc3_ o.1;have p9:0≤(d:Int):=of_decide_eq_true (by with_reducible assumption);have q9:(d:Int)<((c.length:Int):Int):=of_decide_eq_true (by with_reducible assumption);obtain⟨go9,Bb,Ha,Ia,gl9,cl9,HG9⟩:=Kd.R_form a.1 (by omega);(first|cases Ha|(injection Ha with ea_ en_ ec_;(first|subst ea_|(injection ea_ with ea_;subst ea_));subst ec_;clear en_));have GB9:=M_ Ia;have GG9:=M_ HG9;clear Ia gl9 HG9;obtain⟨Cb,hcl9,hM9,J,hfr9⟩:=Kd.R_elem a.1 z26 (d:Int) p9 q9;obtain⟨ia,rfl,gb⟩:=k26_openM hM9;have ib:r.cell? ⟨go9,(d:Int).toNat*3,none⟩=some (.int .i64 ((rd_T26 c d).f0)):=J 0 _ rfl;have jb:r.cell? ⟨go9,(d:Int).toNat*3+1,none⟩=some (.int .i64 ((rd_T26 c d).f1)):=J 1 _ rfl;have kb:r.cell? ⟨go9,(d:Int).toNat*3+2,none⟩=some (ia):=J 2 _ rfl;have hf9_0:r.frozen? ⟨go9,(d:Int).toNat*3,none⟩=false:=hfr9 0;have hf9_1:r.frozen? ⟨go9,(d:Int).toNat*3+1,none⟩=false:=hfr9 1;have hf9_2:r.frozen? ⟨go9,(d:Int).toNat*3+2,none⟩=false:=hfr9 2;clear hcl9 J hfr9 hM9;replace p9:=eq_true p9;replace q9:=eq_true q9;have HX21:=M_ (show Kd.R k26 26 r w.heap.size (fun k_=>k_≠m) (.slice (some ⟨go9,0,none⟩) c.length A) c from (Kd.R_mono (rp_ a.1) (fun _ hk=>hk.2)));obtain⟨pb,hcl21,hM21,z,hfr21⟩:=Kd.R_elem HX21.out z26 (d:Int) (of_decide_eq_true (by with_reducible assumption)) (by have h_:(d:Int)<((c.length:Int):Int):=of_decide_eq_true (by with_reducible assumption);first|exact h_|(have e_:=(Kd.R_reads' a.1).1;omega)|simpa using h_);obtain⟨Ma,rfl,Na⟩:=k26_openM hM21;have HP21:=Kd.R_seg HX21.out (d:Int) (of_decide_eq_true (by with_reducible assumption)) (by have h_:(d:Int)<((c.length:Int):Int):=of_decide_eq_true (by with_reducible assumption);first|exact h_|(have e_:=(Kd.R_reads' a.1).1;omega)|simpa using h_) (seg:=[.int .i64 x,.int .i64 y,.slice B n.length C]) (j:=0) hcl21 z (show 3≤3 from by decide) (x':=(⟨x,y,n⟩:S26)) (k26_mkM _ _ _ (⟨x,y,n⟩:S26) (Kd.S_mono (Kd.S_types (Kd.S_apart' (q.1) (Kd.R_typed a.1) (by decide)) o.1 (by decide)) (fun k_ hk=>⟨hk.2,fun e_=>(hk.1.2) (by rw[e_];rfl)⟩))) (fun _ hk=>hk);have Y:=z 0 _ rfl;(try simp only[show (k26).sz=3 from rfl,Nat.mul_one,Nat.add_zero] at Y);have hf21_0:=hfr21 0;(try simp only[show (k26).sz=3 from rfl,Nat.mul_one,Nat.add_zero] at hf21_0);have Z:=z 1 _ rfl;(try simp only[show (k26).sz=3 from rfl,Nat.mul_one,Nat.add_zero] at Z);have hf21_1:=hfr21 1;(try simp only[show (k26).sz=3 from rfl,Nat.mul_one,Nat.add_zero] at hf21_1);have aa:=z 2 _ rfl;(try simp only[show (k26).sz=3 from rfl,Nat.mul_one,Nat.add_zero] at aa);have hf21_2:=hfr21 2;(try simp only[show (k26).sz=3 from rfl,Nat.mul_one,Nat.add_zero] at hf21_2);clear hcl21 z hfr21 hM21)|((with_reducible refine gate_store (t:=26) (p:=24) rfl ?_);refine store_event (t:=26) (p:=24) (v:=?vo_w22) (w1:=(((r.setCell ⟨go9,(d:Int).toNat*3,none⟩ (.int .i64 x)).setCell ⟨go9,(d:Int).toNat*3+1,none⟩ (.int .i64 y)).setCell ⟨go9,(d:Int).toNat*3+2,none⟩ (.slice B n.length C))) ?hg ?ho ?hn ?hr ?_;(case ho=>rfl);(case hg=>rfl);(case hn=>rfl);(case hr=>first|(go_simp;done)|(go_simp;rfl));intro ja hw;have hg:r.grownBy ja (some go9):=(by rw[hw];exact HP21.2);have hp_:Kd.R k26 26 ja w.heap.size (fun k_=>k_≠m) (.slice (some ⟨go9,0,none⟩) c.length A) fa:=(by rw[hw,ga.1];exact HP21.1);clear HP21;replace i:=M_ (IsS102.grown (IsS102.pk_ i.1) hg (IsS102.own_ne i.1 a.1 (by decide)));replace o:=M_ (blk_grown (bq_ o.1) hg (Kd.R_away a.1 (fun _ hk=>hk.2)));replace u:=M_ ((by rw[hw];exact below_set (below_set (below_set (u.1) (Nat.le_trans HL.out GB9.out)) (Nat.le_trans HL.out GB9.out)) (Nat.le_trans HL.out GB9.out):Below G.heap.size G ja));replace HK:=M_ (KeepBut.trans (ku_ HK.1) (KeepBut.of_grown hg g) (Kd.R_base2 a.1));replace a:=M_ (hp_);clear q;clear hg hw hp_))
  go_ret
  exact⟨_,rr_,Kd.R_mono (rp_ a.1) (fun _ hk=>trivial),IsS102.pk_ i.1,hs_ u.1,ku_ HK.1⟩
 have Ea:(l==0)=false:=beq_eq_false_iff_ne.mpr c5
 have Fa:(l !=0)=true:=bne_iff_ne.mpr c5
 replace H:=ie_ H;rcases H with⟨L,H⟩|⟨L,H⟩
 ·
  have ka:(l==1)=true:=beq_iff_eq.mpr L
  have la:(l !=1)=false:=bne_eq_false_iff_eq.mpr L
  clear L
  replace H:=im_ H;obtain⟨ma,H⟩:=H
  obtain⟨Ja,hy_⟩:∃y_:List S26,y_=(c++[(⟨(-1),0,([]:List S80)⟩:S26)]):=⟨_,rfl⟩
  replace H:(some (Ja,E,F))=some (r1,r2,r3):=hm_
  have na:=M_ hy_;clear hy_
  simp only[Option.some.injEq,Prod.mk.injEq] at H
  obtain⟨rfl,rfl,rfl⟩:=H
  refine⟨?_⟩
  go_wp2_with (first|((with_reducible refine gate_builtin (b:=.append) (xs:=#[.tmp 27,.tmp 29]) rfl ?_);at_builtin;refine Kd.R_append k26 w.heap.size rfl (.tmp 27) (.tmp 29) 54 26 (.agg #[(.int .i64 0),(.int .i64 0),(.slice none 0 0)]) 40 rfl Tryz.underlying54 info26 rfl (by decide) (by omega) (.slice I c.length A) c (⟨(-1),0,([]:List S80)⟩:S26) [.int .i64 (-1),.int .i64 0,.slice none 0 0] (fun _=>True) (fun k_=>((fun _=>True)) k_∧some k_≠(.slice I c.length A:Value).ownBlock) rfl rfl ?aP (fun _ hk=>hk) ?aF ?aO (Below.refl _ _) ?aS ?aL ?_;(case aP=>exact k26_mkM _ _ _ (⟨(-1),0,([]:List S80)⟩:S26) (Kd.S_nil _ _ _ _ _));(case aF=>exact(fun _ _=>trivial));(case aO=>exact(rp_ a.1));(case aS=>exact(ks_ HK));(case aL=>have:=ma.1;omega);intro qb Db ho hb hg hat;rw[←na.1] at ho;replace i:=M_ (IsS102.grown (IsS102.pk_ i.1) hg (IsS102.own_ne i.1 a.1 (by decide)));replace u:=M_ (below_weaken (hs_ u.1) HL.out hb);replace HK:=M_ (KeepBut.trans (ku_ HK.1) (KeepBut.of_grown hg g) (Kd.R_base2 a.1));have oa:=M_ (ho);clear a;clear ho hb hg hat))
  go_ret
  exact⟨_,rr_,rp_ oa.1,IsS102.pk_ i.1,hs_ u.1,ku_ HK.1⟩
 have ka:(l==1)=false:=beq_eq_false_iff_ne.mpr L
 have la:(l !=1)=true:=bne_iff_ne.mpr L
 replace H:=ie_ H;rcases H with⟨M,H⟩|⟨M,H⟩
 ·
  have pa:(l==2)=true:=beq_iff_eq.mpr M
  have qa:(l !=2)=false:=bne_eq_false_iff_eq.mpr M
  clear M
  obtain⟨Ka,hy_⟩:∃y_:List S26,y_=(([]:List S26)):=⟨_,rfl⟩
  replace H:(some (Ka,E,F))=some (r1,r2,r3):=hm_
  have X:=M_ hy_;clear hy_
  simp only[Option.some.injEq,Prod.mk.injEq] at H
  obtain⟨rfl,rfl,rfl⟩:=H
  refine⟨?_⟩
  go_wp2_with (first|((with_reducible refine gd_ 33 rfl ?_);refine Kd.R_lit k26 _ 26 ?hg (N:=33) ?hd (xs:=([]:List S26)) (inner:=[]) (ok:=fun _=>True) (okp:=fun _=>True) ?hr ?hp (fun _ hk=>hk) trivial (Below.refl _ _) (Nat.le_refl _) (by simp) ?_;(case hd=>rfl);(case hg=>rfl);(case hr=>first|(go_simp;done)|(go_simp;rfl));(case hp=>exact(Reps.none _ _));intro rb Eb D hb hg_ hnew_;clear hg_ hnew_;(first|rw[←X.1] at D|(simp only[Int.reduceToNat] at D;rw[←X.1] at D));have ra:=M_ (Kd.R_lower (Kd.R_new' D (Kd.R_lt (rp_ a.1))) (ks_ HK));replace a:=M_ (Kd.R_elder' (rp_ a.1) (Kd.R_base D) hb);replace i:=IsS102.bk_ i hb;replace HK:=kt_ HK hb;replace u:=st_ u hb;clear hb D))
  go_ret
  exact⟨_,rr_,Kd.R_mono (rp_ ra.1) (fun _ hk=>trivial),IsS102.pk_ i.1,hs_ u.1,ku_ HK.1⟩
 have pa:(l==2)=false:=beq_eq_false_iff_ne.mpr M
 have qa:(l !=2)=true:=bne_iff_ne.mpr M
 replace H:=ie_ H;rcases H with⟨O,H⟩|⟨O,H⟩
 ·
  have sa:(l==3)=true:=beq_iff_eq.mpr O
  have ta:(l !=3)=false:=bne_eq_false_iff_eq.mpr O
  clear O
  replace H:=im_ H;obtain⟨ua,H⟩:=H
  obtain⟨La,hy_⟩:∃y_:List S26,y_=(c++c):=⟨_,rfl⟩
  replace H:(some (La,E,F))=some (r1,r2,r3):=hm_
  have va:=M_ hy_;clear hy_
  simp only[Option.some.injEq,Prod.mk.injEq] at H
  obtain⟨rfl,rfl,rfl⟩:=H
  refine⟨?_⟩
  go_wp2_with (first|((with_reducible refine gate_builtin (b:=.append) (xs:=#[.tmp 36,.tmp 37]) rfl ?_);at_builtin;refine Kd.R_append_self k26 w.heap.size rfl (.tmp 36) (.tmp 37) 54 26 (.agg #[(.int .i64 0),(.int .i64 0),(.slice none 0 0)]) 40 rfl Tryz.underlying54 info26 rfl (by decide) (by omega) (.slice I c.length A) c (fun _=>True) rfl rfl ?aO ?aF (Below.refl _ _) ?aS ?aL ?_;(case aF=>exact(fun _ _=>trivial));(case aO=>exact(rp_ a.1));(case aS=>exact(ks_ HK));(case aL=>have:=ua.1;omega);intro sb Fb ho hb hg hat;rw[←va.1] at ho;replace i:=M_ (IsS102.grown (IsS102.pk_ i.1) hg (IsS102.own_ne i.1 a.1 (by decide)));replace u:=M_ (below_weaken (hs_ u.1) HL.out hb);replace HK:=M_ (KeepBut.trans (ku_ HK.1) (KeepBut.of_grown hg g) (Kd.R_base2 a.1));have wa:=M_ (ho);clear a;clear ho hb hg hat))
  go_ret
  exact⟨_,rr_,rp_ wa.1,IsS102.pk_ i.1,hs_ u.1,ku_ HK.1⟩
 have sa:(l==3)=false:=beq_eq_false_iff_ne.mpr O
 have ta:(l !=3)=true:=bne_iff_ne.mpr O
 simp only[Option.some.injEq,Prod.mk.injEq] at H
 obtain⟨rfl,rfl,rfl⟩:=H
 refine⟨?_⟩
 go_wp2
 go_ret
 exact⟨_,rr_,rp_ a.1,IsS102.pk_ i.1,hs_ u.1,ku_ HK.1⟩
def spec_DrawStoreOk.f (k:Nat) (c:List Int):Option ((List S26)):=(spec_l1New.f k c).bind fun a=>((spec_l8Any.f k a.1 a.2.1 a.2.2).bind fun b=>(some b.1))
theorem spec_DrawStoreOk.calls (k:Nat) (t:Option Addr) (u:Nat) (g:List Int) (r:List S26) (w:World) (l:Kd.C (Kd.int .u8) w t g.length g) (m:g.length≤u) (h:spec_DrawStoreOk.f k g=some r) :
  Calls Tryz.prog 35 #[.slice t g.length u] w fun e w'=>∃v0_:Value,e=.returned (v0_)∧Kd.R k26 26 w' w.heap.size (fun _=>True) v0_ r∧Below w.heap.size w w':=by
 have v:=M_ l
 have x:=M_ m
 clear l m
 have i:=M_ (Below.refl w.heap.size w)
 unfold spec_DrawStoreOk.f at h
 have H:=h;clear h
 replace H:=bi_ H;obtain⟨⟨b,c,d⟩,z,H⟩:=H;(try dsimp only at H)
 replace H:=bi_ H;obtain⟨⟨n,o,p⟩,A,H⟩:=H;(try dsimp only at H)
 obtain rfl:=Option.some.inj H
 go_enter Tryz.func35,Tryz.ntmps35
 go_wp2_with (first|((with_reducible refine gate_callee (f:=50) rfl ?_);refine gl_ (some 5) Tryz.func50 #[.slice t g.length u] ?_;(with_reducible refine(spec_l1New.calls k _ _ g b c d w _ ?_ ?_ ?_ z.1).mono ?_);exact hs_ i.1;exact v.1;exact x.1;rintro e B ⟨g939,rfl,hi,hb,hb2⟩;refine⟨_,rfl,?_⟩;replace i:=M_ (hb);have a:=M_ (hi);(try clear hb);(try clear hb2);(try clear hi))|((with_reducible refine gate_callee (f:=86) rfl ?_);refine gl_ (some 7) Tryz.func86 #[.pointer (some ⟨g939,0,none⟩)] ?_;(with_reducible refine(spec_l8Any.calls k g939 b c d n o p w _ ?_ ?_ A.1).mono ?_);exact IsS102.pk_ a.1;exact hs_ i.1;rintro e D ⟨y,rfl,q,hi,hb,hk⟩;refine⟨_,rfl,?_⟩;have j:=rw_ q i;have s:=M_ (hb);have n2_:=M_ (hi);clear i a;have i:=s;have a:=n2_;clear s n2_;(try clear hb);(try clear hb2);(try clear hk hi q)))
 go_ret
 exact⟨_,rr_,rp_ j.1,hs_ i.1⟩
def spec_AlarmsIn.l0:Nat→List S29→Int→Int→Int→List S80→Option ((List S29))
 | 0,_,_,_,_,_=>none
 | k+1,g,e,b,c,a=>if e<(a.length:Int) then (if 0≤e then ((spec_l4All.f k ((rd_T80 a e).f1)).bind fun d=>(if g.length+d.length<2513169434916 then (spec_AlarmsIn.l0 k (g++d) (wrap64 (e+1)) b c a) else (none))) else (none)) else (some g)
def spec_AlarmsIn.f (k:Nat) (a:Int) (b:Int) (c:List S80):Option ((List S29)):=spec_AlarmsIn.l0 k (([]:List S29)) 0 a b c
theorem spec_AlarmsIn.calls (k:Nat) (g:Int) (i:Int) (o:Option Addr) (p:Nat) (c:List S80) (r:List S29) (w:World) (s:Kd.C k80 w o c.length c) (t:c.length≤p) (h:spec_AlarmsIn.f k g i c=some r) :
  Calls Tryz.prog 27 #[.agg #[.int .i64 g,.int .i64 i,.slice o c.length p]] w fun e w'=>∃v0_:Value,e=.returned (v0_)∧Kd.S k29 29 w' w.heap.size (fun _=>True) v0_ r∧Below w.heap.size w w':=by
 have hu26:=Tryz.underlying26
 have I:=M_ s
 have aa:=M_ t
 clear s t
 have l:=M_ (Below.refl w.heap.size w)
 unfold spec_AlarmsIn.f at h
 have H:=h;clear h
 obtain⟨F,hy_⟩:∃y_:List S29,y_=(([]:List S29)):=⟨_,rfl⟩
 replace H:(spec_AlarmsIn.l0 k F 0 g i c)=some r:=hm_
 have u:=M_ hy_;clear hy_
 have H':=M_ H
 clear H
 go_enter Tryz.func27,Tryz.ntmps27
 go_wp2_with (first|((with_reducible refine gd_ 1 rfl ?_);refine bV_ 1 #[.int .i64 g,.int .i64 i,.slice o c.length p] 26 ?_;intro J hg w2 a hb;have ba:=gq_ hg l;replace l:=st_ l hb;clear hb hg)|((with_reducible refine gd_ 5 rfl ?_);refine Kd.S_lit k29 _ 29 ?hg (N:=5) ?hd (xs:=([]:List S29)) (inner:=[]) (ok:=fun _=>True) (okp:=fun _=>True) ?hr ?hp (fun _ hk=>hk) trivial (Below.refl _ _) (Nat.le_refl _) (by simp) ?_;(case hd=>rfl);(case hg=>rfl);(case hr=>first|(go_simp;done)|(go_simp;rfl));(case hp=>exact(Reps.none _ _));intro la w3 v hb hg_ hnew_;clear hg_ hnew_;(first|rw[←u.1] at v|(simp only[Int.reduceToNat] at v;rw[←u.1] at v));have K:=sw_ v l;obtain⟨a,l⟩:=u2_ hb a l;clear hb v))
 go_loopg [3,4] k (fun kq v3 v4 w'=>∃(m:List S29) (d:Int),v4=.int .i64 d∧Aside0 (spec_AlarmsIn.l0 kq m d g i c=some r)∧Aside0 (kq≤k)∧Aside0 (Kd.S k29 29 w' w.heap.size (fun _=>True) v3 m)∧Aside0 (w'.heap[J]?=some (.cells #[.int .i64 g,.int .i64 i,(.slice o c.length p)] 26 (0,0)))∧Aside0 (Below w.heap.size w w'))
 case atStart=>exact⟨(F),(0),rs_,H',⟨Nat.le_refl _⟩,⟨sp_ K.1⟩,⟨bq_ a.1⟩,⟨hs_ l.1⟩⟩
 case round=>
  clear H'
  obtain⟨m,d,rfl,HA,Q,j,a,l⟩:=hrel
  cases gk with
  | zero=>exact absurd HA.1 (by simp[spec_AlarmsIn.l0])
  | succ k1=>
   have H:=HA.1
   clear HA
   simp only[spec_AlarmsIn.l0] at H
   replace H:=ie_ H;rcases H with⟨R,H⟩|⟨R,H⟩
   ·
    have T:=decide_eq_true R
    clear R
    replace H:=id_ H;obtain⟨ma,H⟩:=H
    replace H:=bi_ H;obtain⟨x,A7,H⟩:=H
    replace H:=im_ H;obtain⟨U,H⟩:=H
    obtain⟨G,hy_⟩:∃y_:List S29,y_=(m++x):=⟨_,rfl⟩
    replace H:(spec_AlarmsIn.l0 k1 G (wrap64 (d+1)) g i c)=some r:=hm_
    have L:=M_ hy_;clear hy_
    have H':=M_ H
    clear H
    obtain⟨na,oa,pa,qa,ra,sa⟩:=bc3_ a.1
    obtain⟨ea,B,D,V,W,X,y,z,ta,ua⟩:=au_T80 I.1 l d
    cases V
    go_wp2_with (first|((with_reducible refine gate_callee (f:=82) rfl ?_);refine gl_ (some 20) Tryz.func82 #[.slice B ((rd_T80 c d).f1).length D] ?_;(with_reducible refine(spec_l4All.calls k1 _ _ ((rd_T80 c d).f1) x _ ?_ ?_ A7.1).mono ?_);exact cp_ ((Kd.C_below z.1 l.1));exact y.1;rintro e Ca ⟨va,rfl,M,hb⟩;refine⟨_,rfl,?_⟩;obtain⟨Z,A⟩:=Kd.S_name M;replace j:=su_ A (sp_ j.1) hb;have n:=sg_ A M l;obtain⟨a,l⟩:=u2_ hb a l;(try clear hb M);obtain⟨wa,xa,Y⟩:=Kd.S_slice n.1;subst Y;obtain⟨O,E,q⟩:=Kd.S_fp ((Kd.S_mono n.1 (fun k_ hk=>(⟨hk,fun ez_=>Nat.lt_irrefl _ (Nat.lt_of_lt_of_le ((Kd.S_R j.1).1 _ ez_.symm).2 hk.2)⟩:_∧some k_≠(u3:Value).ownBlock)))))|((with_reducible refine gate_builtin (b:=.append) (xs:=#[.tmp 13,.tmp 20]) rfl ?_);at_builtin;refine Kd.S_append_rows k29 (w0:=w) w.heap.size rfl (.tmp 13) (.tmp 20) 40 29 (.agg #[(.slice none 0 0),(.int .i64 0),(.int .i64 0),(.string ⟨#[]⟩)]) 56 rfl Tryz.underlying40 info29 rfl (by decide) (by omega) u3 m x _ _ _ (fun _=>True) O rfl rfl ?aR (fun k_ hk_=>⟨trivial,(q k_ hk_).1.2⟩) ?aF ?aO ?aB ?aS ?aL ?_;(case aR=>exact E);(case aB=>exact(hs_ l.1));(case aF=>exact(fun _ _=>trivial));(case aO=>exact(Kd.S_mono (sp_ j.1) (fun k_ hk=>⟨trivial,fun e_=>(fun ez_=>Nat.lt_irrefl _ (Nat.lt_of_lt_of_le hk.2 (q _ ez_).1.1.2)) e_⟩)));(case aS=>exact(below_size (hs_ l.1)));(case aL=>have:=U.1;omega);intro ya Ea ho hb hg hat;rw[←L.1] at ho;replace a:=bg_ a hg j;replace l:=M_ (hb);have P:=M_ (ho);clear j n;clear ho hb hg hat))
    go_roundg k1
    case measure=>have:=Q.1;omega
    case rel=>exact⟨(G),(wrap64 (d+1)),rs_,H',⟨by have:=Q.1;omega⟩,⟨sp_ P.1⟩,⟨bq_ a.1⟩,⟨hs_ l.1⟩⟩
   have T:decide (d<(c.length:Int))=false:=decide_eq_false R
   clear R
   obtain rfl:=Option.some.inj H
   obtain⟨fa,ga,ha,ia,ja,ka⟩:=bc3_ a.1
   go_wp2
   go_ret
   exact⟨_,rr_,sp_ j.1,hs_ l.1⟩
mutual
def spec_SetLess.l0:Nat→List S99→List S99→Int→Option (Bool)
 | 0,_,_,_=>none
 | k+1,b,c,a=>if a<(b.length:Int) then (spec_SetLess.j1 k b c a (decide (a<(c.length:Int)))) else (spec_SetLess.j1 k b c a false)
def spec_SetLess.j1:Nat→List S99→List S99→Int→Bool→Option (Bool)
 | 0,_,_,_,_=>none
 | k+1,b,c,a,g=>if g=true then (if 0≤a then (if a<(b.length:Int) then (if a<(c.length:Int) then (if ((rd_T99 b a).f0).toList=((rd_T99 c a).f0).toList then (if ((rd_T99 b a).f1).toList=((rd_T99 c a).f1).toList then (spec_SetLess.l0 k b c (wrap64 (a+1))) else ((spec_Less.f ((rd_T99 b a).f1) ((rd_T99 c a).f1)).bind fun d=>(some d))) else ((spec_Less.f ((rd_T99 b a).f0) ((rd_T99 c a).f0)).bind fun e=>(some e))) else (none)) else (none)) else (none)) else (some (decide ((b.length:Int)<(c.length:Int))))
end
def spec_SetLess.f (k:Nat) (l0:List S99) (a:List S99):Option (Bool):=spec_SetLess.l0 k l0 a 0
theorem spec_SetLess.calls (k:Nat) (A0:Option Addr) (c0:Nat) (l0:List S99) (A1:Option Addr) (c1:Nat) (b:List S99) (r:Bool) (w:World) (R:Kd.C k99 w A0 l0.length l0) (S:l0.length≤c0) (T:Kd.C k99 w A1 b.length b) (U:b.length≤c1) (h:spec_SetLess.f k l0 b=some r) :
  Calls Tryz.prog 113 #[.slice A0 l0.length c0,.slice A1 b.length c1] w fun e w'=>e=.returned (.bool r)∧Drawn0 w w':=by
 have D:=M_ R
 have Aa:=M_ S
 clear R S
 have E:=M_ T
 have Ba:=M_ U
 clear T U
 unfold spec_SetLess.f at h
 have H:=h;clear h
 have H':=M_ H
 clear H
 go_enter Tryz.func113,Tryz.ntmps113
 go_wp2
 repeat (go_quiet (fail);try go_wp2)
 go_loopg [5] k (fun kq v5 w'=>∃(a:Int),v5=.int .i64 a∧Aside0 (spec_SetLess.l0 kq l0 b a=some r)∧Aside0 (kq≤k)∧Drawn0 w w')
 case atStart=>exact⟨(0),rs_,H',⟨Nat.le_refl _⟩,by repeat (first|exact Drawn0.refl _|apply Drawn0.step)⟩
 case round=>
  clear H'
  obtain⟨a,rfl,F,B,⟨m1,rfl⟩⟩:=hrel
  cases gk with
  | zero=>exact absurd F.1 (by simp[spec_SetLess.l0])
  | succ k1=>
   have H:=F.1
   clear F
   simp only[spec_SetLess.l0] at H
   have G:=M_ H
   clear H
   go_upto_region 2 with(fail)
   repeat (go_quiet (fail);go_upto_region 2 with(fail))
   go_cut [15] (fun ra wc=>∃(kq:Nat) (d:Bool),ra=.bool d∧Aside0 (spec_SetLess.j1 kq l0 b a d=some r)∧Aside0 (kq≤k1)∧Drawn0 w wc)
   case first=>
    have H:=G.1
    clear G
    replace H:=ie_ H;rcases H with⟨V,H⟩|⟨V,H⟩
    ·
     have c:=decide_eq_true V
     clear V
     (first|rw[c]|(simp only[i64_w,i32_w];rw[c])|skip)
     have H':=M_ H
     clear H
     go_wp2
     repeat (go_quiet (fail);try go_wp2)
     go_meet
     case rel=>exact⟨_,(decide (a<(b.length:Int))),rs_,H',⟨by have:=B.1;first|omega|exact Nat.le_refl _⟩,by repeat (first|exact Drawn0.refl _|apply Drawn0.step)⟩
    have c:decide (a<(l0.length:Int))=false:=decide_eq_false V
    clear V
    (first|rw[c]|(simp only[i64_w,i32_w];rw[c])|skip)
    have H':=M_ H
    clear H
    go_wp2
    repeat (go_quiet (fail);try go_wp2)
    go_meet
    case rel=>exact⟨_,(false),rs_,H',⟨by have:=B.1;first|omega|exact Nat.le_refl _⟩,by repeat (first|exact Drawn0.refl _|apply Drawn0.step)⟩
   case rest=>
    clear G
    obtain⟨kq,d,rfl,F,HJ2,⟨mc2,rfl⟩⟩:=hcut
    cases kq with
    | zero=>exact absurd F.1 (by simp[spec_SetLess.j1])
    | succ sa=>
     have H:=F.1
     clear F
     simp only[spec_SetLess.j1] at H
     replace H:=ib_ H;rcases H with⟨rfl,H⟩|⟨rfl,H⟩
     ·
      replace H:=i2_ H;obtain⟨xa,ya,H⟩:=H
      replace H:=id_ H;obtain⟨za,H⟩:=H
      have AHz_:=M_ H
      clear H
      obtain⟨i,j⟩:0≤(a:Int)∧a<(l0.length:Int):=pq_
      obtain⟨l,W,X,Y⟩:=at_T99 D.1 a i j
      cases W
      replace i:=eq_true i;replace j:=eq_true j
      obtain⟨m,n⟩:0≤(a:Int)∧a<(b.length:Int):=pq_
      obtain⟨o,Z,aa,ba⟩:=at_T99 E.1 a m n
      cases Z
      replace m:=eq_true m;replace n:=eq_true n
      obtain⟨p,q⟩:0≤(a:Int)∧a<(l0.length:Int):=pq_
      obtain⟨I,ca,da,ea⟩:=at_T99 D.1 a p q
      obtain rfl:l=I:=(by injection ca)
      replace p:=eq_true p;replace q:=eq_true q
      obtain⟨s,t⟩:0≤(a:Int)∧a<(b.length:Int):=pq_
      obtain⟨J,fa,ga,ha⟩:=at_T99 E.1 a s t
      obtain rfl:o=J:=(by injection fa)
      replace s:=eq_true s;replace t:=eq_true t
      have H:=AHz_.1
      clear AHz_
      replace H:=ie_ H;rcases H with⟨Q,H⟩|⟨Q,H⟩
      ·
       have ia:(((rd_T99 l0 a).f0).toList==((rd_T99 b a).f0).toList)=true:=beq_iff_eq.mpr Q
       have ja:(((rd_T99 l0 a).f0).toList !=((rd_T99 b a).f0).toList)=false:=bne_eq_false_iff_eq.mpr Q
       clear Q
       replace H:=ie_ H;rcases H with⟨g,H⟩|⟨g,H⟩
       ·
        have K:(((rd_T99 l0 a).f1).toList==((rd_T99 b a).f1).toList)=true:=beq_iff_eq.mpr g
        have L:(((rd_T99 l0 a).f1).toList !=((rd_T99 b a).f1).toList)=false:=bne_eq_false_iff_eq.mpr g
        clear g
        have H':=M_ H
        clear H
        go_wp2
        repeat (go_quiet (fail);try go_wp2)
        go_roundg sa
        case measure=>have:=B.1;have:=HJ2.1;omega
        case rel=>exact⟨(wrap64 (a+1)),rs_,H',⟨by have:=B.1;have:=HJ2.1;omega⟩,by repeat (first|exact Drawn0.refl _|apply Drawn0.step)⟩
       have K:(((rd_T99 l0 a).f1).toList==((rd_T99 b a).f1).toList)=false:=beq_eq_false_iff_ne.mpr g
       have L:(((rd_T99 l0 a).f1).toList !=((rd_T99 b a).f1).toList)=true:=bne_iff_ne.mpr g
       replace H:=bi_ H;obtain⟨u,M,H⟩:=H
       obtain rfl:=Option.some.inj H
       obtain⟨v,x⟩:0≤(a:Int)∧a<(l0.length:Int):=pq_
       obtain⟨N,ka,la,ma⟩:=at_T99 D.1 a v x
       obtain rfl:l=N:=(by injection ka)
       replace v:=eq_true v;replace x:=eq_true x
       obtain⟨y,z⟩:0≤(a:Int)∧a<(b.length:Int):=pq_
       obtain⟨O,na,oa,pa⟩:=at_T99 E.1 a y z
       obtain rfl:o=O:=(by injection na)
       replace y:=eq_true y;replace z:=eq_true z
       go_wp2_with (first|(go_at_call 128;(with_reducible refine(spec_Less.calls ((rd_T99 l0 a).f1) ((rd_T99 b a).f1) u _ M.1).mono ?_);rintro e w' ⟨rfl,⟨nd,rfl⟩⟩;(try first|exact⟨rfl,_,World.drewN_drewN _ _ _⟩|exact⟨rfl,_,Eq.trans (World.drewN_drewN _ _ _) (congrArg (World.drewN _) (Nat.add_assoc _ _ _))⟩)))
       repeat (go_quiet (first|(go_at_call 128;(with_reducible refine(spec_Less.calls ((rd_T99 l0 a).f1) ((rd_T99 b a).f1) u _ M.1).mono ?_);rintro e w' ⟨rfl,⟨nd,rfl⟩⟩;(try first|exact⟨rfl,_,World.drewN_drewN _ _ _⟩|exact⟨rfl,_,Eq.trans (World.drewN_drewN _ _ _) (congrArg (World.drewN _) (Nat.add_assoc _ _ _))⟩)));try go_wp2_with (first|(go_at_call 128;(with_reducible refine(spec_Less.calls ((rd_T99 l0 a).f1) ((rd_T99 b a).f1) u _ M.1).mono ?_);rintro e w' ⟨rfl,⟨nd,rfl⟩⟩;(try first|exact⟨rfl,_,World.drewN_drewN _ _ _⟩|exact⟨rfl,_,Eq.trans (World.drewN_drewN _ _ _) (congrArg (World.drewN _) (Nat.add_assoc _ _ _))⟩))))
       go_ret
       exact⟨by first|rfl|(simp;done)|(simp[*];done),by repeat (first|exact Drawn0.refl _|apply Drawn0.step)⟩
      have ia:(((rd_T99 l0 a).f0).toList==((rd_T99 b a).f0).toList)=false:=beq_eq_false_iff_ne.mpr Q
      have ja:(((rd_T99 l0 a).f0).toList !=((rd_T99 b a).f0).toList)=true:=bne_iff_ne.mpr Q
      replace H:=bi_ H;obtain⟨A,P,H⟩:=H
      obtain rfl:=Option.some.inj H
      go_wp2_with (first|(go_at_call 128;(with_reducible refine(spec_Less.calls ((rd_T99 l0 a).f0) ((rd_T99 b a).f0) A _ P.1).mono ?_);rintro e w' ⟨rfl,⟨nd,rfl⟩⟩;(try first|exact⟨rfl,_,World.drewN_drewN _ _ _⟩|exact⟨rfl,_,Eq.trans (World.drewN_drewN _ _ _) (congrArg (World.drewN _) (Nat.add_assoc _ _ _))⟩)))
      repeat (go_quiet (first|(go_at_call 128;(with_reducible refine(spec_Less.calls ((rd_T99 l0 a).f0) ((rd_T99 b a).f0) A _ P.1).mono ?_);rintro e w' ⟨rfl,⟨nd,rfl⟩⟩;(try first|exact⟨rfl,_,World.drewN_drewN _ _ _⟩|exact⟨rfl,_,Eq.trans (World.drewN_drewN _ _ _) (congrArg (World.drewN _) (Nat.add_assoc _ _ _))⟩)));try go_wp2_with (first|(go_at_call 128;(with_reducible refine(spec_Less.calls ((rd_T99 l0 a).f0) ((rd_T99 b a).f0) A _ P.1).mono ?_);rintro e w' ⟨rfl,⟨nd,rfl⟩⟩;(try first|exact⟨rfl,_,World.drewN_drewN _ _ _⟩|exact⟨rfl,_,Eq.trans (World.drewN_drewN _ _ _) (congrArg (World.drewN _) (Nat.add_assoc _ _ _))⟩))))
      go_ret
      exact⟨by first|rfl|(simp;done)|(simp[*];done),by repeat (first|exact Drawn0.refl _|apply Drawn0.step)⟩
     obtain rfl:=Option.some.inj H
     go_wp2
     repeat (go_quiet (fail);try go_wp2)
     go_ret
     exact⟨by first|rfl|(simp;done)|(simp[*];done),by repeat (first|exact Drawn0.refl _|apply Drawn0.step)⟩
mutual
def spec_l8Sort.l0:Nat→List S29→List S29→Int→Option ((List S29))
 | 0,_,_,_=>none
 | k+1,c,d,b=>if b<(c.length:Int) then (if 0≤b then ((spec_l4Copy.f ((rd_T29 c b).f0) ((rd_T29 c b).f1) ((rd_T29 c b).f2) ((rd_T29 c b).f3)).bind fun a=>(spec_l8Sort.l1 k c d b (d.length:Int) a.1 a.2.1 a.2.2.1 a.2.2.2)) else (none)) else (some d)
def spec_l8Sort.l1:Nat→List S29→List S29→Int→Int→List S99→Int→Int→ByteArray→Option ((List S29))
 | 0,_,_,_,_,_,_,_,_=>none
 | k+1,i,h,j,e,a,b,c,d=>if e>0 then (if 0≤(wrap64 (e-1)) then (if (wrap64 (e-1))<(h.length:Int) then ((spec_SetLess.f k a ((rd_T29 h (wrap64 (e-1))).f0)).bind fun g=>(spec_l8Sort.j2 k i h j e g a b c d)) else (none)) else (none)) else (spec_l8Sort.j2 k i h j e false a b c d)
def spec_l8Sort.j2:Nat→List S29→List S29→Int→Int→Bool→List S99→Int→Int→ByteArray→Option ((List S29))
 | 0,_,_,_,_,_,_,_,_,_=>none
 | k+1,n,l,o,j,m,a,b,c,d=>if m=true then (spec_l8Sort.l1 k n l o (wrap64 (j-1)) a b c d) else ((some (([]:List S29):List S29)).bind fun e=>(if 0≤j then (if j≤(l.length:Int) then ((some (l.drop (j:Int).toNat:List S29)).bind fun f=>((some (l.take (j:Int).toNat:List S29)).bind fun g=>(if e.length+g.length<2513169434916 then ((some (e++g:List S29)).bind fun h=>(if h.length<2513169434916 then ((some (h++[(⟨a,b,c,d⟩:S29)]:List S29)).bind fun i=>(if i.length+f.length<2513169434916 then (spec_l8Sort.l0 k n (i++f) (wrap64 (o+1))) else (none))) else (none))) else (none)))) else (none)) else (none)))
end
def spec_l8Sort.f (k:Nat) (l0:List S29):Option ((List S29)):=spec_l8Sort.l0 k l0 (([]:List S29)) 0
def spec_l8Sort.T7:Bool×List (List Nat×List Nat):=(true,[([],[]),([0],[0]),([1],[1]),([2],[2]),([3,2],[2,3]),([2],[2]),([2],[2]),([6,2],[2,6]),([5,7,2],[2,5,7]),([8,2],[2,8]),([9,2],[2,9]),([4,10,2,2],[2,4,10]),([2,11],[2,11])])
def spec_l8Sort.B7:List Nat:=[0,1,3,7,15,7,7,71,231,487,999,2047,4095]
theorem spec_l8Sort.tab7:rtab .any (opsOf Tryz.f89 7)=spec_l8Sort.T7:=by kernel_rfl
theorem spec_l8Sort.bits7:waitsOk spec_l8Sort.T7.2 spec_l8Sort.B7=true:=by kernel_rfl
def spec_l8Sort.T9:Bool×List (List Nat×List Nat):=(true,[([],[]),([],[]),([],[]),([1,2],[1,2]),([0,3],[0,3]),([],[]),([5],[5]),([4,6,4],[4,6]),([],[]),([],[]),([8,9],[8,9]),([7,10,7],[7,10]),([11,11,0,1,2,3,4,5,6,7,8,9,10,11],[1,8,11])])
def spec_l8Sort.B9:List Nat:=[0,0,0,6,15,0,32,127,0,0,768,2047,4095]
theorem spec_l8Sort.tab9:rtab .any (opsOf Tryz.f89 9)=spec_l8Sort.T9:=by kernel_rfl
theorem spec_l8Sort.bits9:waitsOk spec_l8Sort.T9.2 spec_l8Sort.B9=true:=by kernel_rfl
theorem spec_l8Sort.calls (k:Nat) (A0:Option Addr) (c0:Nat) (l0:List S29) (r:List S29) (w:World) (rb:Kd.C k29 w A0 l0.length l0) (sb:l0.length≤c0) (h:spec_l8Sort.f k l0=some r) :
  Calls Tryz.prog 89 #[.slice A0 l0.length c0] w fun e w'=>∃v0_:Value,e=.returned (v0_)∧Kd.S k29 29 w' w.heap.size (fun _=>True) v0_ r∧Below w.heap.size w w':=by
 have hu29:=Tryz.underlying29
 have Qb:=M_ rb
 have yc:=M_ sb
 clear rb sb
 have M:=M_ (Below.refl w.heap.size w)
 unfold spec_l8Sort.f at h
 have H:=h;clear h
 obtain⟨db,hy_⟩:∃y_:List S29,y_=(([]:List S29)):=⟨_,rfl⟩
 replace H:(spec_l8Sort.l0 k l0 db 0)=some r:=hm_
 have Na:=M_ hy_;clear hy_
 have H':=M_ H
 clear H
 go_enter Tryz.func89,Tryz.ntmps89
 go_wp2_with (first|((with_reducible refine gd_ 7 rfl ?_);refine Kd.S_lit k29 _ 29 ?hg (N:=7) ?hd (xs:=([]:List S29)) (inner:=[]) (ok:=fun _=>True) (okp:=fun _=>True) ?hr ?hp (fun _ hk=>hk) trivial (Below.refl _ _) (Nat.le_refl _) (by simp) ?_;(case hd=>rfl);(case hg=>rfl);(case hr=>first|(go_simp;done)|(go_simp;rfl));(case hp=>exact(Reps.none _ _));intro qc w2 Oa hb hg_ hnew_;clear hg_ hnew_;(first|rw[←Na.1] at Oa|(simp only[Int.reduceToNat] at Oa;rw[←Na.1] at Oa));have gb:=sw_ Oa M;have tb:=st_ M hb;clear M;have M:=tb;clear tb;clear hb Oa))
 go_loopg [3,4] k (fun kq v3 v4 w'=>∃(m:List S29) (I:Int),v4=.int .i64 I∧Aside0 (spec_l8Sort.l0 kq l0 m I=some r)∧Aside0 (kq≤k)∧Aside0 (Kd.S k29 29 w' w.heap.size (fun _=>True) v3 m)∧Aside0 (Below w.heap.size w w'))
 case atStart=>exact⟨(db),(0),rs_,H',⟨Nat.le_refl _⟩,⟨sp_ gb.1⟩,⟨hs_ M.1⟩⟩
 case round=>
  clear H'
  obtain⟨m,I,rfl,HA,La,l,M⟩:=hrel
  cases gk with
  | zero=>exact absurd HA.1 (by simp[spec_l8Sort.l0])
  | succ k1=>
   have H:=HA.1
   clear HA
   simp only[spec_l8Sort.l0] at H
   replace H:=ie_ H;rcases H with⟨c4,H⟩|⟨c4,H⟩
   ·
    have vb:=decide_eq_true c4
    clear c4
    replace H:=id_ H;obtain⟨sc,H⟩:=H
    replace H:=bi_ H;obtain⟨⟨d,u,v,x⟩,A6,H⟩:=H;(try dsimp only at H)
    have H':=M_ H
    clear H
    obtain⟨Rb,Za,ab,wb,xb,yb,zb,Ab,Qa,Ra,tc,uc⟩:=au_T29 Qb.1 M I
    cases wb
    go_wp2_with (first|((with_reducible refine gate_callee (f:=63) rfl ?_);refine gl_ (some 18) Tryz.func63 #[.agg #[.slice Za ((rd_T29 l0 I).f0).length ab,.int .i64 ((rd_T29 l0 I).f1),.int .i64 ((rd_T29 l0 I).f2),.string ((rd_T29 l0 I).f3)]] ?_;(with_reducible refine(spec_l4Copy.calls _ _ ((rd_T29 l0 I).f0) ((rd_T29 l0 I).f1) ((rd_T29 l0 I).f2) ((rd_T29 l0 I).f3) d u v x _ ?_ ?_ A6.1).mono ?_);exact cp_ ((Kd.C_below Ra.1 M.1));exact Qa.1;rintro e w7 ⟨vc,rfl,ib,hb⟩;refine⟨_,rfl,?_⟩;obtain⟨q,Sa⟩:=Kd.R_name ib;replace l:=su_ Sa (sp_ l.1) hb;have ga:=rg_ Sa ib M;replace M:=st_ M hb;(try clear hb ib))|((with_reducible refine gd_ 5 rfl ?_);refine bV_ 5 #[.slice none 0 0,.int .i64 0,.int .i64 0,.string (⟨#[]⟩:ByteArray)] 29 ?_;intro c hg w8 b hb;replace l:=M_ (Kd.S_below (Kd.S_ltz hg (Kd.S_elderB (sp_ l.1) c (Nat.le_of_eq hg.symm))) hb);replace ga:=M_ (Kd.R_below (Kd.R_ltz hg (rp_ ga.1)) hb);have Sb:=gq_ hg M;replace M:=st_ M hb;clear hb hg;obtain⟨z,A,Tb⟩:=Kd.R_slice ga.1;subst Tb;obtain⟨Ub,Vb,Wb,Xb,Yb,Zb,ac,bc⟩:=bc4_ b.1;obtain⟨y,B,Bb⟩:=Kd.S_slice l.1;subst Bb))
    go_loopg [6] k1 (fun kq v6 w'=>∃(D:Int),v6=.int .i64 D∧Aside0 (spec_l8Sort.l1 kq l0 m I D d u v x=some r)∧Aside0 (kq≤k1)∧Aside0 (Kd.S k29 29 w' w.heap.size (fun k_=>some k_≠((.slice z d.length A):Value).ownBlock∧k_≠c∧k_<q∧k_<c) (.slice y m.length B) m)∧Aside0 (Kd.R k99 99 w' w.heap.size (fun k_=>q≤k_∧k_<c) (.slice z d.length A) d)∧Aside0 (w'.heap[c]?=some (.cells #[(.slice z d.length A),.int .i64 u,.int .i64 v,.string x] 29 (0,0)))∧Aside0 (Below w.heap.size w w'))
    case atStart=>exact⟨((m.length:Int)),rs_,H',⟨Nat.le_refl _⟩,⟨Kd.S_mono (sf_ c (Kd.S_times l.1 ga.1.1 (fun k_ hk hz_=>Nat.lt_irrefl _ (Nat.lt_of_lt_of_le hk.1.1.2 hz_.1.2))) (fun _ hk=>hk.1.1.2)) (fun _ hk=>⟨hk.2,⟨hk.1.1.2,⟨hk.1.1.1.2,hk.1.2⟩⟩⟩)⟩,⟨Kd.R_mono (ry_ ga.1 b.1) (fun _ hk=>⟨hk.1.2,hk.2⟩)⟩,⟨bp_ b.1⟩,⟨hs_ M.1⟩⟩
    case round=>
     clear H'
     obtain⟨D,rfl,HA,Ma,l,a,b,M⟩:=hrel
     cases gk with
     | zero=>exact absurd HA.1 (by simp[spec_l8Sort.l1])
     | succ k2=>
      have H:=HA.1
      clear HA
      simp only[spec_l8Sort.l1] at H
      have Ta:=M_ H
      clear H
      go_upto_region 7 with(fail)
      go_cut [33] (fun cc wc=>∃(kq:Nat) (pa:Bool),cc=.bool pa∧Aside0 (spec_l8Sort.j2 kq l0 m I D pa d u v x=some r)∧Aside0 (kq≤k2)∧Aside0 (Kd.S k29 29 wc w.heap.size (fun k_=>some k_≠((.slice z d.length A):Value).ownBlock∧k_≠c∧k_<q∧k_<c) (.slice y m.length B) m)∧Aside0 (Kd.R k99 99 wc w.heap.size (fun k_=>q≤k_∧k_<c) (.slice z d.length A) d)∧Aside0 (wc.heap[c]?=some (.cells #[(.slice z d.length A),.int .i64 u,.int .i64 v,.string x] 29 (0,0)))∧Aside0 (Below w.heap.size w wc))
      case first=>
       have H:=Ta.1
       clear Ta
       replace H:=ie_ H;rcases H with⟨Ua,H⟩|⟨Ua,H⟩
       ·
        have ha:decide (0<D)=true:=decide_eq_true Ua
        clear Ua
        (first|rw[ha]|(simp only[i64_w,i32_w];rw[ha])|skip)
        obtain⟨O,qa⟩:∃j_:Int,(wrap64 (D-1))=j_:=⟨_,rfl⟩
        replace H:(if 0≤(O) then (if (O)<(m.length:Int) then ((spec_SetLess.f k2 d ((rd_T29 m (O)).f0)).bind fun Fa=>(spec_l8Sort.j2 k2 l0 m I D Fa d u v x)) else (none)) else (none))=some r:=by first|(rw[qa] at H;exact H)|(simp only[qa] at H ⊢;exact H)
        have Pb:(IntKind.i64.wrap (D-1))=O:=(i64_w _).trans qa
        replace H:=i2_ H;obtain⟨dc,ec,H⟩:=H
        replace H:=bi_ H;obtain⟨Fa,fc,H⟩:=H
        have H':=M_ H
        clear H
        try go_wp2
        obtain⟨l,a,b,M⟩:=y4_ l a b M
        obtain⟨Ga,Ha⟩:0≤((O):Int)∧(O)<(m.length:Int):=pq_
        obtain⟨ra,Ia,Ja,Cb,ia,wa,xa,ya,za,Aa⟩:=at_T29 (Kd.S_reads' l.1).2.2 (O) Ga Ha
        cases Cb
        obtain⟨gc,bb,cb,Ka⟩:=Kd.S_get l.1 z29 (O) Ga (by first|exact Ha|exact of_decide_eq_true (by with_reducible assumption)|(have e_:=(Kd.S_reads' l.1).1;omega))
        obtain⟨Db,rfl,ja⟩:=k29_openM cb
        have Z:=Ka 0 _ rfl
        rw[Nat.add_zero] at Z
        replace Z:=Option.some.inj (Z.symm.trans ia)
        rw[Z] at ja
        have Va:=M_ (show Kd.R k99 99 _ _ _ _ ((rd_T29 m (O)).f0) from ja)
        clear Z ja Ka bb
        have ka:=M_ Aa
        have Wa:=M_ za
        clear Aa za
        replace Ga:=eq_true Ga;replace Ha:=eq_true Ha
        refine start_ (n:=13) (S:=fun w'=>c_ w' c 0 (.slice z d.length A)∧c_ w' c 1 (.int .i64 u)∧c_ w' c 2 (.int .i64 v)∧c_ w' c 3 (.string x)∧w'.cell? (ra.add (((O)).toNat*4))=some (.slice Ia ((rd_T29 m (O)).f0).length Ja)∧d_ w' (ra.add (((O)).toNat*4)) 1 (.int .i64 ((rd_T29 m (O)).f1))∧d_ w' (ra.add (((O)).toNat*4)) 2 (.int .i64 ((rd_T29 m (O)).f2))∧d_ w' (ra.add (((O)).toNat*4)) 3 (.string ((rd_T29 m (O)).f3))) (ds:=[]) (b_ 0 13) (by kernel_rfl) rfl rfl ⟨bx_ b.1 0,bx_ b.1 1,bx_ b.1 2,bx_ b.1 3,ia,wa,xa,ya⟩ (fun s=>?_);refine with_tabW spec_l8Sort.tab7 spec_l8Sort.bits7 (fun L Xa=>?_)
        generalize wr.drew=Dc at l a b M Va ka ia wa xa ya s ⊢
        iterate 4 refine p_ L ?_
        refine qw_ 5 (m_ 13 47) L ?_
        refine qw_ 6 (m_ 13 111) L ?_
        refine qw_ 7 (m_ 13 239) L ?_
        refine qw_ 8 (m_ 13 495) L ?_
        refine qw_ 9 (m_ 13 1007) L ?_
        refine qt_ 4 (b_ 10 3) L Xa s ?_
        refine t0_ L Xa s ?_
        refine o1_ 11 (b_ 12 1) L (fun K hK=>?_)
        refine goes_ Tryz.func113 (by kernel_rfl) rfl #[.slice z d.length A,.slice Ia ((rd_T29 m (O)).f0).length Ja] (by rfl) rfl rfl (by (try simp only[mp_]);first|done|(simp only[qa];rfl)|rfl|(simp only[List.length_drop,List.length_take];rfl)) ?_
        with_reducible refine(spec_SetLess.calls k2 _ _ d _ _ ((rd_T29 m (O)).f0) Fa _ ?side1 ?side2 ?side3 ?side4 fc.1).mono ?_
        (case side1=>exact cp_ ((Kd.R_reads' a.1).2.2))
        (case side2=>exact(Kd.R_reads' a.1).2.1)
        (case side3=>repeat (first|exact(by repeat (first|(with_reducible exact ka.1)|(with_reducible first|refine ca_ ?_ _|refine cn_ ?_ _|refine cd_ ?_)|exact ka.1))|(with_reducible first|refine ca_ ?_ _|refine cn_ ?_ _|refine cd_ ?_)))
        (case side4=>exact Wa.1)
        rintro e w' ⟨rfl,⟨nd,rfl⟩⟩
        refine⟨_,rfl,?_⟩
        refine ho_ hK ⟨bx_ b.1 0,bx_ b.1 1,bx_ b.1 2,bx_ b.1 3,s.2.2.2.2.1,s.2.2.2.2.2.1,s.2.2.2.2.2.2.1,s.2.2.2.2.2.2.2⟩ (fun s=>?_)
        refine p_ L ?_
        refine done_ (done_of L.1 (by kernel_rfl)) ?_
        try go_wp2
        go_meet
        case rel=>exact⟨_,(Fa),rs_,H',⟨by have:=La.1;have:=Ma.1;first|omega|exact Nat.le_refl _⟩,⟨sp_ l.1⟩,⟨rp_ a.1⟩,⟨bq_ b.1⟩,⟨hs_ M.1⟩⟩
       have ha:decide (0<D)=false:=decide_eq_false Ua
       clear Ua
       (first|rw[ha]|(simp only[i64_w,i32_w];rw[ha])|skip)
       have H':=M_ H
       clear H
       try go_wp2
       obtain⟨l,a,b,M⟩:=y4_ l a b M
       refine start_ (n:=13) (S:=fun w'=>True) (ds:=[]) (b_ 0 13) (by kernel_rfl) rfl rfl trivial (fun s=>?_);refine with_tabW spec_l8Sort.tab7 spec_l8Sort.bits7 (fun L Xa=>?_)
       generalize wr.drew=Ec at l a b M s ⊢
       iterate 3 refine p_ L ?_
       iterate 9 refine v_ L ?_
       refine p_ L ?_
       refine done_ (done_of L.1 (by kernel_rfl)) ?_
       try go_wp2
       go_meet
       case rel=>exact⟨_,(false),rs_,H',⟨by have:=La.1;have:=Ma.1;first|omega|exact Nat.le_refl _⟩,⟨sp_ l.1⟩,⟨rp_ a.1⟩,⟨bq_ b.1⟩,⟨hs_ M.1⟩⟩
      case rest=>
       clear Ta
       obtain⟨kq,pa,rfl,HA,HJ11,l,a,b,M⟩:=hcut
       cases kq with
       | zero=>exact absurd HA.1 (by simp[spec_l8Sort.j2])
       | succ ea=>
        have H:=HA.1
        clear HA
        simp only[spec_l8Sort.j2] at H
        replace H:=ib_ H;rcases H with⟨rfl,H⟩|⟨rfl,H⟩
        ·
         have H':=M_ H
         clear H
         go_wp2
         go_roundg ea
         case measure=>have:=La.1;have:=Ma.1;have:=HJ11.1;omega
         case rel=>exact⟨(wrap64 (D-1)),rs_,H',⟨by have:=La.1;have:=Ma.1;have:=HJ11.1;omega⟩,⟨sp_ l.1⟩,⟨rp_ a.1⟩,⟨bq_ b.1⟩,⟨hs_ M.1⟩⟩
        obtain⟨ba,hy_⟩:∃y_:List S29,y_=(([]:List S29)):=⟨_,rfl⟩
        replace H:(if 0≤D then (if D≤(m.length:Int) then ((some (m.drop (D:Int).toNat:List S29)).bind fun Y=>((some (m.take (D:Int).toNat:List S29)).bind fun G=>(if ba.length+G.length<2513169434916 then ((some (ba++G:List S29)).bind fun X=>(if X.length<2513169434916 then ((some (X++[(⟨d,u,v,x⟩:S29)]:List S29)).bind fun W=>(if W.length+Y.length<2513169434916 then (spec_l8Sort.l0 ea l0 (W++Y) (wrap64 (I+1))) else (none))) else (none))) else (none)))) else (none)) else (none))=some r:=hm_
        have sa:=M_ hy_;clear hy_
        replace H:=in_ H;obtain⟨jb,H⟩:=H
        have hc:=eq_true jb
        have ic:=decide_eq_true jb
        clear jb
        replace H:=in_ H;obtain⟨kb,H⟩:=H
        have jc:=eq_true kb
        have kc:=decide_eq_true kb
        clear kb
        obtain⟨Y,hy_⟩:∃y_:List S29,y_=(m.drop (D:Int).toNat):=⟨_,rfl⟩
        replace H:((some (m.take (D:Int).toNat:List S29)).bind fun G=>(if ba.length+G.length<2513169434916 then ((some (ba++G:List S29)).bind fun X=>(if X.length<2513169434916 then ((some (X++[(⟨d,u,v,x⟩:S29)]:List S29)).bind fun W=>(if W.length+Y.length<2513169434916 then (spec_l8Sort.l0 ea l0 (W++Y) (wrap64 (I+1))) else (none))) else (none))) else (none)))=some r:=hm_
        have ta:=M_ hy_;clear hy_
        obtain⟨G,hy_⟩:∃y_:List S29,y_=(m.take (D:Int).toNat):=⟨_,rfl⟩
        replace H:(if ba.length+G.length<2513169434916 then ((some (ba++G:List S29)).bind fun X=>(if X.length<2513169434916 then ((some (X++[(⟨d,u,v,x⟩:S29)]:List S29)).bind fun W=>(if W.length+Y.length<2513169434916 then (spec_l8Sort.l0 ea l0 (W++Y) (wrap64 (I+1))) else (none))) else (none))) else (none))=some r:=hm_
        have Ya:=M_ hy_;clear hy_
        replace H:=im_ H;obtain⟨Ca,H⟩:=H
        obtain⟨X,hy_⟩:∃y_:List S29,y_=(ba++G):=⟨_,rfl⟩
        replace H:(if X.length<2513169434916 then ((some (X++[(⟨d,u,v,x⟩:S29)]:List S29)).bind fun W=>(if W.length+Y.length<2513169434916 then (spec_l8Sort.l0 ea l0 (W++Y) (wrap64 (I+1))) else (none))) else (none))=some r:=hm_
        have Da:=M_ hy_;clear hy_
        replace H:=im_ H;obtain⟨lb,H⟩:=H
        obtain⟨W,hy_⟩:∃y_:List S29,y_=(X++[(⟨d,u,v,x⟩:S29)]):=⟨_,rfl⟩
        replace H:(if W.length+Y.length<2513169434916 then (spec_l8Sort.l0 ea l0 (W++Y) (wrap64 (I+1))) else (none))=some r:=hm_
        have mb:=M_ hy_;clear hy_
        replace H:=im_ H;obtain⟨nb,H⟩:=H
        obtain⟨eb,hy_⟩:∃y_:List S29,y_=(W++Y):=⟨_,rfl⟩
        replace H:(spec_l8Sort.l0 ea l0 eb (wrap64 (I+1)))=some r:=hm_
        have ob:=M_ hy_;clear hy_
        have H':=M_ H
        clear H
        try go_wp2
        have qp26:(D:Int)≤((m.length:Int):Int):=of_decide_eq_true (by with_reducible assumption)
        have pb:(0:Int)≤(D:Int):=of_decide_eq_true (by with_reducible assumption)
        have hlxp26:=(Kd.S_reads' l.1).1
        obtain⟨i0p26,ua,_,hszp26,_⟩:=info_parts info29
        have hcutp26:=cut_to (P:=Tryz.prog) 40 29 .i64 Tryz.underlying40 ua y m.length B D (of_decide_eq_true (by with_reducible assumption)) qp26 (Kd.S_reads' l.1).2.1
        have hcutbp26:=cut_from (P:=Tryz.prog) 40 29 .i64 Tryz.underlying40 ua 4 hszp26 y m.length B D pb qp26
        have KLp26:=M_ (show (D:Int).toNat≤m.length from by omega)
        obtain⟨GXp26,hsrp26,hspp26,hglp26⟩:=Kd.S_split l.1 ((D:Int).toNat) KLp26.out
        have HGp26:=M_ (show ∀k_,GXp26 k_→k_<c from fun k_ hk=>(hglp26 k_ hk).2.2.2)
        have hyp26:G.length=(D:Int).toNat:=(by rw[Ya.1,List.length_take];omega)
        rw[←Ya.1] at hspp26
        rw[←hyp26] at hspp26 hcutp26
        obtain⟨Ap26b,hAbp26⟩:∃A1,A1=(if B=(D:Int).toNat then y else (y:Option Addr).map (·.add ((D:Int).toNat*4))):=⟨_,rfl⟩
        obtain⟨cp26b,hcbp26⟩:∃c1,c1=B-(D:Int).toNat:=⟨_,rfl⟩
        have hybp26:Y.length=m.length-(D:Int).toNat:=(by rw[ta.1,List.length_drop])
        rw[←hybp26,←hAbp26,←hcbp26] at hcutbp26
        have KAp26:=M_ hAbp26
        clear hcbp26 hAbp26 hybp26 hlxp26
        obtain⟨GXp26P,hPPp26,hlPp26⟩:=Kd.S_fp hspp26
        have HGp26P:=M_ (show ∀k_,GXp26P k_→k_<c from fun k_ hk=>(hlPp26 k_ hk).1.1.2.2.2)
        obtain⟨GXp26u0,hPXp26u0,hPlp26u0⟩:=Kd.R_fpt rfl (a.1)
        have HGp26u0:=M_ (show ∀k_,GXp26u0 k_→k_<c from fun k_ hk_=>(hPlp26u0 k_ hk_).1.1.2)
        have nup26u0:=M_ (Kd.R_mono hPXp26u0 (fun k_ hk_=>(⟨⟨(hPlp26u0 k_ hk_).1.1,hk_⟩,fun g_=>Nat.lt_irrefl _ (Nat.lt_of_lt_of_le (hglp26 k_ g_).2.2.1 (hPlp26u0 k_ hk_).1.1.1)⟩:(_∧GXp26u0 k_)∧¬GXp26 k_)))
        have F:=M_ (Kd.S_mono (Kd.S_mono hPPp26 (fun k_ hk_=>(⟨(hlPp26 k_ hk_).1,hk_⟩:_∧GXp26P k_))) (fun k_ hk=>(⟨hk,fun g_=>Nat.lt_irrefl _ (Nat.lt_of_lt_of_le hk.1.1.2.2.1 (hPlp26u0 k_ g_).1.1.1)⟩:_∧¬GXp26u0 k_)))
        clear l
        have l:=M_ hsrp26
        clear a
        have a:=nup26u0
        clear nup26u0 hPXp26u0 hPlp26u0 hsrp26 hspp26 hglp26 hPPp26 hlPp26 hyp26 ua hszp26
        replace qp26:=eq_true qp26
        obtain⟨l,a,F,b,M⟩:=y5_ l a F b M
        refine start_ (n:=13) (S:=fun w'=>c_ w' c 0 (.slice z d.length A)∧c_ w' c 1 (.int .i64 u)∧c_ w' c 2 (.int .i64 v)∧c_ w' c 3 (.string x)) (ds:=[]) (b_ 0 13) (by kernel_rfl) rfl rfl (e4_ b.1) (fun s=>?_);refine with_tabW spec_l8Sort.tab9 spec_l8Sort.bits9 (fun L Xa=>?_)
        generalize wc.drew=Hc at l a F b M s ⊢
        refine qw_ 1 (m_ 13 2) L ?_
        refine qw_ 2 (m_ 13 6) L ?_
        refine qw_ 3 (m_ 13 14) L ?_
        refine qw_ 8 (m_ 13 270) L ?_
        refine qw_ 9 (m_ 13 782) L ?_
        refine qw_ 10 (m_ 13 1806) L ?_
        refine qt_ 5 (m_ 13 1838) L Xa s ?_
        refine join_ (σ:=Value×Value×Nat) 3 (m_ 13 1919) (fun s_=>[(36,s_.1),(40,s_.2.1),(42,.slice (some ⟨s_.2.2,0,none⟩) 1 1)]) (fun s_ w'=>(c_ w' c 0 (.slice z d.length A)∧c_ w' c 1 (.int .i64 u)∧c_ w' c 2 (.int .i64 v)∧c_ w' c 3 (.string x))∧(Kd.S k29 29 w' w.heap.size (fun k_=>some k_≠(.slice y m.length B:Value).ownBlock∧some k_≠(.slice z d.length A:Value).ownBlock∧k_≠c∧k_≠s_.2.2∧¬GXp26 k_∧¬GXp26u0 k_) s_.2.1 X)∧(Kd.S (Kd.opt k29) 29 w' w.heap.size (fun k_=>some k_≠(s_.2.1:Value).ownBlock∧some k_≠(.slice z d.length A:Value).ownBlock∧k_≠c∧k_≠s_.2.2∧GXp26 k_∧k_<c∧k_<q) (.slice y m.length B) (Kd.gap ((D:Int).toNat) m))∧(Kd.R k99 99 w' w.heap.size (fun k_=>q≤k_∧GXp26u0 k_∧k_<c∧¬GXp26 k_) (.slice z d.length A) d)∧(w'.heap[c]?=some (.cells #[.slice z d.length A,.int .i64 u,.int .i64 v,.string x] 29 (0,0)))∧(w'.heap[s_.2.2]?=some (.cells #[.slice z d.length A,.int .i64 u,.int .i64 v,.string x] 29 (0,0)))∧(w.heap.size≤s_.2.2)∧(w.heap.size≤s_.2.2)∧(c≠s_.2.2)∧(s_.2.2≠c)∧(Below w.heap.size w w')) ?_ ?_
        rotate_left
        ·
         intro Ea
         refine two_ (i:=0) (j:=6) (Ni:=some 36) (Nj:=some 42) (m_ 13 1839) (m_ 13 1902) rfl rfl rfl rfl (two_of L.1 (by kernel_rfl)) (by decide) (by decide) (fun K hK=>?_) (fun K hK=>?_)
         ·
          skip
          refine Kd.S_lit_step k29 _ 29 ?hg (N:=36) ?hd (xs:=([]:List S29)) (inner:=[]) (ok:=fun _=>True) (okp:=fun _=>True) ?hr ?hp (fun _ hk=>hk) trivial (Below.refl _ _) (Nat.le_refl _) (by simp) ?_;(case hd=>rfl);(case hg=>rfl);(case hr=>first|(go_simp;done)|(go_simp;rfl));(case hp=>exact(Reps.none _ _))
          intro V lc la hb hg_ hnew_
          clear hg_ hnew_
          (first|rw[←sa.1] at la|(simp only[Int.reduceToNat] at la;rw[←sa.1] at la))
          have J:=M_ (Kd.S_lower (Kd.S_newB (Kd.S_new' (Kd.S_new' (Kd.S_new' (Kd.S_ngz HGp26P.out (blk_lt (pb_ b.1)) (Kd.S_ngz HGp26u0.out (blk_lt (pb_ b.1)) (Kd.S_ngz HGp26.out (blk_lt (pb_ b.1)) la))) (Kd.S_lt (sp_ l.1))) (Kd.R_lt (rp_ a.1))) (Kd.S_lt (sp_ F.1))) (pb_ b.1)) (below_size (hs_ M.1)))
          replace l:=M_ (Kd.S_elder' (sp_ l.1) (Kd.S_base la) hb)
          replace a:=rb_ a hb
          replace F:=M_ (Kd.S_elder' (sp_ F.1) (Kd.S_base la) hb)
          obtain⟨b,M⟩:=u2_ hb b M
          clear hb la
          refine ho_ hK (e4_ b.1) (fun s=>?_)
          refine two_ (i:=4) (j:=6) (Ni:=some 40) (Nj:=some 42) (m_ 13 1855) (m_ 13 1903) rfl rfl rfl rfl (two_of L.1 (by kernel_rfl)) (by decide) (by decide) (fun K hK=>?_) (fun K hK=>?_)
          ·
           skip
           refine Kd.S_append_part_step k29 (w0:=w) w.heap.size (by rfl) (.tmp 36) (.tmp 39) 40 29 (.agg #[(.slice none 0 0),(.int .i64 0),(.int .i64 0),(.string ⟨#[]⟩)]) 56 rfl Tryz.underlying40 info29 rfl (by decide) (by omega) V ba G _ _ _ (fun k_=>some k_≠(.slice y m.length B:Value).ownBlock∧some k_≠(.slice z d.length A:Value).ownBlock∧k_≠c∧¬GXp26 k_∧¬GXp26u0 k_) (fun k_=>some k_≠(.slice z d.length A:Value).ownBlock∧some k_≠(V:Value).ownBlock∧k_≠c∧k_<q∧k_<c∧(¬GXp26 k_∨some k_=(.slice y G.length B:Value).ownBlock)∧GXp26P k_∧¬GXp26u0 k_) rfl rfl ?aR (fun k_ hx_ ho_=>by have hz_:((((fun k_=>some k_≠(.slice z d.length A:Value).ownBlock∧some k_≠(V:Value).ownBlock∧k_≠c∧k_<q∧k_<c∧(¬GXp26 k_∨some k_=(.slice y G.length B:Value).ownBlock)∧GXp26P k_∧¬GXp26u0 k_)) k_∧¬GXp26 k_)∧some k_≠(.slice y m.length B:Value).ownBlock):=⟨⟨hx_,fun g_=>(hx_.2.2.2.2.2.1).elim (fun h_=>h_ g_) (fun h_=>ho_ h_)⟩,fun e_=>ho_ (e_.trans Kd.own_len)⟩;exact⟨⟨hz_.2,⟨hz_.1.1.1,⟨hz_.1.1.2.2.1,⟨hz_.1.2,hz_.1.1.2.2.2.2.2.2.2⟩⟩⟩⟩,hz_.1.1.2.1⟩) ?aF ?aO ?aB ?aS ?aL ?_
           (case aR=>exact(Kd.S_mono (F.1) (fun k_ hk=>⟨hk.1.1.1.1.1,⟨hk.2,⟨hk.1.1.1.1.2.1,⟨hk.1.1.1.1.2.2.1,⟨hk.1.1.1.1.2.2.2,⟨hk.1.1.1.2,⟨hk.1.1.2,hk.1.2⟩⟩⟩⟩⟩⟩⟩)))
           (case aB=>exact(hs_ M.1))
           (case aF=>exact(fun k_ hk=>⟨Kd.fresh' (Kd.S_lt (sp_ l.1)) k_ hk,Kd.fresh' (Kd.R_lt (rp_ a.1)) k_ hk,Kd.freshB (g:=c) (o:=.cells #[.slice z d.length A,.int .i64 u,.int .i64 v,.string x] 29 (0,0)) (pb_ b.1) k_ hk,(fun g_=>Nat.lt_irrefl _ (Nat.lt_of_lt_of_le (Nat.lt_trans (HGp26.out k_ g_) (blk_lt (pb_ b.1))) hk)),(fun g_=>Nat.lt_irrefl _ (Nat.lt_of_lt_of_le (Nat.lt_trans (HGp26u0.out k_ g_) (blk_lt (pb_ b.1))) hk))⟩))
           (case aO=>exact(Kd.S_mono (sp_ J.1) (fun k_ hk=>⟨⟨hk.1.1.1.2,⟨hk.1.1.2,⟨hk.2,⟨hk.1.1.1.1.1.1.2,hk.1.1.1.1.1.2⟩⟩⟩⟩,fun e_=>(fun ez_=>hk.1.1.1.1.2 ((fun (k9_:Nat) (Ba:((fun k_=>some k_≠(.slice z d.length A:Value).ownBlock∧some k_≠(V:Value).ownBlock∧k_≠c∧k_<q∧k_<c∧(¬GXp26 k_∨some k_=(.slice y G.length B:Value).ownBlock)∧GXp26P k_∧¬GXp26u0 k_)) k9_∧some k9_≠(.slice y G.length B:Value).ownBlock)=>(⟨Ba.1,trivial⟩:_∧True)) _ ez_).1.2.2.2.2.2.2.1) e_⟩)))
           (case aS=>exact(below_size (hs_ M.1)))
           (case aL=>have:=Ca.1;omega)
           intro aa mc ho hb hg hat
           rw[←Da.1] at ho
           replace l:=M_ (Kd.S_after (ok:=(fun k_=>some k_≠(.slice z d.length A:Value).ownBlock∧k_≠c∧k_<q∧k_<c∧GXp26 k_)) (Kd.S_mono (sp_ l.1) (fun _ hk=>⟨⟨hk.1.1.1,⟨hk.1.1.2.1,⟨hk.1.1.2.2.1,⟨hk.1.1.2.2.2,hk.1.2⟩⟩⟩⟩,hk.2⟩)) hg hat)
           replace a:=M_ (Kd.R_over' (rp_ a.1) (Kd.S_typed (sp_ J.1)) (by decide) hg)
           replace b:=M_ (blk_grown (bq_ b.1) hg (Kd.S_away J.1 (fun _ hk=>hk.2)))
           replace M:=M_ (hb)
           have Q:=M_ (ho)
           clear J F
           clear ho hb hg hat
           refine ho_ hK (e4_ b.1) (fun s=>?_)
           refine o1_ 6 (m_ 13 1919) L (fun K hK=>?_)
           refine box_stepL ?hg (N:=42) ?hd (cs:=#[.slice z d.length A,.int .i64 u,.int .i64 v,.string x]) (t:=29) ?hr ?_;(case hd=>rfl);(case hg=>rfl);(case hr=>first|(go_simp;done)|(go_simp;rfl))
           intro p hg Eb fa hb
           replace l:=se_ l hg hb
           replace a:=rb_ a hb
           replace Q:=se_ Q hg hb
           have E:=M_ (fa)
           have ca:=gq_ hg M
           have da:=gq_ hg M
           replace M:=st_ M hb
           have T:=nk_ b hg
           have U:=Ne_.mk (ng_ b.1 hg)
           replace b:=bk2_ b hb
           clear hb fa hg
           refine ho_ hK (e4_ b.1) (fun s=>?_)
           exact norm_ (by simp only[putAll,fr_]) (Ea (V,aa,p) _ ⟨s,(Kd.S_mono (sp_ Q.1) (fun _ hk=>⟨hk.1.1,⟨hk.1.2.1,⟨hk.1.2.2.1,⟨hk.2,⟨hk.1.2.2.2.1,hk.1.2.2.2.2⟩⟩⟩⟩⟩)),(Kd.S_mono (sp_ l.1) (fun _ hk=>⟨hk.1.2,⟨hk.1.1.1,⟨hk.1.1.2.1,⟨hk.2,⟨hk.1.1.2.2.2.2,⟨hk.1.1.2.2.2.1,hk.1.1.2.2.1⟩⟩⟩⟩⟩⟩)),(Kd.R_mono (rp_ a.1) (fun _ hk=>⟨hk.1.1.1,⟨hk.1.2,⟨hk.1.1.2,hk.2⟩⟩⟩)),(pb_ b.1),(pb_ E.1),ca.1,da.1,T.1,U.1,(hs_ M.1)⟩)
          skip
          refine box_stepL ?hg (N:=42) ?hd (cs:=#[.slice z d.length A,.int .i64 u,.int .i64 v,.string x]) (t:=29) ?hr ?_;(case hd=>rfl);(case hg=>rfl);(case hr=>first|(go_simp;done)|(go_simp;rfl))
          intro p hg mc fa hb
          replace l:=se_ l hg hb
          replace a:=rb_ a hb
          replace F:=se_ F hg hb
          replace J:=se_ J hg hb
          have E:=M_ (fa)
          have ca:=gq_ hg M
          have da:=gq_ hg M
          replace M:=st_ M hb
          have T:=nk_ b hg
          have U:=Ne_.mk (ng_ b.1 hg)
          replace b:=bk2_ b hb
          clear hb fa hg
          refine ho_ hK (e4_ b.1) (fun s=>?_)
          refine o1_ 4 (m_ 13 1919) L (fun K hK=>?_)
          refine Kd.S_append_part_step k29 (w0:=w) w.heap.size (by rfl) (.tmp 36) (.tmp 39) 40 29 (.agg #[(.slice none 0 0),(.int .i64 0),(.int .i64 0),(.string ⟨#[]⟩)]) 56 rfl Tryz.underlying40 info29 rfl (by decide) (by omega) V ba G _ _ _ (fun k_=>some k_≠(.slice y m.length B:Value).ownBlock∧some k_≠(.slice z d.length A:Value).ownBlock∧k_≠c∧k_≠p∧¬GXp26 k_∧¬GXp26u0 k_) (fun k_=>some k_≠(.slice z d.length A:Value).ownBlock∧some k_≠(V:Value).ownBlock∧k_≠c∧k_<q∧k_<c∧(¬GXp26 k_∨some k_=(.slice y G.length B:Value).ownBlock)∧GXp26P k_∧¬GXp26u0 k_∧k_≠p) rfl rfl ?aR (fun k_ hx_ ho_=>by have hz_:((((fun k_=>some k_≠(.slice z d.length A:Value).ownBlock∧some k_≠(V:Value).ownBlock∧k_≠c∧k_<q∧k_<c∧(¬GXp26 k_∨some k_=(.slice y G.length B:Value).ownBlock)∧GXp26P k_∧¬GXp26u0 k_∧k_≠p)) k_∧¬GXp26 k_)∧some k_≠(.slice y m.length B:Value).ownBlock):=⟨⟨hx_,fun g_=>(hx_.2.2.2.2.2.1).elim (fun h_=>h_ g_) (fun h_=>ho_ h_)⟩,fun e_=>ho_ (e_.trans Kd.own_len)⟩;exact⟨⟨hz_.2,⟨hz_.1.1.1,⟨hz_.1.1.2.2.1,⟨hz_.1.1.2.2.2.2.2.2.2.2,⟨hz_.1.2,hz_.1.1.2.2.2.2.2.2.2.1⟩⟩⟩⟩⟩,hz_.1.1.2.1⟩) ?aF ?aO ?aB ?aS ?aL ?_
          (case aR=>exact(Kd.S_mono (F.1) (fun k_ hk=>⟨hk.1.1.1.1.1.1,⟨hk.1.2,⟨hk.1.1.1.1.1.2.1,⟨hk.1.1.1.1.1.2.2.1,⟨hk.1.1.1.1.1.2.2.2,⟨hk.1.1.1.1.2,⟨hk.1.1.1.2,⟨hk.1.1.2,hk.2⟩⟩⟩⟩⟩⟩⟩⟩)))
          (case aB=>exact(hs_ M.1))
          (case aF=>exact(fun k_ hk=>⟨Kd.fresh' (Kd.S_lt (sp_ l.1)) k_ hk,Kd.fresh' (Kd.R_lt (rp_ a.1)) k_ hk,Kd.freshB (g:=c) (o:=.cells #[.slice z d.length A,.int .i64 u,.int .i64 v,.string x] 29 (0,0)) (pb_ b.1) k_ hk,Kd.freshB (g:=p) (o:=.cells #[.slice z d.length A,.int .i64 u,.int .i64 v,.string x] 29 (0,0)) (pb_ E.1) k_ hk,(fun g_=>Nat.lt_irrefl _ (Nat.lt_of_lt_of_le (Nat.lt_trans (HGp26.out k_ g_) (blk_lt (pb_ b.1))) hk)),(fun g_=>Nat.lt_irrefl _ (Nat.lt_of_lt_of_le (Nat.lt_trans (HGp26u0.out k_ g_) (blk_lt (pb_ b.1))) hk))⟩))
          (case aO=>exact(Kd.S_mono (sp_ J.1) (fun k_ hk=>⟨⟨hk.1.1.1.1.2,⟨hk.1.1.1.2,⟨hk.1.2,⟨hk.2,⟨hk.1.1.1.1.1.1.1.2,hk.1.1.1.1.1.1.2⟩⟩⟩⟩⟩,fun e_=>(fun ez_=>hk.1.1.1.1.1.2 ((fun (k9_:Nat) (Ba:((fun k_=>some k_≠(.slice z d.length A:Value).ownBlock∧some k_≠(V:Value).ownBlock∧k_≠c∧k_<q∧k_<c∧(¬GXp26 k_∨some k_=(.slice y G.length B:Value).ownBlock)∧GXp26P k_∧¬GXp26u0 k_∧k_≠p)) k9_∧some k9_≠(.slice y G.length B:Value).ownBlock)=>(⟨Ba.1,trivial⟩:_∧True)) _ ez_).1.2.2.2.2.2.2.1) e_⟩)))
          (case aS=>exact(below_size (hs_ M.1)))
          (case aL=>have:=Ca.1;omega)
          intro aa Eb ho hb hg hat
          rw[←Da.1] at ho
          replace l:=M_ (Kd.S_after (ok:=(fun k_=>some k_≠(.slice z d.length A:Value).ownBlock∧k_≠c∧k_<q∧k_<c∧GXp26 k_∧k_≠p)) (Kd.S_mono (sp_ l.1) (fun _ hk=>⟨⟨hk.1.1.1.1,⟨hk.1.1.1.2.1,⟨hk.1.1.1.2.2.1,⟨hk.1.1.1.2.2.2,⟨hk.1.1.2,hk.2⟩⟩⟩⟩⟩,hk.1.2⟩)) hg hat)
          replace a:=M_ (Kd.R_over' (rp_ a.1) (Kd.S_typed (sp_ J.1)) (by decide) hg)
          replace b:=M_ (blk_grown (bq_ b.1) hg (Kd.S_away J.1 (fun _ hk=>hk.1.2)))
          replace E:=M_ (blk_grown (bq_ E.1) hg (Kd.S_away J.1 (fun _ hk=>hk.2)))
          replace M:=M_ (hb)
          have Q:=M_ (ho)
          clear J F
          clear ho hb hg hat
          refine ho_ hK (e4_ b.1) (fun s=>?_)
          exact norm_ (by simp only[putAll,fr_]) (Ea (V,aa,p) _ ⟨s,(sp_ Q.1),(Kd.S_mono (sp_ l.1) (fun _ hk=>⟨hk.2,⟨hk.1.1,⟨hk.1.2.1,⟨hk.1.2.2.2.2.2,⟨hk.1.2.2.2.2.1,⟨hk.1.2.2.2.1,hk.1.2.2.1⟩⟩⟩⟩⟩⟩)),(Kd.R_mono (rp_ a.1) (fun _ hk=>⟨hk.1.1.1,⟨hk.1.2,⟨hk.1.1.2,hk.2⟩⟩⟩)),(pb_ b.1),(pb_ E.1),ca.1,da.1,T.1,U.1,(hs_ M.1)⟩)
         skip
         refine box_stepL ?hg (N:=42) ?hd (cs:=#[.slice z d.length A,.int .i64 u,.int .i64 v,.string x]) (t:=29) ?hr ?_;(case hd=>rfl);(case hg=>rfl);(case hr=>first|(go_simp;done)|(go_simp;rfl))
         intro p hg lc fa hb
         replace l:=se_ l hg hb
         replace a:=rb_ a hb
         replace F:=se_ F hg hb
         have E:=M_ (fa)
         have ca:=gq_ hg M
         have da:=gq_ hg M
         replace M:=st_ M hb
         have T:=nk_ b hg
         have U:=Ne_.mk (ng_ b.1 hg)
         replace b:=bk2_ b hb
         clear hb fa hg
         refine ho_ hK (e4_ b.1) (fun s=>?_)
         refine o1_ 0 (m_ 13 1903) L (fun K hK=>?_)
         refine Kd.S_lit_step k29 _ 29 ?hg (N:=36) ?hd (xs:=([]:List S29)) (inner:=[]) (ok:=fun _=>True) (okp:=fun _=>True) ?hr ?hp (fun _ hk=>hk) trivial (Below.refl _ _) (Nat.le_refl _) (by simp) ?_;(case hd=>rfl);(case hg=>rfl);(case hr=>first|(go_simp;done)|(go_simp;rfl));(case hp=>exact(Reps.none _ _))
         intro V Ic ma hb hg_ hnew_
         clear hg_ hnew_
         (first|rw[←sa.1] at ma|(simp only[Int.reduceToNat] at ma;rw[←sa.1] at ma))
         have J:=M_ (Kd.S_lower (Kd.S_newB (Kd.S_newB (Kd.S_new' (Kd.S_new' (Kd.S_new' (Kd.S_ngz HGp26P.out (blk_lt (pb_ b.1)) (Kd.S_ngz HGp26u0.out (blk_lt (pb_ b.1)) (Kd.S_ngz HGp26.out (blk_lt (pb_ b.1)) ma))) (Kd.S_lt (sp_ l.1))) (Kd.R_lt (rp_ a.1))) (Kd.S_lt (sp_ F.1))) (pb_ b.1)) (pb_ E.1)) (below_size (hs_ M.1)))
         replace l:=M_ (Kd.S_elder' (sp_ l.1) (Kd.S_base ma) hb)
         replace a:=rb_ a hb
         replace F:=M_ (Kd.S_elder' (sp_ F.1) (Kd.S_base ma) hb)
         obtain⟨b,E,M⟩:=u3_ hb b E M
         clear hb ma
         refine ho_ hK (e4_ b.1) (fun s=>?_)
         refine o1_ 4 (m_ 13 1919) L (fun K hK=>?_)
         refine Kd.S_append_part_step k29 (w0:=w) w.heap.size (by rfl) (.tmp 36) (.tmp 39) 40 29 (.agg #[(.slice none 0 0),(.int .i64 0),(.int .i64 0),(.string ⟨#[]⟩)]) 56 rfl Tryz.underlying40 info29 rfl (by decide) (by omega) V ba G _ _ _ (fun k_=>some k_≠(.slice y m.length B:Value).ownBlock∧some k_≠(.slice z d.length A:Value).ownBlock∧k_≠c∧k_≠p∧¬GXp26 k_∧¬GXp26u0 k_) (fun k_=>some k_≠(.slice z d.length A:Value).ownBlock∧some k_≠(V:Value).ownBlock∧k_≠c∧k_<q∧k_<c∧(¬GXp26 k_∨some k_=(.slice y G.length B:Value).ownBlock)∧GXp26P k_∧¬GXp26u0 k_∧k_≠p) rfl rfl ?aR (fun k_ hx_ ho_=>by have hz_:((((fun k_=>some k_≠(.slice z d.length A:Value).ownBlock∧some k_≠(V:Value).ownBlock∧k_≠c∧k_<q∧k_<c∧(¬GXp26 k_∨some k_=(.slice y G.length B:Value).ownBlock)∧GXp26P k_∧¬GXp26u0 k_∧k_≠p)) k_∧¬GXp26 k_)∧some k_≠(.slice y m.length B:Value).ownBlock):=⟨⟨hx_,fun g_=>(hx_.2.2.2.2.2.1).elim (fun h_=>h_ g_) (fun h_=>ho_ h_)⟩,fun e_=>ho_ (e_.trans Kd.own_len)⟩;exact⟨⟨hz_.2,⟨hz_.1.1.1,⟨hz_.1.1.2.2.1,⟨hz_.1.1.2.2.2.2.2.2.2.2,⟨hz_.1.2,hz_.1.1.2.2.2.2.2.2.2.1⟩⟩⟩⟩⟩,hz_.1.1.2.1⟩) ?aF ?aO ?aB ?aS ?aL ?_
         (case aR=>exact(Kd.S_mono (F.1) (fun k_ hk=>⟨hk.1.1.1.1.1.1,⟨hk.2,⟨hk.1.1.1.1.1.2.1,⟨hk.1.1.1.1.1.2.2.1,⟨hk.1.1.1.1.1.2.2.2,⟨hk.1.1.1.1.2,⟨hk.1.1.1.2,⟨hk.1.1.2,hk.1.2⟩⟩⟩⟩⟩⟩⟩⟩)))
         (case aB=>exact(hs_ M.1))
         (case aF=>exact(fun k_ hk=>⟨Kd.fresh' (Kd.S_lt (sp_ l.1)) k_ hk,Kd.fresh' (Kd.R_lt (rp_ a.1)) k_ hk,Kd.freshB (g:=c) (o:=.cells #[.slice z d.length A,.int .i64 u,.int .i64 v,.string x] 29 (0,0)) (pb_ b.1) k_ hk,Kd.freshB (g:=p) (o:=.cells #[.slice z d.length A,.int .i64 u,.int .i64 v,.string x] 29 (0,0)) (pb_ E.1) k_ hk,(fun g_=>Nat.lt_irrefl _ (Nat.lt_of_lt_of_le (Nat.lt_trans (HGp26.out k_ g_) (blk_lt (pb_ b.1))) hk)),(fun g_=>Nat.lt_irrefl _ (Nat.lt_of_lt_of_le (Nat.lt_trans (HGp26u0.out k_ g_) (blk_lt (pb_ b.1))) hk))⟩))
         (case aO=>exact(Kd.S_mono (sp_ J.1) (fun k_ hk=>⟨⟨hk.1.1.1.1.2,⟨hk.1.1.1.2,⟨hk.1.2,⟨hk.2,⟨hk.1.1.1.1.1.1.1.2,hk.1.1.1.1.1.1.2⟩⟩⟩⟩⟩,fun e_=>(fun ez_=>hk.1.1.1.1.1.2 ((fun (k9_:Nat) (Ba:((fun k_=>some k_≠(.slice z d.length A:Value).ownBlock∧some k_≠(V:Value).ownBlock∧k_≠c∧k_<q∧k_<c∧(¬GXp26 k_∨some k_=(.slice y G.length B:Value).ownBlock)∧GXp26P k_∧¬GXp26u0 k_∧k_≠p)) k9_∧some k9_≠(.slice y G.length B:Value).ownBlock)=>(⟨Ba.1,trivial⟩:_∧True)) _ ez_).1.2.2.2.2.2.2.1) e_⟩)))
         (case aS=>exact(below_size (hs_ M.1)))
         (case aL=>have:=Ca.1;omega)
         intro aa Eb ho hb hg hat
         rw[←Da.1] at ho
         replace l:=M_ (Kd.S_after (ok:=(fun k_=>some k_≠(.slice z d.length A:Value).ownBlock∧k_≠c∧k_<q∧k_<c∧GXp26 k_∧k_≠p)) (Kd.S_mono (sp_ l.1) (fun _ hk=>⟨⟨hk.1.1.1.1,⟨hk.1.1.1.2.1,⟨hk.1.1.1.2.2.1,⟨hk.1.1.1.2.2.2,⟨hk.1.1.2,hk.1.2⟩⟩⟩⟩⟩,hk.2⟩)) hg hat)
         replace a:=M_ (Kd.R_over' (rp_ a.1) (Kd.S_typed (sp_ J.1)) (by decide) hg)
         replace b:=M_ (blk_grown (bq_ b.1) hg (Kd.S_away J.1 (fun _ hk=>hk.1.2)))
         replace E:=M_ (blk_grown (bq_ E.1) hg (Kd.S_away J.1 (fun _ hk=>hk.2)))
         replace M:=M_ (hb)
         have Q:=M_ (ho)
         clear J F
         clear ho hb hg hat
         refine ho_ hK (e4_ b.1) (fun s=>?_)
         exact norm_ (by simp only[putAll,fr_]) (Ea (V,aa,p) _ ⟨s,(sp_ Q.1),(Kd.S_mono (sp_ l.1) (fun _ hk=>⟨hk.2,⟨hk.1.1,⟨hk.1.2.1,⟨hk.1.2.2.2.2.2,⟨hk.1.2.2.2.2.1,⟨hk.1.2.2.2.1,hk.1.2.2.1⟩⟩⟩⟩⟩⟩)),(Kd.R_mono (rp_ a.1) (fun _ hk=>⟨hk.1.1.1,⟨hk.1.2,⟨hk.1.1.2,hk.2⟩⟩⟩)),(pb_ b.1),(pb_ E.1),ca.1,da.1,T.1,U.1,(hs_ M.1)⟩)
        rintro ⟨V,aa,p⟩ oa ⟨nc,Fb,Gb,Hb,Ib,Jb,Kb,Lb,Mb,Nb,Ba⟩
        have Q:Aside0 (Kd.S k29 29 oa w.heap.size (fun k_=>some k_≠(.slice y m.length B:Value).ownBlock∧some k_≠(.slice z d.length A:Value).ownBlock∧k_≠c∧k_≠p∧¬GXp26 k_∧¬GXp26u0 k_) aa X):=⟨Fb⟩
        replace l:Aside0 (Kd.S (Kd.opt k29) 29 oa w.heap.size (fun k_=>some k_≠(aa:Value).ownBlock∧some k_≠(.slice z d.length A:Value).ownBlock∧k_≠c∧k_≠p∧GXp26 k_∧k_<c∧k_<q) (.slice y m.length B) (Kd.gap ((D:Int).toNat) m)):=⟨Gb⟩
        replace a:Aside0 (Kd.R k99 99 oa w.heap.size (fun k_=>q≤k_∧GXp26u0 k_∧k_<c∧¬GXp26 k_) (.slice z d.length A) d):=⟨Hb⟩
        replace b:Aside0 (oa.heap[c]?=some (.cells #[.slice z d.length A,.int .i64 u,.int .i64 v,.string x] 29 (0,0))):=⟨Ib⟩
        have E:Aside0 (oa.heap[p]?=some (.cells #[.slice z d.length A,.int .i64 u,.int .i64 v,.string x] 29 (0,0))):=⟨Jb⟩
        have ca:=Ge_.mk Kb
        have da:=Ge_.mk Lb
        have T:=Ne_.mk Mb
        have U:=Ne_.mk Nb
        replace M:Aside0 (Below w.heap.size w oa):=⟨Ba⟩
        clear F Fb Gb Hb Ib Jb Kb Lb Mb Nb Ba
        have s:c_ oa c 0 (.slice z d.length A)∧c_ oa c 1 (.int .i64 u)∧c_ oa c 2 (.int .i64 v)∧c_ oa c 3 (.string x):=nc
        refine nm_ ?_
        refine o1_ 7 (b_ 11 2) L (fun K hK=>?_)
        refine Kd.S_append_box_step k29 (w0:=w) w.heap.size (by rfl) (.tmp 40) (.tmp 42) 40 29 (.agg #[(.slice none 0 0),(.int .i64 0),(.int .i64 0),(.string ⟨#[]⟩)]) 56 rfl Tryz.underlying40 info29 rfl (by decide) (by omega) aa X (⟨d,u,v,x⟩:S29) [.slice z d.length A,.int .i64 u,.int .i64 v,.string x] (fun k_=>some k_≠(.slice y m.length B:Value).ownBlock∧k_≠c∧k_≠p∧¬GXp26 k_) (fun k_=>some k_=(.slice z d.length A:Value).ownBlock) p (pb_ E.1) rfl rfl ?aP (fun k_ hk_=>((Kd.R_mono (ok':=fun k_=>((fun k_=>some k_≠(.slice y m.length B:Value).ownBlock∧k_≠c∧k_≠p∧¬GXp26 k_)) k_∧some k_≠(aa:Value).ownBlock) (Kd.R_types (Kd.R_types (Kd.R_apart' (Kd.R_apart' (a.1) (Kd.S_typed l.1) (by decide)) (Kd.S_typed Q.1) (by decide)) b.1 (by decide)) E.1 (by decide)) (fun k_ hk=>⟨⟨hk.1.1.1.2,⟨hk.1.2,⟨hk.2,hk.1.1.1.1.2.2.2⟩⟩⟩,hk.1.1.2⟩))).1 k_ hk_.symm) ?aF ?aO ?aB ?aS ?aL ?_
        (case aP=>exact k29_mkM _ _ _ (⟨d,u,v,x⟩:S29) (Kd.R_mono (Kd.R_tight rfl (Kd.R_mono (ok':=fun k_=>((fun k_=>some k_≠(.slice y m.length B:Value).ownBlock∧k_≠c∧k_≠p∧¬GXp26 k_)) k_∧some k_≠(aa:Value).ownBlock) (Kd.R_types (Kd.R_types (Kd.R_apart' (Kd.R_apart' (a.1) (Kd.S_typed l.1) (by decide)) (Kd.S_typed Q.1) (by decide)) b.1 (by decide)) E.1 (by decide)) (fun k_ hk=>⟨⟨hk.1.1.1.2,⟨hk.1.2,⟨hk.2,hk.1.1.1.1.2.2.2⟩⟩⟩,hk.1.1.2⟩))) (fun _ h_=>h_)))
        (case aB=>exact(hs_ M.1))
        (case aF=>exact(fun k_ hk=>⟨Kd.fresh' (Kd.S_lt (sp_ l.1)) k_ hk,Kd.freshB (g:=c) (o:=.cells #[.slice z d.length A,.int .i64 u,.int .i64 v,.string x] 29 (0,0)) (pb_ b.1) k_ hk,Kd.freshB (g:=p) (o:=.cells #[.slice z d.length A,.int .i64 u,.int .i64 v,.string x] 29 (0,0)) (pb_ E.1) k_ hk,(fun g_=>Nat.lt_irrefl _ (Nat.lt_of_lt_of_le (Nat.lt_trans (HGp26.out k_ g_) (blk_lt (pb_ b.1))) hk))⟩))
        (case aO=>exact(Kd.S_mono (sp_ Q.1) (fun k_ hk=>⟨⟨hk.1,⟨hk.2.2.1,⟨hk.2.2.2.1,hk.2.2.2.2.1⟩⟩⟩,fun e_=>(fun ez_=>hk.2.2.2.2.2 (a.1.1 _ ez_.symm).2.1) e_⟩)))
        (case aS=>exact(below_size (hs_ M.1)))
        (case aL=>have:=lb.1;omega)
        intro fb Jc ho hb hg hat
        rw[←mb.1] at ho
        replace l:=M_ (Kd.S_after (ok:=(fun k_=>some k_≠(.slice z d.length A:Value).ownBlock∧k_≠c∧k_≠p∧GXp26 k_∧k_<c∧k_<q)) (Kd.S_mono (sp_ l.1) (fun _ hk=>⟨⟨hk.2.1,⟨hk.2.2.1,⟨hk.2.2.2.1,⟨hk.2.2.2.2.1,⟨hk.2.2.2.2.2.1,hk.2.2.2.2.2.2⟩⟩⟩⟩⟩,hk.1⟩)) hg hat)
        replace b:=M_ (blk_grown (bq_ b.1) hg (Kd.S_away Q.1 (fun _ hk=>hk.2.2.1)))
        replace E:=M_ (blk_grown (bq_ E.1) hg (Kd.S_away Q.1 (fun _ hk=>hk.2.2.2.1)))
        replace M:=M_ (hb)
        have va:=M_ (ho)
        clear Q a
        clear ho hb hg hat
        refine ho_ hK (e4_ b.1) (fun s=>?_)
        refine o1_ 11 (b_ 12 1) L (fun K hK=>?_)
        refine Kd.S_append_rest_step k29 (w0:=w) w.heap.size (by rfl) (.tmp 43) (.tmp 46) 40 29 (.agg #[(.slice none 0 0),(.int .i64 0),(.int .i64 0),(.string ⟨#[]⟩)]) 56 rfl Tryz.underlying40 info29 rfl (by decide) (by omega) fb W m y m.length B ((D:Int).toNat) cp26b (fun k_=>k_≠c∧k_≠p) (fun k_=>some k_≠(fb:Value).ownBlock∧k_≠c∧k_≠p∧GXp26 k_∧k_<c∧k_<q) rfl KLp26.out (by rw[show (if B=(D:Int).toNat then y else (y:Option Addr).map (·.add ((D:Int).toNat*(k29).sz)))=Ap26b from KAp26.out.symm,←ta.1];rfl) ?aR (fun k_ hk ho_=>⟨⟨hk.2.1,hk.2.2.1⟩,hk.1⟩) ?aF ?aO ?aB ?aS ?aL ?_
        (case aR=>exact(Kd.S_mono (l.1) (fun k_ hk=>⟨hk.2,⟨hk.1.2.1,⟨hk.1.2.2.1,⟨hk.1.2.2.2.1,⟨hk.1.2.2.2.2.1,hk.1.2.2.2.2.2⟩⟩⟩⟩⟩)))
        (case aB=>exact(hs_ M.1))
        (case aF=>exact(fun k_ hk=>⟨Kd.freshB (g:=c) (o:=.cells #[.slice z d.length A,.int .i64 u,.int .i64 v,.string x] 29 (0,0)) (pb_ b.1) k_ hk,Kd.freshB (g:=p) (o:=.cells #[.slice z d.length A,.int .i64 u,.int .i64 v,.string x] 29 (0,0)) (pb_ E.1) k_ hk⟩))
        (case aO=>exact(Kd.S_mono (sp_ va.1) (fun k_ hk=>⟨⟨hk.2.1,hk.2.2.1⟩,fun e_=>hk.2.2.2 e_.1.2.2.2.1⟩)))
        (case aS=>exact(below_size (hs_ M.1)))
        (case aL=>have:=nb.1;rw[ta.1] at this;omega)
        intro xc Kc ho hb hg hat
        rw[←ta.1] at ho
        rw[←ob.1] at ho
        replace b:=M_ (blk_grown (bq_ b.1) hg (Kd.S_away va.1 (fun _ hk=>hk.2.1)))
        replace E:=M_ (blk_grown (bq_ E.1) hg (Kd.S_away va.1 (fun _ hk=>hk.2.2.1)))
        replace M:=M_ (hb)
        have qb:=M_ (ho)
        clear va l
        clear ho hb hg hat
        refine ho_ hK (e4_ b.1) (fun s=>?_)
        refine p_ L ?_
        refine done_ (done_of L.1 (by kernel_rfl)) ?_
        try go_wp2
        go_roundg ea
        case measure=>have:=La.1;have:=Ma.1;have:=HJ11.1;omega
        case rel=>exact⟨(eb),(wrap64 (I+1)),rs_,H',⟨by have:=La.1;have:=Ma.1;have:=HJ11.1;omega⟩,⟨Kd.S_mono (sp_ qb.1) (fun _ hk=>trivial)⟩,⟨hs_ M.1⟩⟩
   have vb:decide (I<(l0.length:Int))=false:=decide_eq_false c4
   clear c4
   obtain rfl:=Option.some.inj H
   go_wp2
   go_ret
   exact⟨_,rr_,sp_ l.1,hs_ M.1⟩
def spec_AllAlarms.l0:Nat→List S26→List S29→Int→Option ((List S29))
 | 0,_,_,_=>none
 | k+1,d,e,c=>if c<(d.length:Int) then (if 0≤c then ((spec_AlarmsIn.f k ((rd_T26 d c).f0) ((rd_T26 d c).f1) ((rd_T26 d c).f2)).bind fun a=>(if e.length+a.length<2513169434916 then (spec_AllAlarms.l0 k d (e++a) (wrap64 (c+1))) else (none))) else (none)) else ((spec_l8Sort.f k e).bind fun b=>(some b))
def spec_AllAlarms.f (k:Nat) (l0:List S26):Option ((List S29)):=spec_AllAlarms.l0 k l0 (([]:List S29)) 0
theorem spec_AllAlarms.calls (k:Nat) (A0:Option Addr) (c0:Nat) (l0:List S26) (r:List S29) (w:World) (R:Kd.C k26 w A0 l0.length l0) (T:l0.length≤c0) (h:spec_AllAlarms.f k l0=some r) :
  Calls Tryz.prog 46 #[.slice A0 l0.length c0] w fun e w'=>∃v0_:Value,e=.returned (v0_)∧Kd.S k29 29 w' w.heap.size (fun _=>True) v0_ r∧Below w.heap.size w w':=by
 have hu26:=Tryz.underlying26
 have ha:=M_ R
 have ta:=M_ T
 clear R T
 have j:=M_ (Below.refl w.heap.size w)
 unfold spec_AllAlarms.f at h
 have H:=h;clear h
 obtain⟨M,hy_⟩:∃y_:List S29,y_=(([]:List S29)):=⟨_,rfl⟩
 replace H:(spec_AllAlarms.l0 k l0 M 0)=some r:=hm_
 have A:=M_ hy_;clear hy_
 have H':=M_ H
 clear H
 go_enter Tryz.func46,Tryz.ntmps46
 go_wp2_with (first|((with_reducible refine gd_ 5 rfl ?_);refine Kd.S_lit k29 _ 29 ?hg (N:=5) ?hd (xs:=([]:List S29)) (inner:=[]) (ok:=fun _=>True) (okp:=fun _=>True) ?hr ?hp (fun _ hk=>hk) trivial (Below.refl _ _) (Nat.le_refl _) (by simp) ?_;(case hd=>rfl);(case hg=>rfl);(case hr=>first|(go_simp;done)|(go_simp;rfl));(case hp=>exact(Reps.none _ _));intro ia w2 B hb hg_ hnew_;clear hg_ hnew_;(first|rw[←A.1] at B|(simp only[Int.reduceToNat] at B;rw[←A.1] at B));have G:=sw_ B j;have U:=st_ j hb;clear j;have j:=U;clear U;clear hb B))
 go_loopg [3,4] k (fun kq v3 v4 w'=>∃(i:List S29) (a:Int),v4=.int .i64 a∧Aside0 (spec_AllAlarms.l0 kq l0 i a=some r)∧Aside0 (kq≤k)∧Aside0 (Kd.S k29 29 w' w.heap.size (fun _=>True) v3 i)∧Aside0 (Below w.heap.size w w'))
 case atStart=>exact⟨(M),(0),rs_,H',⟨Nat.le_refl _⟩,⟨sp_ G.1⟩,⟨hs_ j.1⟩⟩
 case round=>
  clear H'
  obtain⟨i,a,rfl,HA,V,d,j⟩:=hrel
  cases gk with
  | zero=>exact absurd HA.1 (by simp[spec_AllAlarms.l0])
  | succ k1=>
   have H:=HA.1
   clear HA
   simp only[spec_AllAlarms.l0] at H
   replace H:=ie_ H;rcases H with⟨W,H⟩|⟨W,H⟩
   ·
    have X:=decide_eq_true W
    clear W
    replace H:=id_ H;obtain⟨qa,H⟩:=H
    replace H:=bi_ H;obtain⟨p,A6,H⟩:=H
    replace H:=im_ H;obtain⟨Y,H⟩:=H
    obtain⟨D,hy_⟩:∃y_:List S29,y_=(i++p):=⟨_,rfl⟩
    replace H:(spec_AllAlarms.l0 k1 l0 D (wrap64 (a+1)))=some r:=hm_
    have I:=M_ hy_;clear hy_
    have H':=M_ H
    clear H
    obtain⟨q,s⟩:0≤(a:Int)∧a<(l0.length:Int):=pq_
    obtain⟨ga,E,F,O,c,g,l,m,n⟩:=at_T26 ha.1 a q s
    cases O
    replace c:=c2_ j c g;clear g;obtain⟨c,g⟩:=c
    replace l:=cl_ j.1 l
    have y:=M_ n
    have z:=M_ m
    clear n m
    replace q:=eq_true q;replace s:=eq_true s
    go_wp2_with (first|((with_reducible refine gate_callee (f:=27) rfl ?_);refine gl_ (some 17) Tryz.func27 #[.agg #[.int .i64 ((rd_T26 l0 a).f0),.int .i64 ((rd_T26 l0 a).f1),.slice E ((rd_T26 l0 a).f2).length F]] ?_;(with_reducible refine(spec_AlarmsIn.calls k1 ((rd_T26 l0 a).f0) ((rd_T26 l0 a).f1) _ _ ((rd_T26 l0 a).f2) p _ ?_ ?_ A6.1).mono ?_);exact cp_ ((Kd.C_below y.1 j.1));exact z.1;rintro e w8 ⟨ka,rfl,t,hb⟩;refine⟨_,rfl,?_⟩;obtain⟨Z,u⟩:=Kd.S_name t;replace d:=su_ u (sp_ d.1) hb;have o:=sg_ u t j;replace j:=st_ j hb;(try clear hb t);obtain⟨ra,sa,aa⟩:=Kd.S_slice o.1;subst aa;obtain⟨P,J,v⟩:=Kd.S_fp ((Kd.S_mono o.1 (fun k_ hk=>(⟨hk,fun ez_=>Nat.lt_irrefl _ (Nat.lt_of_lt_of_le ((Kd.S_R d.1).1 _ ez_.symm).2 hk.2)⟩:_∧some k_≠(u3:Value).ownBlock)))))|((with_reducible refine gate_builtin (b:=.append) (xs:=#[.tmp 12,.tmp 17]) rfl ?_);at_builtin;refine Kd.S_append_rows k29 (w0:=w) w.heap.size rfl (.tmp 12) (.tmp 17) 40 29 (.agg #[(.slice none 0 0),(.int .i64 0),(.int .i64 0),(.string ⟨#[]⟩)]) 56 rfl Tryz.underlying40 info29 rfl (by decide) (by omega) u3 i p _ _ _ (fun _=>True) P rfl rfl ?aR (fun k_ hk_=>⟨trivial,(v k_ hk_).1.2⟩) ?aF ?aO ?aB ?aS ?aL ?_;(case aR=>exact J);(case aB=>exact(hs_ j.1));(case aF=>exact(fun _ _=>trivial));(case aO=>exact(Kd.S_mono (sp_ d.1) (fun k_ hk=>⟨trivial,fun e_=>(fun ez_=>Nat.lt_irrefl _ (Nat.lt_of_lt_of_le hk.2 (v _ ez_).1.1.2)) e_⟩)));(case aS=>exact(below_size (hs_ j.1)));(case aL=>have:=Y.1;omega);intro la w9 ho hb hg hat;rw[←I.1] at ho;replace j:=M_ (hb);have K:=M_ (ho);clear d o;clear ho hb hg hat))
    go_roundg k1
    case measure=>have:=V.1;omega
    case rel=>exact⟨(D),(wrap64 (a+1)),rs_,H',⟨by have:=V.1;omega⟩,⟨sp_ K.1⟩,⟨hs_ j.1⟩⟩
   have X:decide (a<(l0.length:Int))=false:=decide_eq_false W
   clear W
   replace H:=bi_ H;obtain⟨Q,ma,H⟩:=H
   obtain rfl:=Option.some.inj H
   obtain⟨ba,ca,da⟩:=Kd.S_slice d.1
   subst da
   go_wp2_with (first|((with_reducible refine gate_callee (f:=89) rfl ?_);refine gl_ (some 20) Tryz.func89 #[.slice ba i.length ca] ?_;(with_reducible refine(spec_l8Sort.calls k1 _ _ i Q _ ?_ ?_ ma.1).mono ?_);exact cp_ ((Kd.S_reads' d.1).2.2);exact(Kd.S_reads' d.1).2.1;rintro e ya ⟨na,rfl,t,hb⟩;refine⟨_,rfl,?_⟩;obtain⟨ea,x⟩:=Kd.S_name t;replace d:=su_ x (sp_ d.1) hb;have L:=sg_ x t j;replace j:=st_ j hb;(try clear hb t)))
   go_ret
   exact⟨_,rr_,Kd.S_mono (sp_ L.1) (fun _ hk=>trivial),hs_ j.1⟩
def spec_l7Labels.j0:Nat→List S29→Bool→List Int→Int→Int→Option ((List S99)×Int×Int)
 | 0,_,_,_,_,_=>none
 | k+1,h,i,c,d,e=>if i=true then ((some (([]:List S99):List S99)).bind fun g=>((spec_l1Below.f c d e (h.length:Int)).bind fun a=>(if 0≤a.1 then (if a.1<(h.length:Int) then (if g.length+((rd_T29 h a.1).f0).length<4398046511104 then (some ((g++((rd_T29 h a.1).f0)),a.2.1,a.2.2)) else (none)) else (none)) else (none)))) else ((spec_l2Draw.f k c d e).bind fun b=>(some (b.1,b.2.1,b.2.2)))
def spec_l7Labels.f (k:Nat) (b:List Int) (c:Int) (d:Int) (e:List S29):Option ((List S99)×Int×Int):=if (e.length:Int)>0 then ((spec_l1Once.f b c d 3).bind fun a=>(spec_l7Labels.j0 k e (!a.1) b a.2.1 a.2.2)) else (spec_l7Labels.j0 k e false b c d)
theorem spec_l7Labels.calls (k:Nat) (g:Nat) (l:List Int) (z:Int) (A:Int) (A1:Option Addr) (c1:Nat) (q:List S29) (r1:List S99) (r2:Int) (r3:Int) (D w:World) (hI:IsS102 D w g l z A) (hB:Below D.heap.size D w) (ha:∀W_,KeepBut w W_ g none→Kd.C k29 W_ A1 q.length q) (ia:q.length≤c1) (h:spec_l7Labels.f k l z A q=some (r1,r2,r3)) :
  Calls Tryz.prog 53 #[.pointer (some ⟨g,0,none⟩),.slice A1 q.length c1] w fun e w'=>∃v0_:Value,e=.returned (v0_)∧Kd.R k99 99 w' w.heap.size (fun _=>True) v0_ r1∧IsS102 D w' g l r2 r3∧Below D.heap.size D w'∧KeepBut w w' g none:=by
 have pa:=M_ ha
 have Aa:=M_ ia
 clear ha ia
 have d:=M_ hI
 have HK:=M_ (KeepBut.refl w g none)
 have HL:=M_ hB.size
 clear hI
 have Ba:=M_ hB.size
 have s:=M_ hB
 clear hB
 unfold spec_l7Labels.f at h
 have H:=h;clear h
 have Q:=M_ H
 clear H
 go_enter Tryz.func53,Tryz.ntmps53
 go_upto_region 1 with(fail)
 go_cut [12] (fun qa wc=>∃(kq:Nat) (v:Bool) (a:Int) (c:Int),qa=.bool v∧Aside0 (spec_l7Labels.j0 kq q v l a c=some (r1,r2,r3))∧Aside0 (kq≤k)∧Aside0 (IsS102 D wc g l a c)∧Aside0 (KeepBut w wc g none)∧Aside0 (Below D.heap.size D wc))
 case first=>
  have H:=Q.1
  clear Q
  replace H:=ie_ H;rcases H with⟨c4,H⟩|⟨c4,H⟩
  ·
   have t:decide (0<(q.length:Int))=true:=decide_eq_true c4
   have ka:decide (0<q.length)=true:=decide_eq_true (by omega)
   clear c4
   (first|rw[t]|(simp only[i64_w,i32_w];rw[t])|skip)
   replace H:=bi_ H;obtain⟨⟨E,F,G⟩,A5,H⟩:=H;(try dsimp only at H)
   have H':=M_ H
   clear H
   go_wp2_with (first|(go_at_call 70;(with_reducible refine(spec_l1Once.calls g l z A 3 E F G D _ ?_ ?_ A5.1).mono ?_);exact IsS102.pk_ d.1;exact hs_ s.1;rintro e w6 ⟨rfl,hi,hb,hk⟩;replace HK:=kh_ HK hk;replace s:=M_ (hb);replace d:=M_ (hi);(try clear hb hk hi)))
   go_meet
   case rel=>exact⟨_,(!E),(F),(G),rs_,H',⟨by first|omega|exact Nat.le_refl _⟩,⟨IsS102.pk_ d.1⟩,⟨ku_ HK.1⟩,⟨hs_ s.1⟩⟩
  have t:decide (0<(q.length:Int))=false:=decide_eq_false c4
  have ka:decide (0<q.length)=false:=decide_eq_false (by omega)
  clear c4
  (first|rw[t]|(simp only[i64_w,i32_w];rw[t])|skip)
  have H':=M_ H
  clear H
  go_wp2
  go_meet
  case rel=>exact⟨_,(false),(z),(A),rs_,H',⟨by first|omega|exact Nat.le_refl _⟩,⟨IsS102.pk_ d.1⟩,⟨ku_ HK.1⟩,⟨hs_ s.1⟩⟩
 case rest=>
  clear Q
  obtain⟨kq,v,a,c,rfl,HA,HJ2,d,HK,s⟩:=hcut
  cases kq with
  | zero=>exact absurd HA.1 (by simp[spec_l7Labels.j0])
  | succ sa=>
   have H:=HA.1
   clear HA
   simp only[spec_l7Labels.j0] at H
   replace H:=ib_ H;rcases H with⟨rfl,H⟩|⟨rfl,H⟩
   ·
    obtain⟨r,hy_⟩:∃y_:List S99,y_=(([]:List S99)):=⟨_,rfl⟩
    replace H:((spec_l1Below.f l a c (q.length:Int)).bind fun i=>(if 0≤i.1 then (if i.1<(q.length:Int) then (if r.length+((rd_T29 q i.1).f0).length<4398046511104 then (some ((r++((rd_T29 q i.1).f0)),i.2.1,i.2.2)) else (none)) else (none)) else (none)))=some (r1,r2,r3):=hm_
    have B:=M_ hy_;clear hy_
    replace H:=bi_ H;obtain⟨⟨m,I,J⟩,A8,H⟩:=H;(try dsimp only at H)
    replace H:=i2_ H;obtain⟨za,ta,H⟩:=H
    replace H:=im_ H;obtain⟨S,H⟩:=H
    obtain⟨T,hy_⟩:∃y_:List S99,y_=(r++((rd_T29 q m).f0)):=⟨_,rfl⟩
    replace H:(some (T,I,J))=some (r1,r2,r3):=hm_
    have M:=M_ hy_;clear hy_
    simp only[Option.some.injEq,Prod.mk.injEq] at H
    obtain⟨rfl,rfl,rfl⟩:=H
    go_wp2_with (first|((with_reducible refine gd_ 13 rfl ?_);refine Kd.R_lit k99 _ 99 ?hg (N:=13) ?hd (xs:=([]:List S99)) (inner:=[]) (ok:=fun _=>True) (okp:=fun _=>True) ?hr ?hp (fun _ hk=>hk) trivial (Below.refl _ _) (Nat.le_refl _) (by simp) ?_;(case hd=>rfl);(case hg=>rfl);(case hr=>first|(go_simp;done)|(go_simp;rfl));(case hp=>exact(Reps.none _ _));intro U Ea u hb hg_ hnew_;clear hg_ hnew_;(first|rw[←B.1] at u|(simp only[Int.reduceToNat] at u;rw[←B.1] at u));have j:=rl_ u HK;have K:=IsS102.bk_ d hb;have n2_:=kt_ HK hb;have L:=st_ s hb;clear d HK s;have d:=K;have HK:=n2_;have s:=L;clear K n2_ L;clear hb u)|((with_reducible refine gate_callee (f:=69) rfl ?_);refine gl_ (some 18) Tryz.func69 #[.pointer (some ⟨g,0,none⟩),.int .i64 (q.length:Int)] ?_;(with_reducible refine(spec_l1Below.calls g l a c (q.length:Int) m I J D _ ?_ ?_ A8.1).mono ?_);exact IsS102.pk_ d.1;exact hs_ s.1;rintro e Fa ⟨rfl,hi,hb,hk⟩;refine⟨_,rfl,?_⟩;replace j:=IsS102.rk_ d j hk;replace HK:=kh_ HK hk;replace s:=M_ (hb);replace d:=M_ (hi);(try clear hb hk hi);have x:0≤(m:Int):=of_decide_eq_true (by with_reducible assumption);have y:m<(q.length:Int):=of_decide_eq_true (by with_reducible assumption);obtain⟨oa,la,ma,V,Z,aa,ba,ca,n,o⟩:=at_T29 (Kd.C_foot_now pa.1 HK.1) m x y;cases V;have p:=M_ o;have da:=M_ n;clear o n;replace x:=eq_true x;replace y:=eq_true y)|((with_reducible refine gate_builtin (b:=.append) (xs:=#[.tmp 13,.tmp 21]) rfl ?_);at_builtin;refine Kd.R_append_rows k99 w.heap.size rfl (.tmp 13) (.tmp 21) 27 99 (.agg #[(.string ⟨#[]⟩),(.string ⟨#[]⟩)]) 32 rfl Tryz.underlying27 info99 rfl (by decide) (by omega) U r ((rd_T29 q m).f0) _ _ _ (fun _=>True) (fun _=>False) rfl rfl ?aO ?aR (fun _ _ h=>h) (fun _ h=>h.elim) ?aF (Below.refl _ _) ?aS ?aL ?_;(case aR=>repeat (first|exact(by repeat (first|(with_reducible exact p.1)|(with_reducible first|refine ca_ ?_ _|refine cn_ ?_ _|refine cd_ ?_)|exact p.1))|(with_reducible first|refine ca_ ?_ _|refine cn_ ?_ _|refine cd_ ?_)));(case aF=>exact(fun _ _=>trivial));(case aO=>exact(rp_ j.1));(case aS=>exact(ks_ HK));(case aL=>have:=S.1;omega);intro ua Ga ho hb hg hat;rw[←M.1] at ho;replace d:=M_ (IsS102.grown (IsS102.pk_ d.1) hg (IsS102.own_ne d.1 j.1 (by decide)));replace s:=M_ (below_weaken (hs_ s.1) HL.out hb);replace HK:=M_ (KeepBut.trans (ku_ HK.1) (KeepBut.of_grown hg g) (Kd.R_base2 j.1));have O:=M_ (ho);clear j;clear ho hb hg hat))
    go_ret
    exact⟨_,rr_,rp_ O.1,IsS102.pk_ d.1,hs_ s.1,ku_ HK.1⟩
   replace H:=bi_ H;obtain⟨⟨W,X,Y⟩,va,H⟩:=H;(try dsimp only at H)
   simp only[Option.some.injEq,Prod.mk.injEq] at H
   obtain⟨rfl,rfl,rfl⟩:=H
   go_wp2_with (first|((with_reducible refine gate_callee (f:=88) rfl ?_);refine gl_ (some 24) Tryz.func88 #[.pointer (some ⟨g,0,none⟩)] ?_;(with_reducible refine(spec_l2Draw.calls sa g l a c W X Y D _ ?_ ?_ va.1).mono ?_);exact IsS102.pk_ d.1;exact hs_ s.1;rintro e Ha ⟨wa,rfl,na,hi,hb,hk⟩;refine⟨_,rfl,?_⟩;have P:=rl_ na HK;have K:=kh_ HK hk;have n2_:=M_ (hb);have L:=M_ (hi);clear HK s d;have HK:=K;have s:=n2_;have d:=L;clear K n2_ L;(try clear hb hk hi na)))
   go_ret
   exact⟨_,rr_,rp_ P.1,IsS102.pk_ d.1,hs_ s.1,ku_ HK.1⟩
def spec_DrawPutAlarm.f (k:Nat) (g:List Int):Option ((List S26)×(List S99)×Int×Int×ByteArray):=(spec_l1New.f k g).bind fun a=>((spec_l8Any.f k a.1 a.2.1 a.2.2).bind fun c=>((spec_l4Draw.f k a.1 c.2.1 c.2.2).bind fun b=>((spec_AllAlarms.f k c.1).bind fun e=>((spec_l7Labels.f k a.1 b.2.2.2.2.1 b.2.2.2.2.2 e).bind fun d=>(some (c.1,d.1,b.2.1,b.2.2.1,b.2.2.2.1))))))
theorem spec_DrawPutAlarm.calls (k:Nat) (A0:Option Addr) (c0:Nat) (l0:List Int) (r1:List S26) (r2:List S99) (r3:Int) (r4:Int) (r5:ByteArray) (w:World) (ga:Kd.C (Kd.int .u8) w A0 l0.length l0) (ha:l0.length≤c0) (h:spec_DrawPutAlarm.f k l0=some (r1,r2,r3,r4,r5)) :
  Calls Tryz.prog 36 #[.slice A0 l0.length c0] w fun e w'=>∃v0_ v1_:Value,e=.returned (.tuple #[v0_,.agg #[v1_,.int .i64 r3,.int .i64 r4,.string r5]])∧Kd.R k26 26 w' w.heap.size (fun k_=>some k_≠(v1_:Value).ownBlock) v0_ r1∧Kd.R k99 99 w' w.heap.size (fun _=>True) v1_ r2∧Below w.heap.size w w':=by
 have hu29:=Tryz.underlying29
 have Ga:=M_ ga
 have Ha:=M_ ha
 clear ga ha
 have F:=M_ (Below.refl w.heap.size w)
 unfold spec_DrawPutAlarm.f at h
 have H:=h;clear h
 replace H:=bi_ H;obtain⟨⟨p,X,Y⟩,A2,H⟩:=H;(try dsimp only at H)
 replace H:=bi_ H;obtain⟨⟨L,U,V⟩,A3,H⟩:=H;(try dsimp only at H)
 replace H:=bi_ H;obtain⟨⟨A,B,D,E,t,u⟩,A4,H⟩:=H;(try dsimp only at H)
 replace H:=bi_ H;obtain⟨W,A5,H⟩:=H
 replace H:=bi_ H;obtain⟨⟨x,Z,aa⟩,A6,H⟩:=H;(try dsimp only at H)
 simp only[Option.some.injEq,Prod.mk.injEq] at H
 obtain⟨rfl,rfl,rfl,rfl,rfl⟩:=H
 go_enter Tryz.func36,Tryz.ntmps36
 try go_wp2_with (first|((with_reducible refine gd_ 3 rfl ?_);refine bV_ 3 #[.slice none 0 0,.int .i64 0,.int .i64 0,.string (⟨#[]⟩:ByteArray)] 29 ?_;intro q hg w7 a hb;have Ca:=gq_ hg F;replace F:=st_ F hb;clear hb hg)|((with_reducible refine gate_callee (f:=50) rfl ?_);refine gl_ (some 8) Tryz.func50 #[.slice A0 l0.length c0] ?_;(with_reducible refine(spec_l1New.calls k _ _ l0 p X Y w _ ?_ ?_ ?_ A2.1).mono ?_);exact hs_ F.1;exact Ga.1;exact Ha.1;rintro e w8 ⟨g1034,rfl,hi,hb,hb2⟩;refine⟨_,rfl,?_⟩;replace F:=M_ (hb);have b:=M_ (hi);have ba:=Ne_.mk (IsS102.ne_blk hi (bb_ a.1 hb2) (by decide));have ca:=Ne_.mk (Ne.symm (IsS102.ne_blk hi (bb_ a.1 hb2) (by decide)));replace a:=M_ (bb_ a.1 hb2);(try clear hb);(try clear hb2);(try clear hi))|((with_reducible refine gate_callee (f:=86) rfl ?_);refine gl_ (some 10) Tryz.func86 #[.pointer (some ⟨g1034,0,none⟩)] ?_;(with_reducible refine(spec_l8Any.calls k g1034 p X Y L U V w _ ?_ ?_ A3.1).mono ?_);exact IsS102.pk_ b.1;exact hs_ F.1;rintro e w9 ⟨Ia,rfl,y,hi,hb,hk⟩;refine⟨_,rfl,?_⟩;have d:=M_ (Kd.R_lower (Kd.R_newB y (pb_ a.1)) (below_size (hs_ F.1)));replace a:=kb_ hk a;replace F:=M_ (hb);replace b:=M_ (hi);(try clear hb);(try clear hb2);(try clear hk hi y))|((with_reducible refine gate_callee (f:=52) rfl ?_);refine gl_ (some 12) Tryz.func52 #[.pointer (some ⟨g1034,0,none⟩)] ?_;(with_reducible refine(spec_l4Draw.calls k g1034 p U V A B D E t u w _ ?_ ?_ A4.1).mono ?_);exact IsS102.pk_ b.1;exact hs_ F.1;rintro e Ab ⟨Ja,rfl,y,hi,hb,hk⟩;refine⟨_,rfl,?_⟩;replace a:=kb_ hk a;replace d:=M_ (Kd.R_mono (Kd.R_told (Kd.R_oldK (IsS102.apart (show IsS102 w _ g1034 p U V from IsS102.pk_ b.1) (rp_ d.1) (by decide)) hk) (Kd.R_base y)) (fun _ h_=>h_.1));have l:=rw_ y F;replace F:=M_ (hb);replace b:=M_ (hi);(try clear hb);(try clear hb2);(try clear hk hi y))|((with_reducible refine gd_ 6 rfl ?_);refine bV_ 6 #[.slice none 0 0,.int .i64 0,.int .i64 0,.string (⟨#[]⟩:ByteArray)] 29 ?_;intro g hg Ka j hb;replace d:=M_ (Kd.R_below (Kd.R_elderB (rp_ d.1) g (Nat.le_of_eq hg.symm)) hb);replace l:=rb_ l hb;have Da:=gq_ hg F;replace F:=st_ F hb;obtain⟨r,m,a⟩:=nb_ a hg hb;have M:=Ne_.mk ((by rw[hg];exact Nat.ne_of_lt (IsS102.lt (show IsS102 w _ g1034 p t u from IsS102.pk_ b.1)):g1034≠g));replace b:=IsS102.bk_ b hb;have O:=ns_ M;clear hb hg;obtain⟨Q,T,ia⟩:=Kd.R_slice l.1;subst ia;have La:=n2_ m;have Ma:=n2_ O;obtain⟨Na,Oa,Pa,Qa,Ra,Sa,Ta,Ua⟩:=bc4_ j.1;obtain⟨ja,ea,ka⟩:=Kd.R_slice d.1;subst ka)|((with_reducible refine gate_callee (f:=46) rfl ?_);refine gl_ (some 15) Tryz.func46 #[.slice ja L.length ea] ?_;(with_reducible refine(spec_AllAlarms.calls k _ _ L W _ ?side1 ?side2 A5.1).mono ?_);(case side1=>refine(Kd.R_reads' (e:=26) (base:=w.heap.size) (ok:=fun k_=>(((True∧k_≠q)∧some k_≠(.slice Q A.length T:Value).ownBlock)∧k_≠g)) (n:=L.length) (c:=ea) ?_).2.2;exact(rf_ g d.1 (fun _ hk=>hk.2)));(case side2=>exact(Kd.R_reads' d.1).2.1);rintro e Bb ⟨Va,rfl,y,hb⟩;refine⟨_,rfl,?_⟩;obtain⟨G,P⟩:=Kd.S_name y;replace d:=ru_ P (rf_ g d.1 (fun _ hk=>hk.2)) hb;replace l:=ru_ P (ry_ l.1 j.1) hb;have o:=M_ (Kd.S_lower (Kd.S_newB (Kd.S_newB (Kd.S_gez P y) (bq_ a.1)) (bp_ j.1)) (below_size (hs_ F.1)));replace a:=bk2_ a hb;replace b:=M_ (IsS102.below (show IsS102 w ((((Ka.setCell ⟨g,0,none⟩ (.slice Q A.length T)).setCell ⟨g,1,none⟩ (.int .i64 B)).setCell ⟨g,2,none⟩ (.int .i64 D)).setCell ⟨g,3,none⟩ (.string E)) g1034 p t u from IsS102.pk_ b.1) hb);replace j:=by_ j #[.slice Q A.length T,.int .i64 B,.int .i64 D,.string E] hb;replace F:=st_ F hb;(try clear hb);(try clear hb2);(try clear y);obtain⟨la,ma,na⟩:=Kd.S_slice o.1;subst na)|((with_reducible refine gate_callee (f:=53) rfl ?_);refine gl_ (some 16) Tryz.func53 #[.pointer (some ⟨g1034,0,none⟩),.slice la W.length ma] ?_;(with_reducible refine(spec_l7Labels.calls k g1034 p t u _ _ W x Z aa w _ ?_ ?_ ?_ ?_ A6.1).mono ?_);exact IsS102.pk_ b.1;exact hs_ F.1;exact Kd.C_foot_own ((Kd.S_R (IsS102.apartS (show IsS102 w _ g1034 p t u from IsS102.pk_ b.1) (sp_ o.1) (by decide)))) (fun _ h_=>h_.2);exact(Kd.S_reads' o.1).2.1;rintro e Wa ⟨Xa,rfl,y,hi,hb,hk⟩;refine⟨_,rfl,?_⟩;replace a:=kb_ hk a;replace d:=M_ (Kd.R_mono (Kd.R_told (Kd.R_oldK (IsS102.apart (show IsS102 w _ g1034 p t u from IsS102.pk_ b.1) (rp_ d.1) (by decide)) hk) (Kd.R_base y)) (fun _ h_=>h_.1));replace j:=kb_ hk j;replace o:=M_ (Kd.S_mono (Kd.S_told (Kd.S_oldK (IsS102.apartS (show IsS102 w _ g1034 p t u from IsS102.pk_ b.1) (sp_ o.1) (by decide)) hk) (Kd.R_base y)) (fun _ h_=>h_.1));have s:=M_ (Kd.R_lower (Kd.R_new' y (Kd.R_lt (rp_ l.1))) (below_size (hs_ F.1)));replace l:=M_ (Kd.R_mono (Kd.R_told (Kd.R_oldK (IsS102.apart (show IsS102 w _ g1034 p t u from IsS102.pk_ b.1) (rp_ l.1) (by decide)) hk) (Kd.R_base y)) (fun _ h_=>h_.1));replace F:=M_ (hb);replace b:=M_ (hi);(try clear hb);(try clear hb2);(try clear hk hi y);obtain⟨I,J,oa⟩:=Kd.R_slice s.1;subst oa;obtain⟨Ya,Za,ab,bb,cb,db,eb,fb⟩:=bc4_ j.1))
 generalize hw_:(Wa.setCell ⟨g,0,none⟩ (.slice I x.length J))=pa
 have qa:=wr_ hw_ (Kd.R_mono (ok':=(fun k_=>some k_≠(.slice Q A.length T:Value).ownBlock∧some k_≠(.slice I x.length J:Value).ownBlock∧k_≠q∧k_≠g∧k_<G)) (rf_ g d.1 (fun _ hk=>hk.1.1.2)) (fun _ hk=>⟨hk.1.1.1.2,⟨hk.2,⟨hk.1.1.1.1.2,⟨hk.1.1.2,hk.1.2⟩⟩⟩⟩))
 have ra:=wr_ hw_ (Kd.R_mono (ok':=(fun k_=>some k_≠(.slice I x.length J:Value).ownBlock∧k_<G)) (ry_ l.1 j.1) (fun _ hk=>⟨hk.2,hk.1.2⟩))
 have n2_:=ws_ hw_ (Kd.S_mono (ok':=(fun k_=>some k_≠(.slice I x.length J:Value).ownBlock∧k_≠q∧k_≠g∧G≤k_)) (sf_ g o.1 (fun _ hk=>hk.1.2)) (fun _ hk=>⟨hk.2,⟨hk.1.1.2,⟨hk.1.2,hk.1.1.1.2⟩⟩⟩))
 have sa:=wr_ hw_ (Kd.R_mono (ok':=(fun k_=>some k_≠(.slice Q A.length T:Value).ownBlock)) (ry_ s.1 j.1) (fun _ hk=>hk.2))
 have ta:Aside0 (IsS102 w pa g1034 p Z aa):=⟨by rw[←hw_];exact(IsS102.pk_ b.1)⟩
 replace a:=wq_ hw_ a
 replace j:=wp_ hw_ #[.slice I x.length J,.int .i64 B,.int .i64 D,.string E] j
 replace F:=wb_ hw_ F
 clear hw_
 (try clear d l o s b)
 have d:=qa
 have l:=ra
 have o:=n2_
 have s:=sa
 have b:=ta
 clear qa ra n2_ sa ta
 obtain⟨d,l,o,s,a,j⟩:=y6_ d l o s a j
 replace b:=M_ (IsS102.drew b.1)
 replace F:=db_ F
 refine start_ (n:=4) (S:=fun w'=>c_ w' g 0 (.slice I x.length J)∧c_ w' g 1 (.int .i64 B)∧c_ w' g 2 (.int .i64 D)∧c_ w' g 3 (.string E)) (ds:=[]) (b_ 0 4) (by kernel_rfl) rfl rfl (e4_ j.1) (fun z=>?_)
 generalize pa.drew=da at d l o s a j b F z ⊢
 refine pure_ (i:=0) (N:=some 18) (v:=?_) (a':=?_) #[true,false,false,false] rfl rfl (by kernel_rfl) (fun _ _ _ h=>h) (Or.inl ⟨by rfl,?_⟩) ?_ ?_
 rotate_left
 ·
  intro w'
  go_simp
  with_reducible rfl
 rotate_left
 ·
  simp only[fr_]
  rfl
 refine pure_ (i:=2) (N:=some 2) (v:=?_) (a':=?_) #[true,false,true,false] rfl rfl (by kernel_rfl) (fun _ _ _ h=>h) (Or.inl ⟨by rfl,?_⟩) ?_ ?_
 rotate_left
 ·
  intro w'
  go_simp
  with_reducible rfl
 rotate_left
 ·
  simp only[fr_]
  rfl
 refine take_ (i:=1) (N:=some 19) (v:=?_) (a':=?_) (b_ 3 1) rfl rfl (by kernel_rfl) (fun _ _ _ h=>h) (Or.inl ⟨by rfl,?_⟩) z ?_ ?_
 rotate_left
 ·
  rintro w' ⟨s0,s1,s2,s3⟩
  go_simp
  with_reducible rfl
 rotate_left
 ·
  simp only[fr_]
  rfl
 refine one_ (i:=3) (N:=none) (b_ 4 0) rfl rfl (by kernel_rfl) (by decide) (fun K hK=>?_)
 have rb:da.cell? ⟨q,0,none⟩=some (.slice none 0 0):=bx_ a.1 0
 have gb:=blk_frozen a.1 0
 have ua:=m.1
 have va:=r.1
 have sb:da.cell? ⟨q,1,none⟩=some (.int .i64 0):=bx_ a.1 1
 have ib:=blk_frozen a.1 1
 have wa:=m.1
 have xa:=r.1
 have tb:da.cell? ⟨q,2,none⟩=some (.int .i64 0):=bx_ a.1 2
 have jb:=blk_frozen a.1 2
 have ya:=m.1
 have za:=r.1
 have ub:da.cell? ⟨q,3,none⟩=some (.string (⟨#[]⟩:ByteArray)):=bx_ a.1 3
 have kb:=blk_frozen a.1 3
 have Aa:=m.1
 have Ba:=r.1
 refine skip_ (w1:=?_) (by rfl) rfl ?_ ?_
 rotate_left
 ·
  go_simp
  rfl
 refine hK.out _ _ ⟨(cg_ (z.1)),(cg_ (z.2.1)),(cg_ (z.2.2.1)),(cg_ (z.2.2.2))⟩ (fun z=>?_)
 clear hK K
 refine done_ (by kernel_rfl) ?_
 try go_wp2
 refine bodyPost_ret (results_tc rfl _ _ q 29 #[.slice I x.length J,.int .i64 B,.int .i64 D,.string E] (0,0) _ rfl (bp_ a.1) Tryz.underlying29 rfl (by kernel_rfl)) rfl ?_
 exact⟨_,_,rr_,Kd.R_mono (rf_ q d.1 (fun _ hk=>hk.2.2.1)) (fun _ hk=>hk.2.1),Kd.R_mono (ry_ s.1 a.1) (fun _ hk=>trivial),hs_ F.1⟩
def spec_DrawFindAlarm.f (k:Nat) (e:List Int):Option ((List S26)×(List S99)):=(spec_l1New.f k e).bind fun a=>((spec_l8Any.f k a.1 a.2.1 a.2.2).bind fun b=>((spec_AllAlarms.f k b.1).bind fun d=>((spec_l7Labels.f k a.1 b.2.1 b.2.2 d).bind fun c=>(some (b.1,c.1)))))
theorem spec_DrawFindAlarm.calls (k:Nat) (F:Option Addr) (G:Nat) (s:List Int) (Q:List S26) (S:List S99) (w:World) (x:Kd.C (Kd.int .u8) w F s.length s) (y:s.length≤G) (h:spec_DrawFindAlarm.f k s=some (Q,S)) :
  Calls Tryz.prog 38 #[.slice F s.length G] w fun e w'=>∃v0_ v1_:Value,e=.returned (.tuple #[v0_,v1_])∧Kd.R k26 26 w' w.heap.size (fun k_=>some k_≠(v1_:Value).ownBlock) v0_ Q∧Kd.R k99 99 w' w.heap.size (fun _=>True) v1_ S∧Below w.heap.size w w':=by
 have I:=M_ x
 have J:=M_ y
 clear x y
 have o:=M_ (Below.refl w.heap.size w)
 unfold spec_DrawFindAlarm.f at h
 have H:=h;clear h
 replace H:=bi_ H;obtain⟨⟨d,p,q⟩,T,H⟩:=H;(try dsimp only at H)
 replace H:=bi_ H;obtain⟨⟨l,g,i⟩,U,H⟩:=H;(try dsimp only at H)
 replace H:=bi_ H;obtain⟨m,V,H⟩:=H
 replace H:=bi_ H;obtain⟨⟨t,u,v⟩,W,H⟩:=H;(try dsimp only at H)
 simp only[Option.some.injEq,Prod.mk.injEq] at H
 obtain⟨rfl,rfl⟩:=H
 go_enter Tryz.func38,Tryz.ntmps38
 go_wp2_with (first|((with_reducible refine gate_callee (f:=50) rfl ?_);refine gl_ (some 7) Tryz.func50 #[.slice F s.length G] ?_;(with_reducible refine(spec_l1New.calls k _ _ s d p q w _ ?_ ?_ ?_ T.1).mono ?_);exact hs_ o.1;exact I.1;exact J.1;rintro e Y ⟨g1060,rfl,hi,hb,hb2⟩;refine⟨_,rfl,?_⟩;replace o:=M_ (hb);have a:=M_ (hi);(try clear hb);(try clear hb2);(try clear hi))|((with_reducible refine gate_callee (f:=86) rfl ?_);refine gl_ (some 9) Tryz.func86 #[.pointer (some ⟨g1060,0,none⟩)] ?_;(with_reducible refine(spec_l8Any.calls k g1060 d p q l g i w _ ?_ ?_ U.1).mono ?_);exact IsS102.pk_ a.1;exact hs_ o.1;rintro e Z ⟨K,rfl,j,hi,hb,hk⟩;refine⟨_,rfl,?_⟩;have b:=rw_ j o;have z:=M_ (hb);have n2_:=M_ (hi);clear o a;have o:=z;have a:=n2_;clear z n2_;(try clear hb);(try clear hb2);(try clear hk hi j);obtain⟨L,M,N⟩:=Kd.R_slice b.1;subst N)|((with_reducible refine gate_callee (f:=46) rfl ?_);refine gl_ (some 13) Tryz.func46 #[.slice L l.length M] ?_;(with_reducible refine(spec_AllAlarms.calls k _ _ l m _ ?_ ?_ V.1).mono ?_);exact cp_ ((Kd.R_reads' b.1).2.2);exact(Kd.R_reads' b.1).2.1;rintro e w9 ⟨O,rfl,j,hb⟩;refine⟨_,rfl,?_⟩;obtain⟨A,n⟩:=Kd.S_name j;replace b:=ru_ n (rp_ b.1) hb;have c:=sg_ n j o;replace a:=IsS102.bk_ a hb;replace o:=st_ o hb;(try clear hb);(try clear hb2);(try clear j);obtain⟨B,D,E⟩:=Kd.S_slice c.1;subst E)|((with_reducible refine gate_callee (f:=53) rfl ?_);refine gl_ (some 14) Tryz.func53 #[.pointer (some ⟨g1060,0,none⟩),.slice B m.length D] ?_;(with_reducible refine(spec_l7Labels.calls k g1060 d g i _ _ m t u v w _ ?_ ?_ ?_ ?_ W.1).mono ?_);exact IsS102.pk_ a.1;exact hs_ o.1;exact Kd.C_foot_own ((Kd.S_R (IsS102.apartS (show IsS102 w _ g1060 d g i from IsS102.pk_ a.1) (sp_ c.1) (by decide)))) (fun _ h_=>h_.2);exact(Kd.S_reads' c.1).2.1;rintro e X ⟨P,rfl,j,hi,hb,hk⟩;refine⟨_,rfl,?_⟩;replace b:=M_ (Kd.R_mono (Kd.R_told (Kd.R_oldK (IsS102.apart (show IsS102 w _ g1060 d g i from IsS102.pk_ a.1) (rp_ b.1) (by decide)) hk) (Kd.R_base j)) (fun _ h_=>h_.1));replace c:=M_ (Kd.S_mono (Kd.S_told (Kd.S_oldK (IsS102.apartS (show IsS102 w _ g1060 d g i from IsS102.pk_ a.1) (sp_ c.1) (by decide)) hk) (Kd.R_base j)) (fun _ h_=>h_.1));have r:=rw_ j o;replace o:=M_ (hb);replace a:=M_ (hi);(try clear hb);(try clear hb2);(try clear hk hi j)))
 go_ret2
 exact⟨_,_,rr_,Kd.R_mono (rp_ b.1) (fun _ hk=>hk.2),rp_ r.1,hs_ o.1⟩
def spec_FindIn.f (k:Nat) (g:Int) (h:Int) (c:List S80) (i:List S99):Option ((List S99)×Int×Int×ByteArray×Bool):=(spec_Finger.f k i).bind fun e=>((spec_l7At.f k g h c e).bind fun a=>(if a<0 then (some (([]:List S99),0,0,(⟨#[]⟩:ByteArray),false)) else (if 0≤a then (if a<(c.length:Int) then ((spec_InChain.f k ((rd_T80 c a).f0) ((rd_T80 c a).f1) i).bind fun b=>(if b<0 then (some (([]:List S99),0,0,(⟨#[]⟩:ByteArray),false)) else (if 0≤b then (if b<(((rd_T80 c a).f1).length:Int) then ((spec_l4Copy.f ((rd_T29 ((rd_T80 c a).f1) b).f0) ((rd_T29 ((rd_T80 c a).f1) b).f1) ((rd_T29 ((rd_T80 c a).f1) b).f2) ((rd_T29 ((rd_T80 c a).f1) b).f3)).bind fun d=>(some (d.1,d.2.1,d.2.2.1,d.2.2.2,true))) else (none)) else (none)))) else (none)) else (none))))
theorem spec_FindIn.calls (k:Nat) (r:Int) (s:Int) (O:Option Addr) (P:Nat) (d:List S80) (A1:Option Addr) (c1:Nat) (l1:List S99) (r1:List S99) (r2:Int) (r3:Int) (r4:ByteArray) (r5:Bool) (w:World) (ha:Kd.C k80 w O d.length d) (ia:d.length≤P) (Ia:Kd.C k99 w A1 l1.length l1) (Ja:l1.length≤c1) (h:spec_FindIn.f k r s d l1=some (r1,r2,r3,r4,r5)) :
  Calls Tryz.prog 12 #[.agg #[.int .i64 r,.int .i64 s,.slice O d.length P],.slice A1 l1.length c1] w fun e w'=>∃v0_:Value,e=.returned (.tuple #[.agg #[v0_,.int .i64 r2,.int .i64 r3,.string r4],.bool r5])∧Kd.R k99 99 w' w.heap.size (fun _=>True) v0_ r1∧Below w.heap.size w w':=by
 have hu26:=Tryz.underlying26
 have hu29:=Tryz.underlying29
 have hu80:=Tryz.underlying80
 have G:=M_ ha
 have ta:=M_ ia
 clear ha ia
 have ua:=M_ Ia
 have va:=M_ Ja
 clear Ia Ja
 have j:=M_ (Below.refl w.heap.size w)
 unfold spec_FindIn.f at h
 have H:=h;clear h
 replace H:=bi_ H;obtain⟨Q,A3,H⟩:=H
 replace H:=bi_ H;obtain⟨c,A4,H⟩:=H
 have AHz_:=M_ H
 clear H
 go_enter Tryz.func12,Tryz.ntmps12
 try go_wp2_with (first|((with_reducible refine gd_ 2 rfl ?_);refine bV_ 2 #[.int .i64 r,.int .i64 s,.slice O d.length P] 26 ?_;intro I hg w6 a hb;have Sa:=gq_ hg j;replace j:=st_ j hb;clear hb hg)|((with_reducible refine gd_ 4 rfl ?_);refine bV_ 4 #[.slice none 0 0,.int .i64 0,.int .i64 0,.string (⟨#[]⟩:ByteArray)] 29 ?_;intro J hg w7 b hb;have Ta:=gq_ hg j;replace j:=st_ j hb;obtain⟨l,L,a⟩:=nb_ a hg hb;clear hb hg))
 obtain⟨a,b,j⟩:=y3_ a b j
 refine start_ (n:=5) (S:=fun w'=>c_ w' I 0 (.int .i64 r)∧c_ w' I 1 (.int .i64 s)∧c_ w' I 2 (.slice O d.length P)) (ds:=[]) (b_ 0 5) (by kernel_rfl) rfl rfl (e3_ a.1) (fun M=>?_)
 generalize w7.drew=w8 at a b j M ⊢
 refine pure_ (i:=1) (N:=some 9) (v:=?_) (a':=?_) #[f_,t_,f_,f_,f_] rfl rfl (by kernel_rfl) (fun _ _ _ h=>h) (Or.inl ⟨by rfl,?_⟩) ?_ ?_
 rotate_left
 ·
  intro w'
  go_simp
  with_reducible rfl
 rotate_left
 ·
  simp only[fr_]
  rfl
 refine take_ (i:=0) (N:=some 8) (v:=?_) (a':=?_) (b_ 2 3) rfl rfl (by kernel_rfl) (fun _ _ _ h=>h) (Or.inl ⟨by rfl,?_⟩) M ?_ ?_
 rotate_left
 ·
  rintro w' ⟨s0,s1,s2⟩
  go_simp
  with_reducible rfl
 rotate_left
 ·
  simp only[fr_]
  rfl
 refine one_ (i:=2) (N:=some 10) (b_ 3 2) rfl rfl (by kernel_rfl) (by decide) (fun K hK=>?_)
 refine gs_ Tryz.func60 #[.slice A1 l1.length c1] ?_
 with_reducible refine(spec_Finger.calls k _ _ l1 Q _ ?_ ?_ A3.1).mono ?_
 exact cp_ ((Kd.C_below ua.1 j.1))
 exact va.1
 rintro e w9 ⟨rfl,hb⟩
 refine⟨_,rfl,?_⟩
 obtain⟨a,b,j⟩:=u3_ hb a b j
 (try clear hb)
 refine ho_ hK (e3_ a.1) (fun M=>?_)
 refine one_ (i:=3) (N:=some 11) (b_ 4 1) rfl rfl (by kernel_rfl) (by decide) (fun K hK=>?_)
 refine gs_ Tryz.func61 #[.agg #[.int .i64 r,.int .i64 s,.slice O d.length P],.int .i64 Q] ?_
 with_reducible refine(spec_l7At.calls k r s _ _ d Q c _ ?_ ?_ A4.1).mono ?_
 exact cp_ ((Kd.C_below G.1 j.1))
 exact ta.1
 rintro e ac ⟨rfl,hb⟩
 refine⟨_,rfl,?_⟩
 obtain⟨a,b,j⟩:=u3_ hb a b j
 (try clear hb)
 refine ho_ hK (e3_ a.1) (fun M=>?_)
 refine pure_ (i:=4) (N:=some 6) (v:=?_) (a':=?_) #[t_,t_,t_,t_,t_] rfl rfl (by kernel_rfl) (fun _ _ _ h=>h) (Or.inl ⟨by rfl,?_⟩) ?_ ?_
 rotate_left
 ·
  intro w'
  go_simp
  with_reducible rfl
 rotate_left
 ·
  simp only[fr_]
  rfl
 have H:=AHz_.1
 clear AHz_
 replace H:=ie_ H;rcases H with⟨c5,H⟩|⟨c5,H⟩
 ·
  have ja:=decide_eq_true c5
  clear c5
  simp only[Option.some.injEq,Prod.mk.injEq] at H
  obtain⟨rfl,rfl,rfl,rfl,rfl⟩:=H
  (try simp only[ja])
  refine done_ (by kernel_rfl) ?_
  have Wa:=n2_ L
  obtain⟨Xa,Ya,Za,ab,bb,cb,db,eb⟩:=bc4_ b.1
  try go_wp2
  refine bodyPost_ret (results_ct rfl _ _ J 29 #[.slice none 0 0,.int .i64 0,.int .i64 0,.string (⟨#[]⟩:ByteArray)] (0,0) _ rfl (bp_ b.1) Tryz.underlying29 rfl (by kernel_rfl)) rfl ?_
  exact⟨_,rr_,by first|exact Kd.R_nil _ _ _ _ _|exact Kd.N_nil _ _ _ _ _|exact Kd.V_nil _ _ _ _ _|exact Kd.Q_nil _ _ _ _ _|exact Kd.S_nil _ _ _ _ _,hs_ j.1⟩
 have ja:decide (c<0)=false:=decide_eq_false c5
 clear c5
 (try simp only[ja])
 replace H:=id_ H;obtain⟨wa,H⟩:=H
 (try simp only[wa])
 replace H:=id_ H;obtain⟨xa,H⟩:=H
 replace H:=bi_ H;obtain⟨g,La,H⟩:=H
 (try simp only[xa])
 replace H:=ie_ H;rcases H with⟨ka,H⟩|⟨ka,H⟩
 ·
  have T:=decide_eq_true ka
  clear ka
  simp only[Option.some.injEq,Prod.mk.injEq] at H
  obtain⟨rfl,rfl,rfl,rfl,rfl⟩:=H
  (try simp only[T])
  refine done_ (by kernel_rfl) ?_
  have fb:=n2_ l
  obtain⟨gb,ib,jb,kb,lb,mb⟩:=bc3_ a.1
  obtain⟨Z,p,q,U,ba,ca,m,o,ya,za⟩:=au_T80 G.1 j c
  cases U
  try go_wp2_with (first|((with_reducible refine gate_callee (f:=65) rfl ?_);refine gl_ (some 21) Tryz.func65 #[.agg #[.int .i64 ((rd_T80 d c).f0),.slice p ((rd_T80 d c).f1).length q],.slice A1 l1.length c1] ?_;(with_reducible refine(spec_InChain.calls k ((rd_T80 d c).f0) _ _ ((rd_T80 d c).f1) _ _ l1 g _ ?_ ?_ ?_ ?_ La.1).mono ?_);exact cp_ ((Kd.C_below o.1 j.1));exact m.1;exact cp_ ((Kd.C_below ua.1 j.1));exact va.1;rintro e bc ⟨rfl,hb⟩;refine⟨_,rfl,?_⟩;obtain⟨a,b,j⟩:=u3_ hb a b j;(try clear hb);obtain⟨nb,ob,pb,qb,rb,sb,tb,ub⟩:=bc4_ b.1))
  refine bodyPost_ret (results_ct rfl _ _ J 29 #[.slice none 0 0,.int .i64 0,.int .i64 0,.string (⟨#[]⟩:ByteArray)] (0,0) _ rfl (bp_ b.1) Tryz.underlying29 rfl (by kernel_rfl)) rfl ?_
  exact⟨_,rr_,by first|exact Kd.R_nil _ _ _ _ _|exact Kd.N_nil _ _ _ _ _|exact Kd.V_nil _ _ _ _ _|exact Kd.Q_nil _ _ _ _ _|exact Kd.S_nil _ _ _ _ _,hs_ j.1⟩
 have T:decide (g<0)=false:=decide_eq_false ka
 clear ka
 (try simp only[T])
 replace H:=id_ H;obtain⟨Aa,H⟩:=H
 (try simp only[Aa])
 replace H:=id_ H;obtain⟨Ba,H⟩:=H
 replace H:=bi_ H;obtain⟨⟨la,ma,na,oa⟩,vb,H⟩:=H;(try dsimp only at H)
 simp only[Option.some.injEq,Prod.mk.injEq] at H
 obtain⟨rfl,rfl,rfl,rfl,rfl⟩:=H
 (try simp only[Ba])
 refine done_ (by kernel_rfl) ?_
 have wb:=n2_ l
 obtain⟨xb,yb,zb,Ab,Bb,Cb⟩:=bc3_ a.1
 obtain⟨Z,p,q,U,ba,ca,m,o,ya,za⟩:=au_T80 G.1 j c
 cases U
 try go_wp2_with (first|((with_reducible refine gate_callee (f:=65) rfl ?_);refine gl_ (some 21) Tryz.func65 #[.agg #[.int .i64 ((rd_T80 d c).f0),.slice p ((rd_T80 d c).f1).length q],.slice A1 l1.length c1] ?_;(with_reducible refine(spec_InChain.calls k ((rd_T80 d c).f0) _ _ ((rd_T80 d c).f1) _ _ l1 g _ ?_ ?_ ?_ ?_ La.1).mono ?_);exact cp_ ((Kd.C_below o.1 j.1));exact m.1;exact cp_ ((Kd.C_below ua.1 j.1));exact va.1;rintro e cc ⟨rfl,hb⟩;refine⟨_,rfl,?_⟩;obtain⟨a,b,j⟩:=u3_ hb a b j;(try clear hb);obtain⟨Db,Eb,Fb,Gb,Hb,Ib⟩:=bc3_ a.1;have V:0≤(c:Int):=of_decide_eq_true (by with_reducible assumption);have W:c<(d.length:Int):=of_decide_eq_true (by with_reducible assumption);obtain⟨ra,Ma,Na,Ca,t,u,x,y⟩:=at_T80 G.1 c V W;obtain rfl:Z=ra:=(by injection Ca);replace t:=cl_ j.1 t;replace u:=cl_ j.1 u;have da:=M_ y;have Fa:=M_ x;clear y x;replace V:=eq_true V;replace W:=eq_true W;have X:0≤(g:Int):=of_decide_eq_true (by with_reducible assumption);have Y:g<(((rd_T80 d c).f1).length:Int):=of_decide_eq_true (by with_reducible assumption);obtain⟨Ua,pa,qa,Da,z,A,B,D,E,F⟩:=at_T29 da.1 g X Y;cases Da;replace z:=cl_ j.1 z;replace A:=cl_ j.1 A;replace B:=cl_ j.1 B;replace D:=cl_ j.1 D;have ea:=M_ F;have fa:=M_ E;clear F E;replace X:=eq_true X;replace Y:=eq_true Y)|((with_reducible refine gate_callee (f:=63) rfl ?_);refine gl_ (some 34) Tryz.func63 #[.agg #[.slice pa ((rd_T29 ((rd_T80 d c).f1) g).f0).length qa,.int .i64 ((rd_T29 ((rd_T80 d c).f1) g).f1),.int .i64 ((rd_T29 ((rd_T80 d c).f1) g).f2),.string ((rd_T29 ((rd_T80 d c).f1) g).f3)]] ?_;(with_reducible refine(spec_l4Copy.calls _ _ ((rd_T29 ((rd_T80 d c).f1) g).f0) ((rd_T29 ((rd_T80 d c).f1) g).f1) ((rd_T29 ((rd_T80 d c).f1) g).f2) ((rd_T29 ((rd_T80 d c).f1) g).f3) la ma na oa _ ?_ ?_ vb.1).mono ?_);exact cp_ ((Kd.C_below ea.1 j.1));exact fa.1;rintro e dc ⟨Jb,rfl,Ea,hb⟩;refine⟨_,rfl,?_⟩;obtain⟨Oa,sa⟩:=Kd.R_name Ea;have aa:=rg_ sa Ea j;obtain⟨a,b,j⟩:=u3_ hb a b j;(try clear hb Ea);obtain⟨Pa,Qa,Ra⟩:=Kd.R_slice aa.1;subst Ra;obtain⟨Kb,Lb,Mb,Nb,Ob,Pb,Qb,Rb⟩:=bc4_ b.1))
 refine bodyPost_ret (results_ct rfl _ _ J 29 #[.slice Pa la.length Qa,.int .i64 ma,.int .i64 na,.string oa] (0,0) _ rfl (bp_ b.1) Tryz.underlying29 rfl (by kernel_rfl)) rfl ?_
 exact⟨_,rr_,Kd.R_mono (ry_ aa.1 b.1) (fun _ hk=>trivial),hs_ j.1⟩
end Go.Proofs.YtanfohlpkppeiaaGreat.Print
end
