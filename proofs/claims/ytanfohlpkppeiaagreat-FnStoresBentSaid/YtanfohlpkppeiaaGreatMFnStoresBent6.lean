import Derived.Test.YtanfohlpkppeiaaGreatMFnStoresBent1
import Derived.Test.YtanfohlpkppeiaaGreatMFnStoresBent2
import Derived.Test.YtanfohlpkppeiaaGreatMFnStoresBent4
import Derived.Test.YtanfohlpkppeiaaGreatMFnStoresBent5
import Derived.Test.YtanfohlpkppeiaaGreatMFnStoresBent3
section
namespace Go.Proofs.YtanfohlpkppeiaaGreat.Print
open Go.RowKit Go.Proofs.YtanfohlpkppeiaaGreatV.PrintWords Go.Proofs.YtanfohlpkppeiaaGreatV.PrintLast Go.Proofs.YtanfohlpkppeiaaGreatV.PrintMore
set_option linter.unusedVariables false
set_option linter.unusedSimpArgs false
/-- Labels in order, by names and by values. -/
def setLess:List S99→List S99→Bool
  | [],[]=>false
  | [],_::_=>true
  | _::_,[]=>false
  | x::a,y::b=>if x.f0.toList=y.f0.toList then (if x.f1.toList=y.f1.toList then setLess a b else Op.bytesLess x.f1.toList y.f1.toList) else Op.bytesLess x.f0.toList y.f0.toList
theorem implSetLess_l0 (a b:List S99) (ha:a.length<4611686018427387904):∀(sa sb pa pb:List S99),pa++sa=a→pb++sb=b→pa.length=pb.length→Ev (fun k=>impl_SetLess.l0 k a b (pa.length:Int)) (setLess sa sb)
  | [],sb,pa,pb,ea,eb,hp=>by
    have hl:a.length=pa.length:=by rw[←ea];simp
    have hb:b.length=pb.length+sb.length:=by rw[←eb];simp
    refine Ev.step (f:=fun k=>impl_SetLess.j1 k a b (pa.length:Int) false) (fun k=>?_) (Ev.step (f:=fun _=>some (setLess [] sb)) (fun k=>?_) (Ev.now _))
    · simp only[impl_SetLess.l0];rw[if_neg (by omega)]
    · simp only[impl_SetLess.j1];rw[if_neg (by simp)]
      cases sb with
      | nil=>simp only[List.length_nil] at hb;rw[decide_eq_false (by omega)];rfl
      | cons y sb=>simp only[List.length_cons] at hb;rw[decide_eq_true (by omega)];rfl
  | x::sa,[],pa,pb,ea,eb,hp=>by
    have hl:a.length=pa.length+(sa.length+1):=by rw[←ea];simp
    have hb:b.length=pb.length:=by rw[←eb];simp
    refine Ev.step (f:=fun k=>impl_SetLess.j1 k a b (pa.length:Int) false) (fun k=>?_) (Ev.step (f:=fun _=>some (setLess (x::sa) [])) (fun k=>?_) (Ev.now _))
    · simp only[impl_SetLess.l0];rw[if_pos (by omega),decide_eq_false (by omega)]
    · simp only[impl_SetLess.j1];rw[if_neg (by simp),decide_eq_false (by omega)];rfl
  | x::sa,y::sb,pa,pb,ea,eb,hp=>by
    have hl:a.length=pa.length+(sa.length+1):=by rw[←ea];simp
    have hb:b.length=pb.length+(sb.length+1):=by rw[←eb];simp
    have ga:a.getD pa.length z99=x:=by rw[←ea];simp
    have gb:b.getD pa.length z99=y:=by rw[←eb,hp];simp
    have ih:=implSetLess_l0 a b ha sa sb (pa++[x]) (pb++[y]) (by rw[←ea];simp) (by rw[←eb];simp) (by simp[hp])
    refine Ev.step (f:=fun k=>impl_SetLess.j1 k a b (pa.length:Int) true) (fun k=>?_) ?_
    · simp only[impl_SetLess.l0];rw[if_pos (by omega),decide_eq_true (by omega)]
    · refine Ev.step (f:=fun k=>if x.f0.toList=y.f0.toList then (if x.f1.toList=y.f1.toList then impl_SetLess.l0 k a b ((pa.length+1:Nat):Int) else some (Op.bytesLess x.f1.toList y.f1.toList)) else some (Op.bytesLess x.f0.toList y.f0.toList)) (fun k=>?_) ?_
      · simp only[impl_SetLess.j1]
        rw[if_pos trivial,if_pos (by omega),if_pos (by omega),if_pos (by omega),rdnLabel,rdnLabel,ga,gb,wrap_up _ (by omega)]
      · unfold setLess
        by_cases h1:x.f0.toList=y.f0.toList
        · simp only[if_pos h1]
          by_cases h2:x.f1.toList=y.f1.toList
          · simp only[if_pos h2];simpa using ih
          · simp only[if_neg h2];exact Ev.now _
        · simp only[if_neg h1];exact Ev.now _
theorem implSetLess_ev (a b:List S99) (ha:a.length<4611686018427387904):Ev (fun k=>impl_SetLess.f k a b) (setLess a b):=by
  unfold impl_SetLess.f
  exact implSetLess_l0 a b ha a b [] [] rfl rfl rfl
theorem specSetLess_l0 (a b:List S99) (ha:a.length<4611686018427387904):∀(sa sb pa pb:List S99),pa++sa=a→pb++sb=b→pa.length=pb.length→Ev (fun k=>spec_SetLess.l0 k a b (pa.length:Int)) (setLess sa sb)
  | [],sb,pa,pb,ea,eb,hp=>by
    have hl:a.length=pa.length:=by rw[←ea];simp
    have hb:b.length=pb.length+sb.length:=by rw[←eb];simp
    refine Ev.step (f:=fun k=>spec_SetLess.j1 k a b (pa.length:Int) false) (fun k=>?_) (Ev.step (f:=fun _=>some (setLess [] sb)) (fun k=>?_) (Ev.now _))
    · simp only[spec_SetLess.l0];rw[if_neg (by omega)]
    · simp only[spec_SetLess.j1];rw[if_neg (by simp)]
      cases sb with
      | nil=>simp only[List.length_nil] at hb;rw[decide_eq_false (by omega)];rfl
      | cons y sb=>simp only[List.length_cons] at hb;rw[decide_eq_true (by omega)];rfl
  | x::sa,[],pa,pb,ea,eb,hp=>by
    have hl:a.length=pa.length+(sa.length+1):=by rw[←ea];simp
    have hb:b.length=pb.length:=by rw[←eb];simp
    refine Ev.step (f:=fun k=>spec_SetLess.j1 k a b (pa.length:Int) false) (fun k=>?_) (Ev.step (f:=fun _=>some (setLess (x::sa) [])) (fun k=>?_) (Ev.now _))
    · simp only[spec_SetLess.l0];rw[if_pos (by omega),decide_eq_false (by omega)]
    · simp only[spec_SetLess.j1];rw[if_neg (by simp),decide_eq_false (by omega)];rfl
  | x::sa,y::sb,pa,pb,ea,eb,hp=>by
    have hl:a.length=pa.length+(sa.length+1):=by rw[←ea];simp
    have hb:b.length=pb.length+(sb.length+1):=by rw[←eb];simp
    have ga:a.getD pa.length z99=x:=by rw[←ea];simp
    have gb:b.getD pa.length z99=y:=by rw[←eb,hp];simp
    have ih:=specSetLess_l0 a b ha sa sb (pa++[x]) (pb++[y]) (by rw[←ea];simp) (by rw[←eb];simp) (by simp[hp])
    refine Ev.step (f:=fun k=>spec_SetLess.j1 k a b (pa.length:Int) true) (fun k=>?_) ?_
    · simp only[spec_SetLess.l0];rw[if_pos (by omega),decide_eq_true (by omega)]
    · refine Ev.step (f:=fun k=>if x.f0.toList=y.f0.toList then (if x.f1.toList=y.f1.toList then spec_SetLess.l0 k a b ((pa.length+1:Nat):Int) else some (Op.bytesLess x.f1.toList y.f1.toList)) else some (Op.bytesLess x.f0.toList y.f0.toList)) (fun k=>?_) ?_
      · simp only[spec_SetLess.j1,spec_Less.f,Option.bind_some]
        rw[if_pos trivial,if_pos (by omega),if_pos (by omega),if_pos (by omega),rdnLabel,rdnLabel,ga,gb,wrap_up _ (by omega)]
      · unfold setLess
        by_cases h1:x.f0.toList=y.f0.toList
        · simp only[if_pos h1]
          by_cases h2:x.f1.toList=y.f1.toList
          · simp only[if_pos h2];simpa using ih
          · simp only[if_neg h2];exact Ev.now _
        · simp only[if_neg h1];exact Ev.now _
theorem specSetLess_ev (a b:List S99) (ha:a.length<4611686018427387904):Ev (fun k=>spec_SetLess.f k a b) (setLess a b):=by
  unfold spec_SetLess.f
  exact specSetLess_l0 a b ha a b [] [] rfl rfl rfl
end Go.Proofs.YtanfohlpkppeiaaGreat.Print
end
section
namespace Go.Proofs.YtanfohlpkppeiaaGreat.Print
open Go.RowKit Go.Proofs.YtanfohlpkppeiaaGreatV.PrintWords Go.Proofs.YtanfohlpkppeiaaGreatV.PrintLast Go.Proofs.YtanfohlpkppeiaaGreatV.PrintMore
set_option linter.unusedVariables false
set_option linter.unusedSimpArgs false
open Go.Sort
theorem bytesLess_dec:∀(x y:List UInt8),Op.bytesLess x y=decide (x<y)
  | [],[]=>by simp[Op.bytesLess]
  | _::_,[]=>by simp[Op.bytesLess]
  | [],_::_=>by simp[Op.bytesLess]
  | a::x,b::y=>by
    rw[Op.bytesLess,bytesLess_dec x y]
    simp only[List.cons_lt_cons_iff]
    by_cases h1:a<b<;>by_cases h2:a=b<;>by_cases h3:x<y<;>simp[h1,h2,h3]
def flatL:List S99→List (List UInt8)
  | []=>[]
  | x::a=>x.f0.toList::x.f1.toList::flatL a
theorem setLess_dec:∀a b,setLess a b=decide (flatL a<flatL b)
  | [],[]=>by simp[setLess,flatL]
  | [],_::_=>by simp[setLess,flatL]
  | _::_,[]=>by simp[setLess,flatL]
  | x::a,y::b=>by
    unfold setLess
    rw[setLess_dec a b,bytesLess_dec,bytesLess_dec]
    simp only[flatL,List.cons_lt_cons_iff]
    by_cases h1:x.f0.toList=y.f0.toList
    · rw[if_pos h1]
      by_cases h2:x.f1.toList=y.f1.toList
      · rw[if_pos h2];simp[h1,h2,List.lt_irrefl]
      · rw[if_neg h2];simp[h1,h2,List.lt_irrefl]
    · rw[if_neg h1];simp[h1]
def altA (x y:S29):Bool:=setLess x.f0 y.f0
theorem swo_altA:SWO altA where
  irrefl x:=by simp[altA,setLess_dec,List.lt_irrefl]
  trans x y z h1 h2:=by simp only[altA,setLess_dec,decide_eq_true_eq] at *;exact List.lt_trans h1 h2
  ntrans x y z h1 h2:=by
    simp only[altA,setLess_dec,decide_eq_false_iff_not,List.not_lt] at *
    exact List.le_trans h2 h1
section
variable {α:Type} {lt:α→α→Bool}
/-- x is put in from the end, over what it is less than (the list turned). -/
def insR (lt:α→α→Bool) (x:α):List α→List α
  | []=>[x]
  | y::r=>if lt x y=true then y::insR lt x r else x::y::r
theorem insR_mem {x y:α}:∀{r:List α},y∈insR lt x r↔y=x∨y∈r
  | []=>by simp[insR]
  | z::r=>by
    unfold insR
    split
    · rw[List.mem_cons,insR_mem (r:=r),List.mem_cons]
      constructor
      · rintro (h|h|h)
        · exact .inr (.inl h)
        · exact .inl h
        · exact .inr (.inr h)
      · rintro (h|h|h)
        · exact .inr (.inl h)
        · exact .inl h
        · exact .inr (.inr h)
    · simp
theorem insR_length (x:α):∀r:List α,(insR lt x r).length=r.length+1
  | []=>rfl
  | y::r=>by
    unfold insR
    split
    · simp[insR_length x r]
    · simp
theorem insR_sorted (hS:SWO lt) (x:α):∀r:List α,r.Pairwise (fun a b=>lt a b=false)→(insR lt x r).Pairwise (fun a b=>lt a b=false)
  | [],_=>by simp[insR]
  | y::r,h=>by
    obtain⟨h1,h2⟩:=List.pairwise_cons.1 h
    unfold insR
    by_cases c:lt x y=true
    · rw[if_pos c]
      refine List.pairwise_cons.2 ⟨fun z hz=>?_,insR_sorted hS x r h2⟩
      rcases insR_mem.1 hz with rfl|hz
      · cases e:lt y z with
        | false=>rfl
        | true=>have:=hS.trans _ _ _ c e;rw[hS.irrefl] at this;cases this
      · exact h1 z hz
    · rw[if_neg c]
      have c':lt x y=false:=by simpa using c
      refine List.pairwise_cons.2 ⟨fun z hz=>?_,h⟩
      rcases List.mem_cons.1 hz with rfl|hz
      · exact c'
      · exact hS.ntrans _ _ _ c' (h1 z hz)
theorem insR_filter (hS:SWO lt) (x c:α):∀r:List α,(insR lt x r).filter (Stable.eqv lt c)=(x::r).filter (Stable.eqv lt c)
  | []=>rfl
  | y::r=>by
    unfold insR
    by_cases h:lt x y=true
    · rw[if_pos h,List.filter_cons,insR_filter hS x c r]
      by_cases hy:Stable.eqv lt c y=true
      · have hx:Stable.eqv lt c x=false:=Stable.eqv_no hS h hy
        simp[hx,hy]
      · simp[List.filter_cons,hy]
    · rw[if_neg h]
def insE (lt:α→α→Bool) (x:α) (out:List α):List α:=(insR lt x out.reverse).reverse
def sortE (lt:α→α→Bool):List α→List α→List α
  | out,[]=>out
  | out,x::l=>sortE lt (insE lt x out) l
theorem insE_mem {x y:α} {r:List α}:y∈insE lt x r↔y=x∨y∈r:=by simp[insE,insR_mem]
theorem sortE_mem {y:α}:∀{l out:List α},y∈sortE lt out l↔y∈out∨y∈l
  | [],out=>by simp[sortE]
  | x::l,out=>by
    rw[sortE,sortE_mem (l:=l),insE_mem,List.mem_cons]
    constructor
    · rintro ((h|h)|h)
      · exact .inr (.inl h)
      · exact .inl h
      · exact .inr (.inr h)
    · rintro (h|h|h)
      · exact .inl (.inr h)
      · exact .inl (.inl h)
      · exact .inr h
theorem sortE_length:∀(l out:List α),(sortE lt out l).length=out.length+l.length
  | [],out=>rfl
  | x::l,out=>by rw[sortE,sortE_length l];simp[insE,insR_length];omega
theorem sortE_spec (hS:SWO lt):∀(l out:List α),out.Pairwise (fun a b=>lt b a=false)→(sortE lt out l).Pairwise (fun a b=>lt b a=false)∧Stable.St lt (out++l) (sortE lt out l)
  | [],out,h=>⟨h,by rw[List.append_nil];exact Stable.St.refl _⟩
  | x::l,out,h=>by
    have h1:(insE lt x out).Pairwise (fun a b=>lt b a=false):=by
      unfold insE;rw[List.pairwise_reverse];exact insR_sorted hS x _ (by rw[List.pairwise_reverse];exact h)
    obtain⟨a,b⟩:=sortE_spec hS l (insE lt x out) h1
    refine⟨a,fun c=>?_⟩
    rw[sortE,b c,List.filter_append,List.filter_append]
    have:(insE lt x out).filter (Stable.eqv lt c)=(out++[x]).filter (Stable.eqv lt c):=by
      unfold insE;rw[List.filter_reverse,insR_filter hS,←List.filter_reverse];simp
    rw[this,List.filter_append,List.append_assoc,←List.filter_append];rfl
theorem insR_map {β:Type} (f:β→α) (x:β):∀r:List β,(insR (fun i j=>lt (f i) (f j)) x r).map f=insR lt (f x) (r.map f)
  | []=>rfl
  | y::r=>by
    simp only[insR,List.map_cons]
    split
    · rw[List.map_cons,insR_map f x r]
    · rfl
theorem sortE_map {β:Type} (f:β→α):∀(l out:List β),(sortE (fun i j=>lt (f i) (f j)) out l).map f=sortE lt (out.map f) (l.map f)
  | [],out=>rfl
  | x::l,out=>by
    rw[sortE,sortE_map f l]
    simp only[List.map_cons,sortE]
    congr 1
    simp only[insE];rw[List.map_reverse,insR_map,List.map_reverse]
end
theorem Ev.all {β γ:Type} (f:β→Nat→Option γ) (v:β→γ):∀l:List β,(∀x∈l,Ev (f x) (v x))→∃K,∀x∈l,∀k,K≤k→f x k=some (v x)
  | [],_=>⟨0,fun _ h=>by cases h⟩
  | y::l,h=>by
    obtain⟨K,g⟩:=Ev.all f v l (fun x hx=>h x (List.mem_cons_of_mem _ hx))
    obtain⟨K1,g1⟩:=h y List.mem_cons_self
    refine⟨K+K1,fun x hx k hk=>?_⟩
    rcases List.mem_cons.1 hx with rfl|hx
    · exact g1 k (by omega)
    · exact g x hx k (by omega)
theorem byl_lt {x y:S29} (h:x.f0.length≤5000000):impl_byLabels.lt x y=altA x y:=by
  obtain⟨K,g⟩:=implSetLess_ev x.f0 y.f0 (by omega)
  exact impl_byLabels.lt_eq (g K (Nat.le_refl _))
theorem byl_at (l:List S29) (hl:∀y∈l,y.f0.length≤5000000) (j:Nat):(impl_byLabels.at_ l j).f0.length≤5000000:=by
  unfold impl_byLabels.at_
  cases l with
  | nil=>show (z29).f0.length≤_;simp[z29]
  | cons a l=>
    rw[List.getD_eq_getElem?_getD]
    have:(if j<(a::l).length then j else 0)<(a::l).length:=by
      split
      · assumption
      · simp
    rw[List.getElem?_eq_getElem this]
    exact hl _ (List.getElem_mem _)
theorem byl_ltn (l:List S29) (hl:∀y∈l,y.f0.length≤5000000):impl_byLabels.ltn l=fun i j=>altA (impl_byLabels.at_ l i) (impl_byLabels.at_ l j):=by
  funext i j
  exact byl_lt (byl_at l hl i)
theorem byl_map (l:List S29):(List.range l.length).map (impl_byLabels.at_ l)=l:=by
  apply List.ext_getElem
  · simp
  · intro i h1 h2
    simp[impl_byLabels.at_,h2]
theorem byl_out (l:List S29) (hl:∀y∈l,y.f0.length≤5000000):impl_byLabels.out l=sortE altA [] l:=by
  have hS:SWO (impl_byLabels.ltn l):=by
    rw[byl_ltn l hl]
    exact⟨fun x=>swo_altA.irrefl _,fun x y z=>swo_altA.trans _ _ _,fun x y z=>swo_altA.ntrans _ _ _⟩
  obtain⟨a,b⟩:=sortE_spec hS (List.range l.length) [] List.Pairwise.nil
  have e:=Stable.stable_eq hS (Array.range l.length) (sortE (impl_byLabels.ltn l) [] (List.range l.length)) (by simpa using b) a
  rw[Array.size_range] at e
  unfold impl_byLabels.out
  rw[e,byl_ltn l hl,sortE_map,byl_map];rfl
theorem implByLabels_ev (l:List S29) (h:l.length≤4000000∧∀y∈l,WiAlarm y):Ev (fun k=>impl_byLabels.f k l) (sortE altA [] l):=by
  have hl:∀y∈l,y.f0.length≤5000000:=fun y hy=>Nat.le_trans (h.2 y hy).1.1 (by decide)
  have hS:SWO (impl_byLabels.ltn l):=by
    rw[byl_ltn l hl]
    exact⟨fun x=>swo_altA.irrefl _,fun x y z=>swo_altA.trans _ _ _,fun x y z=>swo_altA.ntrans _ _ _⟩
  have hp:∀x∈l,∃K,∀y∈l,∀k,K≤k→impl_SetLess.f k x.f0 y.f0=some (setLess x.f0 y.f0):=fun x hx=>Ev.all (fun y k=>impl_SetLess.f k x.f0 y.f0) (fun y=>setLess x.f0 y.f0) l (fun y hy=>implSetLess_ev _ _ (by have:=hl x hx;omega))
  have hq:∀m:List S29,(∀x∈m,x∈l)→∃K,∀x∈m,∀y∈l,∀k,K≤k→impl_SetLess.f k x.f0 y.f0=some (setLess x.f0 y.f0):=fun m=>by
    induction m with
    | nil=>exact fun _=>⟨0,fun _ h=>by cases h⟩
    | cons z m ih=>
      intro hm
      obtain⟨K,g⟩:=ih (fun x hx=>hm x (List.mem_cons_of_mem _ hx))
      obtain⟨K1,g1⟩:=hp z (hm z List.mem_cons_self)
      refine⟨K+K1,fun x hx y hy k hk=>?_⟩
      rcases List.mem_cons.1 hx with rfl|hx
      · exact g1 y hy k (by omega)
      · exact g x hx y hy k (by omega)
  obtain⟨K,g⟩:=hq l (fun _ h=>h)
  refine⟨K,fun k hk=>?_⟩
  show impl_byLabels.f k l=_
  unfold impl_byLabels.f
  rw[if_pos ⟨fun x hx y hy=>by rw[g x hx y hy k hk];rfl,by omega,hS⟩,byl_out l hl]
end Go.Proofs.YtanfohlpkppeiaaGreat.Print
end
section
namespace Go.Proofs.YtanfohlpkppeiaaGreat.Print
open Go.RowKit Go.Proofs.YtanfohlpkppeiaaGreatV.PrintWords Go.Proofs.YtanfohlpkppeiaaGreatV.PrintLast Go.Proofs.YtanfohlpkppeiaaGreatV.PrintMore
set_option linter.unusedVariables false
set_option linter.unusedSimpArgs false
theorem rdmidParti (pre suf:List S26) (y:S26):rd_T26 (pre++y::suf) (pre.length:Int)=y:=by unfold rd_T26;simp
theorem rdmidChaini (pre suf:List S80) (y:S80):rd_T80 (pre++y::suf) (pre.length:Int)=y:=by unfold rd_T80;simp
def inC:List S80→List S29
  | []=>[]
  | c::cs=>c.f1++inC cs
theorem specAlarmsIn_l0 (o0 o1:Int):∀(suf pre:List S80) (acc:List S29),(pre++suf).length≤5000000→acc.length+(inC suf).length≤5000000→(∀c∈suf,∀y∈c.f1,y.f0.length≤5000000) →
    Ev (fun k=>spec_AlarmsIn.l0 k acc (pre.length:Int) o0 o1 (pre++suf)) (acc++inC suf)
  | [],pre,acc,h,ha,hW=>by
    refine Ev.step (f:=fun _=>some (acc++([]:List S29))) (fun k=>?_) (Ev.now _)
    simp only[spec_AlarmsIn.l0]
    rw[if_neg (not_lt_end pre)]
    simp
  | y::suf,pre,acc,h,ha,hW=>by
    have hp:pre.length<5000000:=by simp at h;omega
    have hl:acc.length+(y.f1.length+(inC suf).length)≤5000000:=by simpa [inC] using ha
    obtain⟨K,g⟩:=specAlarmsIn_l0 o0 o1 suf (pre++[y]) (acc++y.f1) (by simpa using h) (by simp;omega) (fun z hz=>hW z (List.mem_cons_of_mem _ hz))
    obtain⟨K1,g1⟩:=specL4All_ev y.f1 (by omega) (hW y List.mem_cons_self)
    refine⟨K+K1+1,fun k hk=>?_⟩
    obtain⟨k,rfl⟩:∃m,k=m+1:=⟨k-1,by omega⟩
    have G:=g k (by omega)
    have G1:=g1 k (by omega)
    simp only at G G1
    simp only[spec_AlarmsIn.l0]
    rw[if_pos (lt_mid pre suf y),if_pos (nn _),rdmidChaini,G1,Option.bind_some,if_pos (by omega),wrap_up _ (by omega)]
    rw[show pre++y::suf=(pre++[y])++suf by simp,show ((pre.length+1:Nat):Int)=((pre++[y]).length:Int) by simp,G]
    simp[inC]
theorem implAlarmsIn_l0:∀(suf pre:List S80) (acc:List S29),(pre++suf).length≤5000000→acc.length+(inC suf).length≤5000000→(∀c∈suf,∀y∈c.f1,y.f0.length≤5000000) →
    Ev (fun k=>impl_AlarmsIn.l0 k acc (pre++suf) ((pre++suf).length:Int) (pre.length:Int)) (acc++inC suf)
  | [],pre,acc,h,ha,hW=>by
    refine Ev.step (f:=fun _=>some (acc++([]:List S29))) (fun k=>?_) (Ev.now _)
    simp only[impl_AlarmsIn.l0]
    rw[if_neg (not_lt_end pre)]
    simp
  | y::suf,pre,acc,h,ha,hW=>by
    have hp:pre.length<5000000:=by simp at h;omega
    have hl:acc.length+(y.f1.length+(inC suf).length)≤5000000:=by simpa [inC] using ha
    obtain⟨K,g⟩:=implAlarmsIn_l0 suf (pre++[y]) (acc++y.f1) (by simpa using h) (by simp;omega) (fun z hz=>hW z (List.mem_cons_of_mem _ hz))
    obtain⟨K1,g1⟩:=implCopyAlarms_ev y.f1 (by omega) (hW y List.mem_cons_self)
    refine⟨K+K1+1,fun k hk=>?_⟩
    obtain⟨k,rfl⟩:∃m,k=m+1:=⟨k-1,by omega⟩
    have G:=g k (by omega)
    have G1:=g1 k (by omega)
    simp only at G G1
    simp only[impl_AlarmsIn.l0]
    rw[if_pos (lt_mid pre suf y),if_pos (nn _),if_pos (lt_mid pre suf y),rdmidChaini,G1,Option.bind_some,if_pos (by omega),wrap_up _ (by omega)]
    rw[show pre++y::suf=(pre++[y])++suf by simp,show ((pre.length+1:Nat):Int)=((pre++[y]).length:Int) by simp,G]
    simp[inC]
theorem specAlarmsIn_ev (p:S26) (h:p.f2.length≤5000000) (hl:(inC p.f2).length≤5000000) (hW:∀c∈p.f2,∀y∈c.f1,y.f0.length≤5000000):Ev (fun k=>spec_AlarmsIn.f k p.f0 p.f1 p.f2) (inC p.f2):=
  Ev.congr (fun k=>by unfold spec_AlarmsIn.f;rfl) (specAlarmsIn_l0 p.f0 p.f1 p.f2 [] [] (by simpa using h) (by simpa using hl) hW)
theorem implAlarmsIn_ev (p:S26) (h:p.f2.length≤5000000) (hl:(inC p.f2).length≤5000000) (hW:∀c∈p.f2,∀y∈c.f1,y.f0.length≤5000000):Ev (fun k=>impl_AlarmsIn.f k p.f0 p.f1 p.f2) (inC p.f2):=
  Ev.congr (fun k=>by unfold impl_AlarmsIn.f;rfl) (implAlarmsIn_l0 p.f2 [] [] (by simpa using h) (by simpa using hl) hW)
theorem inC_mem {y:S29}:∀{l:List S80},y∈inC l→∃c∈l,y∈c.f1
  | [],h=>by cases h
  | c::l,h=>by
    rcases List.mem_append.1 h with h|h
    · exact⟨c,List.mem_cons_self,h⟩
    · obtain⟨d,hd,hy⟩:=inC_mem h;exact⟨d,List.mem_cons_of_mem _ hd,hy⟩
theorem rdmidAlarmi (pre suf:List S29) (y:S29):rd_T29 (pre++y::suf) (pre.length:Int)=y:=by unfold rd_T29;simp
theorem specL8Sort_j2 (x0:List S29) (x4:Int) (x:S29) (r suf:List S29) (h:r.length+suf.length≤5000000) (k:Nat) :
    spec_l8Sort.j2 (k+1) x0 (r.reverse++suf) x4 (r.length:Int) false x.f0 x.f1 x.f2 x.f3=spec_l8Sort.l0 k x0 ((x::r).reverse++suf) (wrap64 (x4+1)):=by
  have e1:(r.reverse++suf).take ((r.length:Int)).toNat=r.reverse:=by simp
  have e2:(r.reverse++suf).drop ((r.length:Int)).toNat=suf:=by simp
  have c1:(r.length:Int)≤((r.reverse++suf).length:Int):=by simp only[List.length_append,List.length_reverse];omega
  simp only[spec_l8Sort.j2]
  rw[if_neg (by simp)]
  simp only[Option.bind_some,e1,e2,nn,c1,if_true,List.nil_append,List.length_nil]
  rw[if_pos (by simp only[List.length_reverse];omega),if_pos (by simp only[List.length_reverse];omega),if_pos (by simp only[List.length_append,List.length_reverse,List.length_cons,List.length_nil];omega)]
  simp
theorem specL8Sort_l1 (x0:List S29) (x4:Int) (x:S29) (hx:x.f0.length≤5000000) (v:List S29):∀(r suf:List S29),r.length+suf.length≤5000000 →
    Ev (fun k=>spec_l8Sort.l0 k x0 ((insR altA x r).reverse++suf) (wrap64 (x4+1))) v→Ev (fun k=>spec_l8Sort.l1 k x0 (r.reverse++suf) x4 (r.length:Int) x.f0 x.f1 x.f2 x.f3) v
  | [],suf,h,⟨K,g⟩=>by
    refine⟨K+2,fun k hk=>?_⟩
    obtain⟨k,rfl⟩:∃m,k=m+2:=⟨k-2,by omega⟩
    show spec_l8Sort.l1 (k+1+1) _ _ _ _ _ _ _ _=_
    unfold spec_l8Sort.l1
    rw[if_neg (by simp)]
    have:=specL8Sort_j2 x0 x4 x [] suf h k
    rw[this]
    exact g k (by omega)
  | y::r,suf,h,hv=>by
    have hr:r.length+(suf.length+1)≤5000000:=by simp only[List.length_cons] at h;omega
    obtain⟨K1,g1⟩:=specSetLess_ev x.f0 y.f0 (by omega)
    simp only at g1
    have e1:wrap64 (((y::r).length:Int)-1)=(r.length:Int):=(wrap_id (by simp only[List.length_cons];omega) (by simp only[List.length_cons];omega)).trans (by simp only[List.length_cons];omega)
    have eL:(y::r).reverse++suf=r.reverse++y::suf:=by simp
    have eR:rd_T29 (r.reverse++y::suf) (r.length:Int)=y:=by
      have:=rdmidAlarmi r.reverse suf y
      rwa [List.length_reverse] at this
    have c1:(r.length:Int)<((r.reverse++y::suf).length:Int):=by simp only[List.length_append,List.length_reverse,List.length_cons];omega
    have c0:((y::r).length:Int)>0:=by simp only[List.length_cons];omega
    by_cases c:altA x y=true
    · have e:(insR altA x (y::r)).reverse++suf=(insR altA x r).reverse++y::suf:=by
        rw[insR,if_pos c];simp
      rw[e] at hv
      obtain⟨K,g⟩:=specL8Sort_l1 x0 x4 x hx v r (y::suf) (by simpa using hr) hv
      refine⟨K+K1+2,fun k hk=>?_⟩
      obtain⟨k,rfl⟩:∃m,k=m+2:=⟨k-2,by omega⟩
      show spec_l8Sort.l1 (k+1+1) _ _ _ _ _ _ _ _=_
      unfold spec_l8Sort.l1
      rw[if_pos c0,e1,if_pos (nn _),eL,if_pos c1,eR,g1 (k+1) (by omega),Option.bind_some,show setLess x.f0 y.f0=true from c]
      unfold spec_l8Sort.j2
      rw[if_pos rfl,e1]
      exact g k (by omega)
    · have e:(insR altA x (y::r)).reverse++suf=(x::y::r).reverse++suf:=by
        rw[insR,if_neg c]
      rw[e] at hv
      obtain⟨K,g⟩:=hv
      refine⟨K+K1+2,fun k hk=>?_⟩
      obtain⟨k,rfl⟩:∃m,k=m+2:=⟨k-2,by omega⟩
      show spec_l8Sort.l1 (k+1+1) _ _ _ _ _ _ _ _=_
      unfold spec_l8Sort.l1
      rw[if_pos c0,e1,if_pos (nn _),eL,if_pos c1,eR,g1 (k+1) (by omega),Option.bind_some,show setLess x.f0 y.f0=false by simpa [altA] using c,←eL,specL8Sort_j2 x0 x4 x (y::r) suf h k]
      exact g k (by omega)
theorem specL8Sort_l0:∀(suf pre out:List S29),(pre++suf).length≤5000000→out.length=pre.length→(∀y∈suf,y.f0.length≤5000000)→Ev (fun k=>spec_l8Sort.l0 k (pre++suf) out (pre.length:Int)) (sortE altA out suf)
  | [],pre,out,h,ho,hW=>by
    refine Ev.step (f:=fun _=>some out) (fun k=>?_) (Ev.now _)
    simp only[spec_l8Sort.l0]
    rw[if_neg (not_lt_end pre)]
  | y::suf,pre,out,h,ho,hW=>by
    have hp:pre.length<5000000:=by simp at h;omega
    have ih:=specL8Sort_l0 suf (pre++[y]) (insE altA y out) (by simpa using h) (by simp[insE,insR_length,ho]) (fun z hz=>hW z (List.mem_cons_of_mem _ hz))
    have hy:=hW y List.mem_cons_self
    have hv:Ev (fun k=>spec_l8Sort.l0 k (pre++y::suf) ((insR altA y out.reverse).reverse++[]) (wrap64 ((pre.length:Int)+1))) (sortE altA out (y::suf)):=by
      rw[wrap_up _ (by omega),List.append_nil]
      rw[show pre++y::suf=(pre++[y])++suf by simp,show ((pre.length+1:Nat):Int)=((pre++[y]).length:Int) by simp]
      exact ih
    obtain⟨K,g⟩:=specL8Sort_l1 (pre++y::suf) (pre.length:Int) y hy _ out.reverse [] (by simp;omega) hv
    refine⟨K+1,fun k hk=>?_⟩
    obtain⟨k,rfl⟩:∃m,k=m+1:=⟨k-1,by omega⟩
    have G:=g k (by omega)
    simp only[List.reverse_reverse,List.append_nil,List.length_reverse] at G
    show spec_l8Sort.l0 (k+1) _ _ _=_
    unfold spec_l8Sort.l0
    rw[if_pos (lt_mid pre suf y),if_pos (nn _),rdmidAlarmi,specL4Copy_ev y hy,Option.bind_some]
    exact G
theorem specL8Sort_ev (l:List S29) (h:l.length≤4000000∧∀y∈l,WiAlarm y):Ev (fun k=>spec_l8Sort.f k l) (sortE altA [] l):=
  Ev.congr (fun k=>by unfold spec_l8Sort.f;rfl) (specL8Sort_l0 l [] [] (by simp;omega) rfl (fun y hy=>Nat.le_trans (h.2 y hy).1.1 (by decide)))
theorem okAl {l:List S29} (h:l.length≤4000000∧∀y∈l,WiAlarm y):l.length≤5000000∧∀y∈l,y.f0.length≤5000000:=⟨by omega,fun y hy=>Nat.le_trans (h.2 y hy).1.1 (by decide)⟩
def inS:List S26→List S29
  | []=>[]
  | p::ps=>inC p.f2++inS ps
theorem inS_mem {y:S29}:∀{l:List S26},y∈inS l→∃p∈l,y∈inC p.f2
  | [],h=>by cases h
  | c::l,h=>by
    rcases List.mem_append.1 h with h|h
    · exact⟨c,List.mem_cons_self,h⟩
    · obtain⟨d,hd,hy⟩:=inS_mem h;exact⟨d,List.mem_cons_of_mem _ hd,hy⟩
theorem specAllAlarms_l0 (v:List S29):∀(suf pre:List S26) (acc:List S29),(pre++suf).length≤5000000→acc.length+(inS suf).length≤5000000→(∀p∈suf,WiPart p)→Ev (fun k=>spec_l8Sort.f k (acc++inS suf)) v →
    Ev (fun k=>spec_AllAlarms.l0 k (pre++suf) acc (pre.length:Int)) v
  | [],pre,acc,h,ha,hW,hv=>by
    refine Ev.step (f:=fun k=>spec_l8Sort.f k (acc++inS [])) (fun k=>?_) hv
    simp only[spec_AllAlarms.l0]
    rw[if_neg (not_lt_end pre)]
    simp[inS]
  | y::suf,pre,acc,h,ha,hW,hv=>by
    have hp:pre.length<5000000:=by simp at h;omega
    have hl:acc.length+((inC y.f2).length+(inS suf).length)≤5000000:=by simpa [inS] using ha
    have hy:=hW y List.mem_cons_self
    obtain⟨K,g⟩:=specAllAlarms_l0 v suf (pre++[y]) (acc++inC y.f2) (by simpa using h) (by simp;omega) (fun z hz=>hW z (List.mem_cons_of_mem _ hz)) (by simpa [inS] using hv)
    obtain⟨K1,g1⟩:=specAlarmsIn_ev y (Nat.le_trans hy.2.2.1 (by decide)) (by omega) (fun c hc=>(okAl (hy.2.2.2 c hc).2).2)
    refine⟨K+K1+1,fun k hk=>?_⟩
    obtain⟨k,rfl⟩:∃m,k=m+1:=⟨k-1,by omega⟩
    have G:=g k (by omega)
    have G1:=g1 k (by omega)
    simp only at G G1
    simp only[spec_AllAlarms.l0]
    rw[if_pos (lt_mid pre suf y),if_pos (nn _),rdmidParti,G1,Option.bind_some,if_pos (by omega),wrap_up _ (by omega)]
    rw[show pre++y::suf=(pre++[y])++suf by simp,show ((pre.length+1:Nat):Int)=((pre++[y]).length:Int) by simp,G]
theorem implAllAlarms_l0 (v:List S29):∀(suf pre:List S26) (acc:List S29),(pre++suf).length≤5000000→acc.length+(inS suf).length≤5000000→(∀p∈suf,WiPart p)→Ev (fun k=>impl_byLabels.f k (acc++inS suf)) v →
    Ev (fun k=>impl_AllAlarms.l0 k acc (pre++suf) ((pre++suf).length:Int) (pre.length:Int)) v
  | [],pre,acc,h,ha,hW,hv=>by
    refine Ev.step (f:=fun k=>impl_byLabels.f k (acc++inS [])) (fun k=>?_) hv
    simp only[impl_AllAlarms.l0]
    rw[if_neg (not_lt_end pre)]
    simp[inS]
  | y::suf,pre,acc,h,ha,hW,hv=>by
    have hp:pre.length<5000000:=by simp at h;omega
    have hl:acc.length+((inC y.f2).length+(inS suf).length)≤5000000:=by simpa [inS] using ha
    have hy:=hW y List.mem_cons_self
    obtain⟨K,g⟩:=implAllAlarms_l0 v suf (pre++[y]) (acc++inC y.f2) (by simpa using h) (by simp;omega) (fun z hz=>hW z (List.mem_cons_of_mem _ hz)) (by simpa [inS] using hv)
    obtain⟨K1,g1⟩:=implAlarmsIn_ev y (Nat.le_trans hy.2.2.1 (by decide)) (by omega) (fun c hc=>(okAl (hy.2.2.2 c hc).2).2)
    refine⟨K+K1+1,fun k hk=>?_⟩
    obtain⟨k,rfl⟩:∃m,k=m+1:=⟨k-1,by omega⟩
    have G:=g k (by omega)
    have G1:=g1 k (by omega)
    simp only at G G1
    simp only[impl_AllAlarms.l0]
    rw[if_pos (lt_mid pre suf y),if_pos (nn _),if_pos (lt_mid pre suf y),rdmidParti,G1,Option.bind_some,if_pos (by omega),wrap_up _ (by omega)]
    rw[show pre++y::suf=(pre++[y])++suf by simp,show ((pre.length+1:Nat):Int)=((pre++[y]).length:Int) by simp,G]
def allA (l:List S26):List S29:=sortE altA [] (inS l)
theorem inS_wi {l:List S26} (h:l.length≤4000000∧∀y∈l,WiPart y) (hl:(inS l).length≤4000000):(inS l).length≤4000000∧∀y∈inS l,WiAlarm y:=
  ⟨hl,fun y hy=>by
    obtain⟨p,hp,hy⟩:=inS_mem hy
    obtain⟨c,hc,hy⟩:=inC_mem hy
    exact(((h.2 p hp).2.2.2 c hc).2.2 y hy)⟩
theorem specAllAlarms_ev (l:List S26) (h:l.length≤4000000∧∀y∈l,WiPart y) (hl:(inS l).length≤4000000):Ev (fun k=>spec_AllAlarms.f k l) (allA l):=
  Ev.congr (fun k=>by unfold spec_AllAlarms.f;rfl) (specAllAlarms_l0 (allA l) l [] [] (by simp;omega) (by simp;omega) h.2 (by simpa [allA] using specL8Sort_ev (inS l) (inS_wi h hl)))
theorem implAllAlarms_ev (l:List S26) (h:l.length≤4000000∧∀y∈l,WiPart y) (hl:(inS l).length≤4000000):Ev (fun k=>impl_AllAlarms.f k l) (allA l):=
  Ev.congr (fun k=>by unfold impl_AllAlarms.f;rfl) (implAllAlarms_l0 (allA l) l [] [] (by simp;omega) (by simp;omega) h.2 (by simpa [allA] using implByLabels_ev (inS l) (inS_wi h hl)))
theorem rdnPart (l:List S26) (i:Nat):rd_T26 l (i:Int)=l.getD i z26:=by unfold rd_T26;simp
theorem rdnChain (l:List S80) (i:Nat):rd_T80 l (i:Int)=l.getD i z80:=by unfold rd_T80;simp
def cntC (acc:Int) (cs:List S80):Int:=cs.foldl (fun a c=>wrap64 (a+(c.f1.length:Int))) acc
def cntP (acc:Int) (ps:List S26):Int:=ps.foldl (fun a p=>cntC a p.f2) acc
def countOf (ps:List S26):Int:=cntP 0 ps
theorem implCount_l1 (x8:List S26) (x9:Int) (i:Nat) (hi:i<4611686018427387904) (x15:List S80) (hx:x15.length≤4000000) (r:Int):∀(suf pre:List S80) (acc:Int),pre++suf=x15→Ev (fun k=>impl_CountOf.l0 k (cntC acc suf) x8 x9 ((i+1:Nat):Int)) r →
    Ev (fun k=>impl_CountOf.l1 k acc x8 x9 (i:Int) x15 (x15.length:Int) (pre.length:Int)) r
  | [],pre,acc,e,h=>by
    refine Ev.step (fun k=>?_) h
    simp only[impl_CountOf.l1]
    rw[if_neg (by rw[←e];simp),wrap_up i (by omega)]
    rfl
  | y::suf,pre,acc,e,h=>by
    have hl:pre.length<x15.length:=by rw[←e];simp
    have hg:x15.getD pre.length z80=y:=by rw[←e];simp
    have ih:=implCount_l1 x8 x9 i hi x15 hx r suf (pre++[y]) (wrap64 (acc+(y.f1.length:Int))) (by rw[←e];simp) h
    refine Ev.step (f:=fun k=>impl_CountOf.l1 k (wrap64 (acc+(y.f1.length:Int))) x8 x9 (i:Int) x15 (x15.length:Int) ((pre.length+1:Nat):Int)) (fun k=>?_) (by simpa using ih)
    simp only[impl_CountOf.l1]
    rw[if_pos (by omega),if_pos (by omega),if_pos (by omega),rdnChain,hg,wrap_up _ (by omega)]
theorem implCount_l0 (x8:List S26) (h:x8.length≤4000000∧∀y∈x8,WiPart y):∀(suf pre:List S26) (acc:Int),pre++suf=x8→Ev (fun k=>impl_CountOf.l0 k acc x8 (x8.length:Int) (pre.length:Int)) (cntP acc suf)
  | [],pre,acc,e=>by
    refine Ev.step (f:=fun _=>some acc) (fun k=>?_) (Ev.now _)
    simp only[impl_CountOf.l0]
    rw[if_neg (by rw[←e];simp)]
  | y::suf,pre,acc,e=>by
    have h1:=h.1
    have hl:pre.length<x8.length:=by rw[←e];simp
    have hg:x8.getD pre.length z26=y:=by rw[←e];simp
    have hy:=(h.2 y (by rw[←e];simp)).2.2.1
    have ih:=implCount_l0 x8 h suf (pre++[y]) (cntC acc y.f2) (by rw[←e];simp)
    refine Ev.step (f:=fun k=>impl_CountOf.l1 k acc x8 (x8.length:Int) (pre.length:Int) y.f2 (y.f2.length:Int) ((([]:List S80).length:Nat):Int)) (fun k=>?_) (implCount_l1 x8 _ pre.length (by omega) y.f2 hy _ y.f2 [] acc rfl (by simpa [cntP] using ih))
    simp only[impl_CountOf.l0]
    rw[if_pos (by omega),if_pos (by omega),if_pos (by omega),rdnPart,hg]
    rfl
theorem implCountOf_ev (l:List S26) (h:l.length≤4000000∧∀y∈l,WiPart y):Ev (fun k=>impl_CountOf.f k l) (countOf l):=by
  unfold impl_CountOf.f countOf
  exact implCount_l0 l h l [] 0 rfl
theorem place_hit {α:Type} (p:α→Bool) (z:α):∀(l:List α) (i:Nat),0≤place p l i→∃j:Nat,place p l i=((i+j:Nat):Int)∧j<l.length∧p (l.getD j z)=true∧∀m,m<j→p (l.getD m z)=false
  | [],i,h=>by simp[place] at h
  | x::l,i,h=>by
    unfold place at h ⊢
    by_cases c:p x=true
    · rw[if_pos c] at h ⊢
      exact⟨0,rfl,by simp,by simpa using c,fun m hm=>by omega⟩
    · rw[if_neg c] at h ⊢
      obtain⟨j,e,h1,h2,h3⟩:=place_hit p z l (i+1) h
      refine⟨j+1,by rw[e];omega,by simpa using h1,by simpa using h2,fun m hm=>?_⟩
      cases m with
      | zero=>simpa using c
      | succ m=>simpa using h3 m (by omega)
theorem place_no {α:Type} (p:α→Bool) (z:α):∀(l:List α) (i:Nat),place p l i<0→∀m,m<l.length→p (l.getD m z)=false
  | [],i,_,m,hm=>by simp at hm
  | x::l,i,h,m,hm=>by
    unfold place at h
    by_cases c:p x=true
    · rw[if_pos c] at h;omega
    · rw[if_neg c] at h
      cases m with
      | zero=>simpa using c
      | succ m=>simpa using place_no p z l (i+1) h m (by simpa using hm)
theorem sameSet_self (a:List S99):sameSet a a=true:=by unfold sameSet;simp
theorem ba_toList {a b:ByteArray} (h:a.toList=b.toList):a=b:=ba_ext (by rw[←ByteArray.toList_eq,←ByteArray.toList_eq];exact h)
theorem lab_inj {x y:S99} (h:lab x=lab y):x=y:=by
  cases x;cases y
  simp only[lab,Prod.mk.injEq] at h
  rw[ba_toList h.1,ba_toList h.2]
theorem labs_inj:∀{a b:List S99},a.map lab=b.map lab→a=b
  | [],[],_=>rfl
  | [],_::_,h=>by simp at h
  | _::_,[],h=>by simp at h
  | x::a,y::b,h=>by
    simp only[List.map_cons,List.cons.injEq] at h
    rw[lab_inj h.1,labs_inj h.2]
theorem sameSet_iff {a b:List S99}:sameSet a b=true↔a=b:=⟨fun h=>labs_inj (of_decide_eq_true h),fun h=>by rw[h];exact sameSet_self b⟩
theorem sameSet_no {a b:List S99}:sameSet a b=false↔a≠b:=by
  constructor
  · intro h e
    rw[sameSet_iff.2 e] at h;cases h
  · intro h
    cases e:sameSet a b with
    | false=>rfl
    | true=>exact absurd (sameSet_iff.1 e) h
/-- A chain that is right. -/
def OkC (c:S80):Prop:=c.f1≠[]∧(∀a∈c.f1,alarmOk a=true∧fingerOf a.f0=c.f0)∧(c.f1.map (·.f0)).Nodup
/-- A part that is right, the i-th of n. -/
def OkP (i n:Int) (p:S26):Prop:=((-1≤p.f0∧p.f0≤4)∧0≤p.f1)∧(∀c∈p.f2,OkC c∧partOf c.f0 n=i)∧(p.f2.map (·.f0)).Pairwise (· < ·)
theorem bscan_true {p:Nat→Bool}:∀d i,(∀j,i≤j→j<i+d→p j=true)→bscan p d i=true
  | 0,i,_=>rfl
  | d+1,i,h=>by
    rw[bscan_succ,h i (Nat.le_refl _) (by omega),bscan_true d (i+1) (fun j h1 h2=>h j (by omega) (by omega))];rfl
theorem nodup_get {α:Type} (z:α):∀{l:List α} {i j:Nat},l.Nodup→i<j→j<l.length→l.getD i z≠l.getD j z
  | x::l,0,j+1,h,_,hj=>by
    have h1:=(List.nodup_cons.1 h).1
    intro e
    apply h1
    simp only[List.getD_cons_zero,List.getD_cons_succ] at e
    rw[e];exact getD_mem l j z (by simpa using hj)
  | x::l,i+1,j+1,h,hij,hj=>by
    simp only[List.getD_cons_succ]
    exact nodup_get z (List.nodup_cons.1 h).2 (by omega) (by simpa using hj)
theorem map_getD {α β:Type} (f:α→β) (z:α) (w:β) (l:List α) (i:Nat) (h:i<l.length):(l.map f).getD i w=f (l.getD i z):=by simp[List.getD_eq_getElem?_getD,h]
theorem okC_is {c:S80} (h:OkC c):chainOk c.f0 c.f1=true:=by
  obtain⟨h0,h1,h2⟩:=h
  have hp:0<c.f1.length:=List.length_pos_iff.2 h0
  unfold chainOk
  rw[decide_eq_true (show (c.f1.length:Int)>0 by omega),bscan_true _ _ (fun j _ hj=>?_),bscan_true _ _ (fun j _ hj=>?_)]
  · rfl
  · have:=h1 _ (getD_mem c.f1 j z29 (by omega))
    unfold cBit
    rw[this.1,decide_eq_true this.2];rfl
  · show (!earlyA c.f1 j)=true
    have:earlyA c.f1 j=false:=by
      unfold earlyA
      rw[List.any_eq_false]
      intro a ha
      obtain⟨m,hm,e⟩:=List.mem_take_iff_getElem.1 ha
      have hm':m<j∧m<c.f1.length:=by omega
      have hn:=nodup_get [] h2 (show m<j by omega) (by rw[List.length_map];omega)
      rw[map_getD (·.f0) z29 [] _ _ (by omega),map_getD (·.f0) z29 [] _ _ (by omega)] at hn
      have eg:c.f1.getD m z29=a:=by rw[←e];simp[List.getD_eq_getElem?_getD,hm'.2]
      rw[eg] at hn
      rw[Bool.not_eq_true,sameSet_no]
      exact hn
    rw[this];rfl
theorem pair_get (l:List Int) (h:l.Pairwise (· < ·)) (z:Int) (i j:Nat) (hij:i<j) (hj:j<l.length):l.getD i z<l.getD j z:=by
  have:=List.pairwise_iff_getElem.1 h i j (by omega) hj hij
  simpa [List.getD_eq_getElem?_getD,hj,show i<l.length by omega] using this
theorem okP_is {i n:Int} {p:S26} (h:OkP i n p):partIs p i n=true:=by
  obtain⟨⟨⟨h0,h1⟩,h2⟩,h3,h4⟩:=h
  unfold partIs
  rw[decide_eq_true h0,decide_eq_true h1,decide_eq_true (show p.f1≥0 from h2),bscan_true _ _ (fun j _ hj=>?_)]
  · rfl
  · have hj':j<p.f2.length:=by omega
    obtain⟨c1,c2⟩:=h3 _ (getD_mem p.f2 j z80 hj')
    unfold pBit
    rw[okC_is c1,decide_eq_true c2]
    by_cases hz:j=0
    · simp[hz]
    · have:=pair_get _ h4 0 (j-1) j (by omega) (by rw[List.length_map];exact hj')
      rw[map_getD (·.f0) z80 0 _ _ (by omega),map_getD (·.f0) z80 0 _ _ hj'] at this
      rw[decide_eq_true this];simp
theorem alarmOk_parts {a:S29}:alarmOk a=true↔setOk a.f0=true∧0<a.f0.length∧(0≤a.f1∧a.f1≤99999)∧(a.f1≤a.f2∧a.f2≤99999)∧plainOk a.f3=true:=by
  unfold alarmOk
  simp only[Bool.and_eq_true,decide_eq_true_eq,gt_iff_lt,Int.natCast_pos]
theorem mergeA_ok {a b:S29} (ha:alarmOk a=true) (hb:alarmOk b=true):alarmOk (mergeA a b)=true:=by
  obtain⟨_,_,⟨a1,a2⟩,_,_⟩:=alarmOk_parts.1 ha
  obtain⟨b0,b1,⟨b2,b3⟩,⟨b4,b5⟩,b6⟩:=alarmOk_parts.1 hb
  unfold mergeA
  split
  · split
    · refine alarmOk_parts.2 ⟨b0,b1,?_,?_,b6⟩
      · show 0≤mn a.f1 b.f1∧mn a.f1 b.f1≤99999;unfold mn;split<;>omega
      · show mn a.f1 b.f1≤b.f2∧b.f2≤99999;unfold mn;split<;>omega
    · exact hb
  · exact hb
theorem set_same {α:Type}:∀{l:List α} {i:Nat} {x:α},i<l.length→l.getD i x=x→l.set i x=l
  | y::l,0,x,_,e=>by simp at e;simp[e]
  | y::l,i+1,x,h,e=>by
    simp only[List.set_cons_succ]
    rw[set_same (by simpa using h) (by simpa using e)]
theorem labelsAt_pos {l:List S29} {s:List S99} (h:labelsAt l s≥0):∃j:Nat,labelsAt l s=(j:Int)∧j<l.length∧(l.getD j z29).f0=s:=by
  obtain⟨j,e,h1,h2,_⟩:=place_hit (fun x=>sameSet x.f0 s) z29 l 0 (by unfold labelsAt at h;omega)
  exact⟨j,by unfold labelsAt;rw[e];omega,h1,sameSet_iff.1 h2⟩
theorem labelsAt_no {l:List S29} {s:List S99} (h:¬labelsAt l s≥0):∀a∈l,a.f0≠s:=by
  intro a ha
  obtain⟨m,hm,e⟩:=List.mem_iff_getElem.1 ha
  have:=place_no (fun x=>sameSet x.f0 s) z29 l 0 (by unfold labelsAt at h;omega) m hm
  rw[show l.getD m z29=a by rw[←e];simp[List.getD_eq_getElem?_getD,hm]] at this
  exact sameSet_no.1 this
theorem nodup_snoc {α:Type} {l:List α} {x:α} (h:l.Nodup) (hx:x ∉ l):(l++[x]).Nodup:=by
  rw[List.nodup_append]
  refine⟨h,by simp,fun a ha b hb=>?_⟩
  rw[List.mem_singleton.1 hb]
  rintro rfl;exact hx ha
theorem putChain_ok {c:S80} {a:S29} (h:OkC c) (ha:alarmOk a=true) (hf:fingerOf a.f0=c.f0):OkC (putChain c a).1:=by
  obtain⟨h0,h1,h2⟩:=h
  unfold putChain
  by_cases k:labelsAt c.f1 a.f0≥0
  · rw[if_pos k]
    obtain⟨j,e,hj,es⟩:=labelsAt_pos k
    rw[e,Int.toNat_natCast]
    refine⟨fun x=>h0 (List.length_eq_zero_iff.1 (by have:=congrArg List.length x;simpa using this)),fun y hy=>?_,?_⟩
    · rcases List.mem_or_eq_of_mem_set hy with hy|rfl
      · exact h1 y hy
      · exact⟨mergeA_ok (h1 _ (getD_mem c.f1 j z29 hj)).1 ha,by rw[mergeA_f0];exact hf⟩
    · show ((c.f1.set j (mergeA (c.f1.getD j z29) a)).map (·.f0)).Nodup
      rw[List.map_set,mergeA_f0,set_same (by rw[List.length_map];exact hj) (by rw[map_getD (·.f0) z29 a.f0 _ _ hj];exact es)]
      exact h2
  · rw[if_neg k]
    refine⟨by simp,fun y hy=>?_,?_⟩
    · rcases List.mem_append.1 hy with hy|hy
      · exact h1 y hy
      · rw[List.mem_singleton.1 hy];exact⟨ha,hf⟩
    · show ((c.f1++[a]).map (·.f0)).Nodup
      rw[List.map_append]
      refine nodup_snoc h2 (fun hx=>?_)
      obtain⟨y,hy,e⟩:=List.mem_map.1 hx
      exact labelsAt_no k y hy e
theorem chainAt_pos {l:List S80} {f:Int} (h:chainAt l f≥0):∃j:Nat,chainAt l f=(j:Int)∧j<l.length∧(l.getD j z80).f0=f:=by
  obtain⟨j,e,h1,h2,_⟩:=place_hit (fun c:S80=>decide (c.f0=f)) z80 l 0 (by unfold chainAt at h;omega)
  exact⟨j,by unfold chainAt;rw[e];omega,h1,of_decide_eq_true h2⟩
theorem chainAt_no {l:List S80} {f:Int} (h:¬chainAt l f≥0):∀c∈l,c.f0≠f:=by
  intro c hc
  obtain⟨m,hm,e⟩:=List.mem_iff_getElem.1 hc
  have:=place_no (fun c:S80=>decide (c.f0=f)) z80 l 0 (by unfold chainAt at h;omega) m hm
  rw[show l.getD m z80=c by rw[←e];simp[List.getD_eq_getElem?_getD,hm]] at this
  simpa using this
/-- Where a chain goes in: what is ahead is less, what is behind is more. -/
theorem firstNot_split (f:Int):∀(l:List S80),(l.map (·.f0)).Pairwise (· < ·)→(∀c∈l,c.f0≠f) →
    (∀c∈l.take (firstNot (fun c:S80=>decide (c.f0<f)) l),c.f0<f)∧(∀c∈l.drop (firstNot (fun c:S80=>decide (c.f0<f)) l),f<c.f0)
  | [],_,_=>by simp
  | x::l,h,hn=>by
    rw[List.map_cons,List.pairwise_cons] at h
    unfold firstNot
    by_cases c:x.f0<f
    · rw[if_pos (decide_eq_true c)]
      obtain⟨i1,i2⟩:=firstNot_split f l h.2 (fun c hc=>hn c (List.mem_cons_of_mem _ hc))
      refine⟨fun y hy=>?_,fun y hy=>?_⟩
      · rw[List.take_succ_cons] at hy
        rcases List.mem_cons.1 hy with rfl|hy
        · exact c
        · exact i1 y hy
      · rw[List.drop_succ_cons] at hy
        exact i2 y hy
    · rw[if_neg (by simpa using c)]
      refine⟨fun y hy=>by simp at hy,fun y hy=>?_⟩
      have hx:=hn x List.mem_cons_self
      rw[List.drop_zero] at hy
      rcases List.mem_cons.1 hy with rfl|hy
      · omega
      · have:=h.1 y.f0 (List.mem_map.2 ⟨y,hy,rfl⟩);omega
theorem putIn_ok {i n:Int} {p:S26} {a:S29} (h:OkP i n p) (hv:p.f1≤1000000) (ha:alarmOk a=true) (hi:partOf (fingerOf a.f0) n=i):OkP i n (putIn p a).1:=by
  obtain⟨⟨h0,h2⟩,h3,h4⟩:=h
  have hw:wrap64 (p.f1+1)=p.f1+1:=wrap_id (by omega) (by omega)
  unfold putIn
  by_cases k:chainAt p.f2 (fingerOf a.f0)≥0
  · rw[if_pos k]
    obtain⟨j,e,hj,es⟩:=chainAt_pos k
    rw[e,Int.toNat_natCast]
    have hc:=h3 _ (getD_mem p.f2 j z80 hj)
    have hf:(putChain (p.f2.getD j z80) a).1.f0=(p.f2.getD j z80).f0:=by unfold putChain;split<;>rfl
    refine⟨⟨h0,by show 0≤wrap64 _;omega⟩,fun y hy=>?_,?_⟩
    · rcases List.mem_or_eq_of_mem_set hy with hy|rfl
      · exact h3 y hy
      · exact⟨putChain_ok hc.1 ha es.symm,by rw[hf];exact hc.2⟩
    · show ((p.f2.set j _).map (·.f0)).Pairwise _
      rw[List.map_set,hf,set_same (by rw[List.length_map];exact hj) (by rw[map_getD (·.f0) z80 _ _ _ hj])]
      exact h4
  · rw[if_neg k]
    obtain⟨s1,s2⟩:=firstNot_split (fingerOf a.f0) p.f2 h4 (chainAt_no k)
    have hsp:(p.f2.map (·.f0))=(p.f2.take (firstNot (fun c:S80=>decide (c.f0<fingerOf a.f0)) p.f2)).map (·.f0)++(p.f2.drop (firstNot (fun c:S80=>decide (c.f0<fingerOf a.f0)) p.f2)).map (·.f0):=by rw[←List.map_append,List.take_append_drop]
    rw[hsp,List.pairwise_append] at h4
    refine⟨⟨h0,by show 0≤wrap64 _;omega⟩,fun y hy=>?_,?_⟩
    · rcases insC_mem hy with hy|rfl
      · exact h3 y hy
      · refine⟨⟨by simp,fun z hz=>?_,by simp⟩,hi⟩
        rw[List.mem_singleton.1 hz];exact⟨ha,rfl⟩
    · show ((insC p.f2 (fingerOf a.f0) a _).map (·.f0)).Pairwise _
      unfold insC
      simp only[List.nil_append,List.map_append,List.map_cons,List.map_nil,List.append_assoc,List.singleton_append]
      rw[List.pairwise_append]
      refine⟨h4.1,List.pairwise_cons.2 ⟨fun x hx=>?_,h4.2.1⟩,fun x hx y hy=>?_⟩
      · obtain⟨c,hc,rfl⟩:=List.mem_map.1 hx
        exact s2 c hc
      · obtain⟨c,hc,rfl⟩:=List.mem_map.1 hx
        rcases List.mem_cons.1 hy with rfl|hy
        · exact s1 c hc
        · exact h4.2.2 _ hx _ hy
/-- A drawn chain, of so many alarms at most. -/
def ShortC (m:Nat) (c:S80):Prop:=c.f1.length≤m∧∀y∈c.f1,ShortA y
theorem shortC_up {m n:Nat} {c:S80} (h:ShortC m c) (hm:m≤n):ShortC n c:=⟨Nat.le_trans h.1 hm,h.2⟩
theorem shortC_wi {m:Nat} {c:S80} (h:ShortC m c) (hm:m≤1000):WiChain c:=⟨trivial,Nat.le_trans h.1 (Nat.le_trans hm (by decide)),fun y hy=>(h.2 y hy).2⟩
theorem mergeA_short {a b:S29} (h:ShortA b):ShortA (mergeA a b):=⟨by rw[mergeA_f0];exact h.1,mergeA_wi h.2⟩
theorem putChain_short {m:Nat} {c:S80} {a:S29} (h:ShortC m c) (ha:ShortA a):ShortC (m+1) (putChain c a).1:=by
  unfold putChain
  split
  · refine⟨by show (List.set _ _ _).length≤_;rw[List.length_set];exact Nat.le_trans h.1 (Nat.le_succ _),fun y hy=>?_⟩
    rcases List.mem_or_eq_of_mem_set hy with hy|rfl
    · exact h.2 y hy
    · exact mergeA_short ha
  · refine⟨by show (_++[_]).length≤_;rw[List.length_append,List.length_singleton];exact Nat.succ_le_succ h.1,fun y hy=>?_⟩
    rcases List.mem_append.1 hy with hy|hy
    · exact h.2 y hy
    · rw[List.mem_singleton.1 hy];exact ha
theorem putChain_more (c:S80) (a:S29):c.f1.length≤(putChain c a).1.f1.length∧1≤(putChain c a).1.f1.length∧(putChain c a).1.f0=c.f0:=by
  have hlt:=labelsAt_end c.f1 a.f0
  unfold putChain
  split
  · rename_i h
    have:=hlt h
    refine⟨by show _≤(List.set _ _ _).length;rw[List.length_set];exact Nat.le_refl _,by show _≤(List.set _ _ _).length;rw[List.length_set];omega,rfl⟩
  · refine⟨by show _≤(_++[_]).length;rw[List.length_append];omega,by show _≤(_++[_]).length;rw[List.length_append,List.length_singleton];omega,rfl⟩
/-- A drawn part, of so many chains at most. -/
def ShortP (m:Nat) (p:S26):Prop:=(-1≤p.f1∧p.f1≤m)∧p.f2.length≤m∧∀c∈p.f2,ShortC m c
theorem shortP_up {m n:Nat} {p:S26} (h:ShortP m p) (hm:m≤n):ShortP n p:=⟨⟨h.1.1,by have:=h.1.2;omega⟩,Nat.le_trans h.2.1 hm,fun c hc=>shortC_up (h.2.2 c hc) hm⟩
theorem shortP_wi {m:Nat} {p:S26} (h:ShortP m p) (hm:m≤1000):WiPart p:=⟨trivial,trivial,Nat.le_trans h.2.1 (Nat.le_trans hm (by decide)),fun c hc=>shortC_wi (h.2.2 c hc) hm⟩
theorem putIn_short {m:Nat} {p:S26} {a:S29} (hm:m≤1000) (h:ShortP m p) (ha:ShortA a):ShortP (m+1) (putIn p a).1:=by
  have hlt:=chainAt_end p.f2 (fingerOf a.f0)
  have h1:=h.1
  have hw:wrap64 (p.f1+1)=p.f1+1:=wrap_id (by omega) (by omega)
  unfold putIn
  by_cases c:chainAt p.f2 (fingerOf a.f0)≥0
  · rw[if_pos c]
    refine⟨⟨by show -1≤wrap64 _;omega,by show wrap64 _≤_;omega⟩,by show (List.set _ _ _).length≤_;rw[List.length_set];exact Nat.le_trans h.2.1 (Nat.le_succ _),fun y hy=>?_⟩
    rcases List.mem_or_eq_of_mem_set hy with hy|rfl
    · exact shortC_up (h.2.2 y hy) (Nat.le_succ _)
    · exact putChain_short (h.2.2 _ (getD_mem p.f2 (chainAt p.f2 (fingerOf a.f0)).toNat z80 (by have:=hlt c;omega))) ha
  · rw[if_neg c]
    refine⟨⟨by show -1≤wrap64 _;omega,by show wrap64 _≤_;omega⟩,by show (insC _ _ _ _).length≤_;rw[insC_length];exact Nat.succ_le_succ h.2.1,fun y hy=>?_⟩
    rcases insC_mem hy with hy|rfl
    · exact shortC_up (h.2.2 y hy) (Nat.le_succ _)
    · refine⟨by show (1:Nat)≤_;omega,fun z hz=>?_⟩
      rw[List.mem_singleton.1 hz];exact ha
theorem inC_len {m:Nat}:∀{l:List S80},(∀c∈l,ShortC m c)→(inC l).length≤l.length*m
  | [],_=>by simp[inC]
  | c::l,h=>by
    have h1:=inC_len (fun x hx=>h x (List.mem_cons_of_mem _ hx))
    have h2:=(h c List.mem_cons_self).1
    simp only[inC,List.length_append,List.length_cons,Nat.add_mul,Nat.one_mul];omega
theorem inC_short {m:Nat} {l:List S80} (h:∀c∈l,ShortC m c):∀y∈inC l,ShortA y:=fun y hy=>by
  obtain⟨c,hc,hy⟩:=inC_mem hy;exact(h c hc).2 y hy
section
variable (l:List Int) (hl:l.length≤1048576)
include hl
theorem dBelowAny (p s a:Int) (hp:0≤p) (h0:0<a):∃v p' s',spec_l1Below.f l p s a=some (v,p',s')∧0≤p'∧0≤v∧v<a:=by
  by_cases h1:a≤256
  · exact dBelow l hl p s a hp h0 h1
  · obtain⟨v1,p1,s1,e1,q1,a1,b1⟩:=dByte l hl p s hp
    obtain⟨v2,p2,s2,e2,q2,a2,b2⟩:=dByte l hl p1 s1 q1
    obtain⟨v3,p3,s3,e3,q3,a3,b3⟩:=dByte l hl p2 s2 q2
    have w1:wrap64 (v1*65536)=v1*65536:=wrap_id (by omega) (by omega)
    have w2:wrap64 (v2*256)=v2*256:=wrap_id (by omega) (by omega)
    have w3:wrap64 (v1*65536+v2*256)=v1*65536+v2*256:=wrap_id (by omega) (by omega)
    have w4:wrap64 (v1*65536+v2*256+v3)=v1*65536+v2*256+v3:=wrap_id (by omega) (by omega)
    refine⟨Int.tmod (v1*65536+v2*256+v3) a,p3,s3,?_,q3,Int.tmod_nonneg _ (by omega),Int.tmod_lt_of_pos _ h0⟩
    simp only[spec_l1Below.f]
    rw[if_neg (by omega),if_neg h1,e1,Option.bind_some,e2,Option.bind_some,e3,Option.bind_some,if_neg (by omega),w1,w2,w3,w4]
theorem dChain_l0:∀(n:Nat) (x:S29) (c:S80) (m:Nat) (p s:Int),0≤p→ShortA x→ShortC m c→m+n≤100 →
    ∃(r:S80) (p' s':Int),Ev (fun k=>spec_l6Draw.l0 k ((n:Int)-1) l p s x.f0 x.f1 x.f2 x.f3 c.f0 c.f1) (r.f0,r.f1,p',s')∧0≤p'∧ShortC (m+n) r∧c.f1.length≤r.f1.length∧(0<n→fingerOf x.f0=c.f0→1≤r.f1.length)
  | 0,x,c,m,p,s,hp,hx,hc,hn=>⟨c,p,s,⟨1,fun k hk=>by
    obtain⟨k,rfl⟩:∃j,k=j+1:=⟨k-1,by omega⟩
    simp only[spec_l6Draw.l0];rw[if_neg (by omega)]⟩,hp,hc,Nat.le_refl _,fun h=>by omega⟩
  | n+1,x,c,m,p,s,hp,hx,hc,hn=>by
    obtain⟨K0,g0⟩:=specFinger_ev x.f0 hx.2.1
    obtain⟨x',p1,s1,⟨K1,g1⟩,q1,w,w2,ht⟩:=dAlarm l hl p s hp
    have hx':ShortA x':=shortA_mk _ _ w (by decide) ht
    have e5:((n+1:Nat):Int)-1=(n:Int):=by omega
    have e6:wrap64 ((n:Int)-1)=(n:Int)-1:=wrap_id (by omega) (by omega)
    by_cases cf:fingerOf x.f0=c.f0
    · by_cases cl:(c.f1.length:Int)<4
      · obtain⟨K2,g2⟩:=specPutChain_ev c x (shortC_wi hc (by omega)) hx.2
        obtain⟨m1,m2,m3⟩:=putChain_more c x
        obtain⟨r,p',s',⟨K,g⟩,q,hr,hr2,-⟩:=dChain_l0 n x' (putChain c x).1 (m+1) p1 s1 q1 hx' (putChain_short hc hx) (by omega)
        refine⟨r,p',s',⟨K+K0+K1+K2+2,fun k hk=>?_⟩,q,by rwa [show m+(n+1)=m+1+n by omega],by omega,fun _ _=>by omega⟩
        obtain⟨k,rfl⟩:∃j,k=j+2:=⟨k-2,by omega⟩
        have e:=g k (by omega)
        have e0:=g0 (k+1) (by omega)
        have e1:=g1 k (by omega)
        have e2:=g2 k (by omega)
        simp only at e e0 e1 e2
        show spec_l6Draw.l0 (k+1+1) _ _ _ _ _ _ _ _ _ _=_
        rw[e5]
        unfold spec_l6Draw.l0
        rw[if_pos (by omega),e0,Option.bind_some,if_pos cf,decide_eq_true cl]
        unfold spec_l6Draw.j1
        rw[if_pos rfl,e2,Option.bind_some,e1,Option.bind_some,e6]
        exact e
      · obtain⟨r,p',s',⟨K,g⟩,q,hr,hr2,-⟩:=dChain_l0 n x' c m p1 s1 q1 hx' hc (by omega)
        refine⟨r,p',s',⟨K+K0+K1+2,fun k hk=>?_⟩,q,shortC_up hr (by omega),hr2,fun _ _=>by omega⟩
        obtain⟨k,rfl⟩:∃j,k=j+2:=⟨k-2,by omega⟩
        have e:=g k (by omega)
        have e0:=g0 (k+1) (by omega)
        have e1:=g1 k (by omega)
        simp only at e e0 e1
        show spec_l6Draw.l0 (k+1+1) _ _ _ _ _ _ _ _ _ _=_
        rw[e5]
        unfold spec_l6Draw.l0
        rw[if_pos (by omega),e0,Option.bind_some,if_pos cf,decide_eq_false cl]
        unfold spec_l6Draw.j1
        rw[if_neg (by decide),e1,Option.bind_some,e6]
        exact e
    · obtain⟨r,p',s',⟨K,g⟩,q,hr,hr2,-⟩:=dChain_l0 n x' c m p1 s1 q1 hx' hc (by omega)
      refine⟨r,p',s',⟨K+K0+K1+2,fun k hk=>?_⟩,q,shortC_up hr (by omega),hr2,fun _ h=>absurd h cf⟩
      obtain⟨k,rfl⟩:∃j,k=j+2:=⟨k-2,by omega⟩
      have e:=g k (by omega)
      have e0:=g0 (k+1) (by omega)
      have e1:=g1 k (by omega)
      simp only at e e0 e1
      show spec_l6Draw.l0 (k+1+1) _ _ _ _ _ _ _ _ _ _=_
      rw[e5]
      unfold spec_l6Draw.l0
      rw[if_pos (by omega),e0,Option.bind_some,if_neg cf]
      unfold spec_l6Draw.j1
      rw[if_neg (by decide),e1,Option.bind_some,e6]
      exact e
theorem dChain (p s:Int) (hp:0≤p):∃(r:S80) (p' s':Int),Ev (fun k=>spec_l6Draw.f k l p s) (r.f0,r.f1,p',s')∧0≤p'∧ShortC 30 r∧1≤r.f1.length:=by
  obtain⟨x,p1,s1,⟨K1,g1⟩,q1,w,w2,ht⟩:=dAlarm l hl p s hp
  have hx:ShortA x:=shortA_mk _ _ w (by decide) ht
  obtain⟨K0,g0⟩:=specFinger_ev x.f0 hx.2.1
  obtain⟨b,p2,s2,e2,q2,b0,b1⟩:=dBelow l hl p1 s1 30 q1 (by decide) (by decide)
  obtain⟨n,rfl⟩:∃n:Nat,b=((n+1:Nat):Int)-1:=⟨b.toNat,by omega⟩
  obtain⟨r,p',s',⟨K,g⟩,q,hr,-,hr2⟩:=dChain_l0 l hl (n+1) x ⟨fingerOf x.f0,[]⟩ 0 p2 s2 q2 hx ⟨by simp,fun y hy=>by cases hy⟩ (by omega)
  refine⟨r,p',s',⟨K+K0+K1,fun k hk=>?_⟩,q,shortC_up hr (by omega),hr2 (by omega) rfl⟩
  have e:=g k (by omega)
  have e0:=g0 k (by omega)
  have e1:=g1 k (by omega)
  simp only at e e0 e1
  simp only[spec_l6Draw.f,e1,Option.bind_some,e0,e2]
  exact e
theorem dAnyChain (p s:Int) (hp:0≤p):∃(r:S80) (p' s':Int),Ev (fun k=>spec_l6Any.f k l p s) (r.f0,r.f1,p',s')∧0≤p'∧ShortC 31 r:=by
  obtain⟨r,p1,s1,⟨K,g⟩,q1,w,w1⟩:=dChain l hl p s hp
  obtain⟨b,p2,s2,e2,q2,_,_⟩:=dBelow l hl p1 s1 8 q1 (by decide) (by decide)
  have lr:=w.1
  by_cases c0:b=0
  · obtain⟨v,p3,s3,e3,q3,_,_⟩:=dBelow l hl p2 s2 33 q2 (by decide) (by decide)
    refine⟨⟨v,r.f1⟩,p3,s3,⟨K,fun k hk=>?_⟩,q3,⟨Nat.le_trans lr (by decide),w.2⟩⟩
    have e:=g k hk
    simp only at e
    simp only[spec_l6Any.f,e,Option.bind_some,e2,if_pos c0,e3]
  by_cases c1:b=1
  · obtain⟨a,p3,s3,⟨K3,g3⟩,q3,ha⟩:=dAnyAlarm l hl p2 s2 q2
    refine⟨⟨r.f0,r.f1++[a]⟩,p3,s3,⟨K+K3,fun k hk=>?_⟩,q3,⟨by simp only[List.length_append,List.length_singleton];omega,fun y hy=>?_⟩⟩
    · have e:=g k (by omega)
      have e3:=g3 k (by omega)
      simp only at e e3
      simp only[spec_l6Any.f,e,Option.bind_some,e2,if_neg c0,if_pos c1,e3]
      rw[if_pos (by omega)]
    · rcases List.mem_append.1 hy with h|h
      · exact w.2 y h
      · rw[List.mem_singleton.1 h];exact ha
  by_cases c2:b=2
  · have h0:=w.2 _ (getD_mem r.f1 0 z29 (by omega))
    have er:rd_T29 r.f1 0=r.f1.getD 0 z29:=by unfold rd_T29;simp
    refine⟨⟨r.f0,r.f1++[r.f1.getD 0 z29]⟩,p2,s2,⟨K,fun k hk=>?_⟩,q2,⟨by simp only[List.length_append,List.length_singleton];omega,fun y hy=>?_⟩⟩
    · have e:=g k hk
      simp only at e
      simp only[spec_l6Any.f,e,Option.bind_some,e2,if_neg c0,if_neg c1,if_pos c2]
      rw[if_pos (by omega),er,specL4Copy_ev _ (Nat.le_trans h0.1 (by decide)),Option.bind_some,if_pos (by omega)]
    · rcases List.mem_append.1 hy with h|h
      · exact w.2 y h
      · rw[List.mem_singleton.1 h];exact h0
  by_cases c3:b=3
  · refine⟨⟨r.f0,[]⟩,p2,s2,⟨K,fun k hk=>?_⟩,q2,⟨by simp,fun y hy=>by cases hy⟩⟩
    have e:=g k hk
    simp only at e
    simp only[spec_l6Any.f,e,Option.bind_some,e2,if_neg c0,if_neg c1,if_neg c2,if_pos c3]
  · refine⟨r,p2,s2,⟨K,fun k hk=>?_⟩,q2,shortC_up w (by decide)⟩
    have e:=g k hk
    simp only at e
    simp only[spec_l6Any.f,e,Option.bind_some,e2,if_neg c0,if_neg c1,if_neg c2,if_neg c3]
theorem dPart_l0 (i N:Int):∀(n:Nat) (t:S26) (m:Nat) (p s:Int),0≤p→ShortP m t→m+n≤100 →
    ∃(r:S26) (p' s':Int),Ev (fun k=>spec_l7Draw.l0 k i N (n:Int) l p s t.f0 t.f1 t.f2) (r.f0,r.f1,r.f2,p',s')∧0≤p'∧ShortP (m+n) r
  | 0,t,m,p,s,hp,ht,hn=>⟨t,p,s,⟨1,fun k hk=>by
    obtain⟨k,rfl⟩:∃j,k=j+1:=⟨k-1,by omega⟩
    simp only[spec_l7Draw.l0];rw[if_neg (by omega)]⟩,hp,ht⟩
  | n+1,t,m,p,s,hp,ht,hn=>by
    obtain⟨x,p1,s1,⟨K1,g1⟩,q1,w,w2,htx⟩:=dAlarm l hl p s hp
    have hx:ShortA x:=shortA_mk _ _ w (by decide) htx
    obtain⟨K0,g0⟩:=specFinger_ev x.f0 hx.2.1
    have e6:wrap64 (((n+1:Nat):Int)-1)=(n:Int):=by rw[wrap_id (by omega) (by omega)];omega
    by_cases cf:partOf (fingerOf x.f0) N=i
    · obtain⟨K2,g2⟩:=specPutIn_ev t x (shortP_wi ht (by omega)) hx.2
      obtain⟨r,p',s',⟨K,g⟩,q,hr⟩:=dPart_l0 i N n (putIn t x).1 (m+1) p1 s1 q1 (putIn_short (by omega) ht hx) (by omega)
      refine⟨r,p',s',⟨K+K0+K1+K2+1,fun k hk=>?_⟩,q,by rwa [show m+(n+1)=m+1+n by omega]⟩
      obtain⟨k,rfl⟩:∃j,k=j+1:=⟨k-1,by omega⟩
      have e:=g k (by omega)
      have e0:=g0 k (by omega)
      have e1:=g1 k (by omega)
      have e2:=g2 k (by omega)
      simp only at e e0 e1 e2
      simp only[spec_l7Draw.l0]
      rw[if_pos (by omega),e1,Option.bind_some,e0,Option.bind_some,specPartOf_is,Option.bind_some,if_pos cf,e2,Option.bind_some,e6]
      exact e
    · obtain⟨r,p',s',⟨K,g⟩,q,hr⟩:=dPart_l0 i N n t m p1 s1 q1 ht (by omega)
      refine⟨r,p',s',⟨K+K0+K1+1,fun k hk=>?_⟩,q,shortP_up hr (by omega)⟩
      obtain⟨k,rfl⟩:∃j,k=j+1:=⟨k-1,by omega⟩
      have e:=g k (by omega)
      have e0:=g0 k (by omega)
      have e1:=g1 k (by omega)
      simp only at e e0 e1
      simp only[spec_l7Draw.l0]
      rw[if_pos (by omega),e1,Option.bind_some,e0,Option.bind_some,specPartOf_is,Option.bind_some,if_neg cf,e6]
      exact e
theorem dPart (p s i N:Int) (hp:0≤p):∃(r:S26) (p' s':Int),Ev (fun k=>spec_l7Draw.f k l p s i N) (r.f0,r.f1,r.f2,p',s')∧0≤p'∧ShortP 7 r:=by
  obtain⟨b,p2,s2,e2,q2,b0,b1⟩:=dBelow l hl p s 8 hp (by decide) (by decide)
  obtain⟨n,rfl⟩:∃n:Nat,b=(n:Int):=⟨b.toNat,by omega⟩
  obtain⟨r,p',s',⟨K,g⟩,q,hr⟩:=dPart_l0 l hl i N n ⟨-1,0,[]⟩ 0 p2 s2 q2 ⟨⟨by show (-1:Int)≤0;decide,Int.le_refl _⟩,Nat.le_refl _,fun c hc=>by cases hc⟩ (by omega)
  refine⟨r,p',s',⟨K,fun k hk=>?_⟩,q,shortP_up hr (by omega)⟩
  have e:=g k hk
  simp only at e
  simp only[spec_l7Draw.f,e2,Option.bind_some]
  exact e
theorem dAnyPart (p s i N:Int) (hp:0≤p):∃(r:S26) (p' s':Int),Ev (fun k=>spec_l7Any.f k l p s i N) (r.f0,r.f1,r.f2,p',s')∧0≤p'∧ShortP 40 r:=by
  obtain⟨r,p1,s1,⟨K,g⟩,q1,w⟩:=dPart l hl p s i N hp
  obtain⟨b,p2,s2,e2,q2,_,_⟩:=dBelow l hl p1 s1 12 q1 (by decide) (by decide)
  have w40:=shortP_up w (show 7≤40 by decide)
  have lr:=w.2.1
  by_cases c0:b=0
  · obtain⟨v,p3,s3,e3,q3,_⟩:=dInt l hl p2 s2 [-2,4,5] q2 (by decide) (by decide)
    refine⟨⟨v,r.f1,r.f2⟩,p3,s3,⟨K,fun k hk=>?_⟩,q3,w40⟩
    have e:=g k hk
    simp only at e
    simp only[spec_l7Any.f,e,Option.bind_some,e2,if_pos c0,e3]
  by_cases c1:b=1
  · refine⟨⟨r.f0,-1,r.f2⟩,p2,s2,⟨K,fun k hk=>?_⟩,q2,⟨⟨Int.le_refl _,by show (-1:Int)≤_;omega⟩,w40.2⟩⟩
    have e:=g k hk
    simp only at e
    simp only[spec_l7Any.f,e,Option.bind_some,e2,if_neg c0,if_pos c1]
  by_cases c2:b=2
  · obtain⟨a,p3,s3,⟨K3,g3⟩,q3,ha⟩:=dAnyChain l hl p2 s2 q2
    refine⟨⟨r.f0,r.f1,r.f2++[a]⟩,p3,s3,⟨K+K3,fun k hk=>?_⟩,q3,⟨w40.1,by simp only[List.length_append,List.length_singleton];omega,fun y hy=>?_⟩⟩
    · have e:=g k (by omega)
      have e3:=g3 k (by omega)
      simp only at e e3
      simp only[spec_l7Any.f,e,Option.bind_some,e2,if_neg c0,if_neg c1,if_pos c2,e3]
      rw[if_pos (by omega)]
    · rcases List.mem_append.1 hy with h|h
      · exact w40.2.2 y h
      · rw[List.mem_singleton.1 h];exact shortC_up ha (by decide)
  by_cases c3:b=3
  · by_cases c4:(r.f2.length:Int)>0
    · have h0:=w.2.2 _ (getD_mem r.f2 0 z80 (by omega))
      have er:rd_T80 r.f2 0=r.f2.getD 0 z80:=by unfold rd_T80;simp
      obtain⟨K3,g3⟩:=specL4All_ev (r.f2.getD 0 z80).f1 (Nat.le_trans h0.1 (by decide)) (fun y hy=>Nat.le_trans (h0.2 y hy).1 (by decide))
      refine⟨⟨r.f0,r.f1,r.f2++[r.f2.getD 0 z80]⟩,p2,s2,⟨K+K3,fun k hk=>?_⟩,q2,⟨w40.1,by simp only[List.length_append,List.length_singleton];omega,fun y hy=>?_⟩⟩
      · have e:=g k (by omega)
        have e3:=g3 k (by omega)
        simp only at e e3
        simp only[spec_l7Any.f,e,Option.bind_some,e2,if_neg c0,if_neg c1,if_neg c2,if_pos c3,if_pos c4]
        rw[er]
        simp only[spec_l6Copy.f,e3,Option.bind_some]
        rw[if_pos (by omega)]
      · rcases List.mem_append.1 hy with h|h
        · exact w40.2.2 y h
        · rw[List.mem_singleton.1 h];exact shortC_up h0 (by decide)
    · refine⟨r,p2,s2,⟨K,fun k hk=>?_⟩,q2,w40⟩
      have e:=g k hk
      simp only at e
      simp only[spec_l7Any.f,e,Option.bind_some,e2,if_neg c0,if_neg c1,if_neg c2,if_pos c3,if_neg c4]
  · refine⟨r,p2,s2,⟨K,fun k hk=>?_⟩,q2,w40⟩
    have e:=g k hk
    simp only at e
    simp only[spec_l7Any.f,e,Option.bind_some,e2,if_neg c0,if_neg c1,if_neg c2,if_neg c3]
/-- Labels of an alarm of the row, or drawn ones. -/
theorem dPick (p s:Int) (la:List S29) (hp:0≤p) (ha:∀y∈la,ShortA y) (hn:la.length≤4000000):∃r p' s',Ev (fun k=>spec_l7Labels.f k l p s la) (r,p',s')∧0≤p'∧ShortL 100 r:=by
  have draw:∀p s:Int,0≤p→∃r p' s',Ev (fun k=>spec_l7Labels.j0 k la false l p s) (r,p',s')∧0≤p'∧ShortL 100 r:=fun p s hp=>by
    obtain⟨r,p1,s1,⟨K,g⟩,q1,w,_⟩:=dLabels l hl p s hp
    refine⟨r,p1,s1,⟨K+1,fun k hk=>?_⟩,q1,shortL_up w (by decide)⟩
    obtain⟨k,rfl⟩:∃j,k=j+1:=⟨k-1,by omega⟩
    have e:=g k (by omega)
    simp only at e
    simp only[spec_l7Labels.j0]
    rw[if_neg (by decide),e,Option.bind_some]
  by_cases c:(la.length:Int)>0
  · obtain⟨b,p1,s1,e1,q1⟩:=dOnce l hl p s 3 hp (by decide) (by decide)
    cases b with
    | true=>
      obtain⟨r,p',s',⟨K,g⟩,q,w⟩:=draw p1 s1 q1
      refine⟨r,p',s',⟨K,fun k hk=>?_⟩,q,w⟩
      have e:=g k hk
      simp only at e
      simp only[spec_l7Labels.f,if_pos c,e1,Option.bind_some,Bool.not_true]
      exact e
    | false=>
      obtain⟨v,p2,s2,e2,q2,v0,v1⟩:=dBelowAny l hl p1 s1 (la.length:Int) q1 (by omega)
      have hv:=ha _ (getD_mem la v.toNat z29 (by omega))
      have er:rd_T29 la v=la.getD v.toNat z29:=by unfold rd_T29;rfl
      have hvl:=hv.1
      refine⟨(la.getD v.toNat z29).f0,p2,s2,⟨1,fun k hk=>?_⟩,q2,⟨hv.1,hv.2.1.2⟩⟩
      obtain⟨k,rfl⟩:∃j,k=j+1:=⟨k-1,by omega⟩
      simp only[spec_l7Labels.f,if_pos c,e1,Option.bind_some,Bool.not_false,spec_l7Labels.j0,if_true,e2,er,List.nil_append,List.length_nil]
      rw[if_pos v0,if_pos v1,if_pos (by omega)]
  · obtain⟨r,p',s',⟨K,g⟩,q,w⟩:=draw p s hp
    refine⟨r,p',s',⟨K,fun k hk=>?_⟩,q,w⟩
    have e:=g k hk
    simp only at e
    simp only[spec_l7Labels.f,if_neg c]
    exact e
end
/-- A store that is right. -/
def OkS (l:List S26):Prop:=(1≤l.length∧l.length≤3)∧∀i,i<l.length→OkP (i:Int) (l.length:Int) (l.getD i z26)
theorem okS_is {l:List S26} (h:OkS l):storeIs l=true:=by
  unfold storeIs
  rw[decide_eq_true (show 1≤(l.length:Int) by have:=h.1.1;omega),decide_eq_true (show (l.length:Int)≤3 by have:=h.1.2;omega),bscan_true _ _ (fun j _ hj=>?_)]
  · rfl
  · unfold sBit
    exact okP_is (h.2 j (by omega))
theorem home_nat {l:List S26} (s:List S99) (h:1≤l.length):∃j:Nat,homeOf l s=(j:Int)∧j<l.length:=by
  obtain⟨a,b⟩:=homeOf_range l s (by omega)
  exact⟨(homeOf l s).toNat,by omega,by omega⟩
theorem putAlarm_is {l:List S26} {a:S29} {j:Nat} (h:1≤l.length) (e:homeOf l a.f0=(j:Int)):putAlarm l a=(l.set j (putIn (l.getD j z26) a).1,(putIn (l.getD j z26) a).2):=by
  unfold putAlarm
  rw[if_neg (by omega),e,Int.toNat_natCast]
theorem getD_set_same {α:Type} (z:α) {l:List α} {j:Nat} (x:α) (h:j<l.length):(l.set j x).getD j z=x:=by simp[List.getD_eq_getElem?_getD,h]
theorem getD_set_other {α:Type} (z:α) {l:List α} {i j:Nat} (x:α) (h:j≠i):(l.set j x).getD i z=l.getD i z:=by
  simp only[List.getD_eq_getElem?_getD];rw[List.getElem?_set_ne h]
theorem putAlarm_ok {l:List S26} {a:S29} (h:OkS l) (hv:∀p∈l,p.f1≤1000000) (ha:alarmOk a=true):OkS (putAlarm l a).1:=by
  obtain⟨j,e,hj⟩:=home_nat a.f0 h.1.1
  rw[putAlarm_is h.1.1 e]
  refine⟨by rw[List.length_set];exact h.1,fun i hi=>?_⟩
  rw[List.length_set] at hi ⊢
  by_cases c:j=i
  · subst c
    rw[getD_set_same z26 _ hj]
    exact putIn_ok (h.2 j hj) (hv _ (getD_mem l j z26 hj)) ha (by unfold homeOf at e;exact e)
  · rw[getD_set_other z26 _ c]
    exact h.2 i hi
theorem cntC_is:∀(cs:List S80) (acc:Int),0≤acc→acc+(inC cs).length≤1000000000→cntC acc cs=acc+(inC cs).length
  | [],acc,_,_=>by simp[cntC,inC]
  | c::cs,acc,h0,h=>by
    have hl:(inC (c::cs)).length=c.f1.length+(inC cs).length:=by show (c.f1++inC cs).length=_;rw[List.length_append]
    rw[hl] at h ⊢
    show cntC (wrap64 (acc+c.f1.length)) cs=_
    rw[wrap_id (by omega) (by omega),cntC_is cs _ (by omega) (by omega)]
    omega
theorem cntP_is:∀(ps:List S26) (acc:Int),0≤acc→acc+(inS ps).length≤1000000000→cntP acc ps=acc+(inS ps).length
  | [],acc,_,_=>by simp[cntP,inS]
  | p::ps,acc,h0,h=>by
    have hl:(inS (p::ps)).length=(inC p.f2).length+(inS ps).length:=by show (inC p.f2++inS ps).length=_;rw[List.length_append]
    rw[hl] at h ⊢
    show cntP (cntC acc p.f2) ps=_
    rw[cntC_is p.f2 acc h0 (by omega),cntP_is ps _ (by omega) (by omega)]
    omega
/-- A drawn store. -/
def ShortS (m:Nat) (l:List S26):Prop:=l.length≤3∧∀p∈l,ShortP m p
theorem shortS_wi {m:Nat} {l:List S26} (h:ShortS m l) (hm:m≤1000):l.length≤4000000∧∀y∈l,WiPart y:=⟨Nat.le_trans h.1 (by decide),fun p hp=>shortP_wi (h.2 p hp) hm⟩
theorem putAlarm_short {m:Nat} {l:List S26} {a:S29} (hm:m≤1000) (h:ShortS m l) (h1:1≤l.length) (ha:ShortA a):ShortS (m+1) (putAlarm l a).1:=by
  obtain⟨j,e,hj⟩:=home_nat a.f0 h1
  rw[putAlarm_is h1 e]
  refine⟨by rw[List.length_set];exact h.1,fun p hp=>?_⟩
  rcases List.mem_or_eq_of_mem_set hp with hp|rfl
  · exact shortP_up (h.2 p hp) (Nat.le_succ _)
  · exact putIn_short hm (h.2 _ (getD_mem l j z26 hj)) ha
theorem inS_len {m:Nat}:∀{l:List S26},(∀p∈l,ShortP m p)→(inS l).length≤l.length*(m*m)
  | [],_=>by simp[inS]
  | p::l,h=>by
    have h1:=inS_len (fun x hx=>h x (List.mem_cons_of_mem _ hx))
    have h2:=h p List.mem_cons_self
    have h3:=inC_len h2.2.2
    have h4:=Nat.mul_le_mul_right m h2.2.1
    show (inC p.f2++inS l).length≤_
    simp only[List.length_append,List.length_cons,Nat.add_mul,Nat.one_mul];omega
section
variable (l:List Int) (hl:l.length≤1048576)
include hl
/-- What may follow of the labels: each is left out, or has one of two values. -/
def labTails:List ByteArray→List (List S99)
  | []=>[[]]
  | n::m=>labTails m++((labTails m).map ((⟨n,⟨#[49]⟩⟩:S99)::·)++(labTails m).map ((⟨n,⟨#[50]⟩⟩:S99)::·))
theorem dTails_l0 (m:List ByteArray) (hm:m.length≤100):∀(suf pre:List ByteArray) (x:List S99) (p s:Int),0≤p→m=pre++suf→x.length+suf.length≤100 →
    ∃r p' s',Ev (fun k=>spec_l2Draw.l0 k x m (m.length:Int) (pre.length:Int) l p s) (r,p',s')∧0≤p'∧∃t∈labTails suf,r=x++t
  | [],pre,x,p,s,hp,hm2,hx=>⟨x,p,s,⟨1,fun k hk=>by
    obtain⟨k,rfl⟩:∃j,k=j+1:=⟨k-1,by omega⟩
    simp only[spec_l2Draw.l0];rw[if_neg (by rw[hm2];simp)]⟩,hp,[],by simp[labTails],by simp⟩
  | n::suf,pre,x,p,s,hp,hm2,hx=>by
    have hlen:m.length=pre.length+(suf.length+1):=by rw[hm2];simp
    have c:(pre.length:Int)<(m.length:Int):=by omega
    have er:rdOf ByteArray.empty m (pre.length:Int)=n:=by rw[hm2];unfold rdOf;simp
    have eN:((pre.length+1:Nat):Int)=((pre++[n]).length:Int):=by simp
    obtain⟨v,p1,s1,e1,q1⟩:=dOnce l hl p s 4 hp (by decide) (by decide)
    cases v with
    | true=>
      obtain⟨u,p2,s2,e2,q2,u2⟩:=dStr l hl p1 s1 [(⟨#[49]⟩:ByteArray),(⟨#[50]⟩:ByteArray)] q1 (by decide) (by decide)
      obtain⟨r,p',s',⟨K,g⟩,q,t,ht,et⟩:=dTails_l0 m hm suf (pre++[n]) (x++[(⟨n,u⟩:S99)]) p2 s2 q2 (by rw[hm2];simp) (by simp only[List.length_append,List.length_singleton];simp only[List.length_cons] at hx;omega)
      refine⟨r,p',s',⟨K+1,fun k hk=>?_⟩,q,(⟨n,u⟩:S99)::t,?_,by rw[et];simp⟩
      · obtain⟨k,rfl⟩:∃j,k=j+1:=⟨k-1,by omega⟩
        have e:=g k (by omega)
        simp only at e
        simp only[spec_l2Draw.l0]
        rw[if_pos c,if_pos (by omega),if_pos c,e1]
        simp only[Option.bind_some,if_true]
        rw[e2]
        simp only[Option.bind_some]
        simp only[List.length_cons] at hx
        rw[if_pos (by omega),wrap_up _ (by omega),er,eN,e]
      · have:u=⟨#[49]⟩∨u=⟨#[50]⟩:=by simpa using u2
        rcases this with rfl|rfl
        · exact List.mem_append.2 (.inr (List.mem_append.2 (.inl (List.mem_map.2 ⟨t,ht,rfl⟩))))
        · exact List.mem_append.2 (.inr (List.mem_append.2 (.inr (List.mem_map.2 ⟨t,ht,rfl⟩))))
    | false=>
      obtain⟨r,p',s',⟨K,g⟩,q,t,ht,et⟩:=dTails_l0 m hm suf (pre++[n]) x p1 s1 q1 (by rw[hm2];simp) (by simp only[List.length_cons] at hx;omega)
      refine⟨r,p',s',⟨K+1,fun k hk=>?_⟩,q,t,List.mem_append.2 (.inl ht),et⟩
      obtain⟨k,rfl⟩:∃j,k=j+1:=⟨k-1,by omega⟩
      have e:=g k (by omega)
      simp only at e
      simp only[spec_l2Draw.l0]
      simp only[List.length_cons] at hx
      rw[if_pos c,if_pos (by omega),if_pos c,e1]
      simp only[Option.bind_some,Bool.false_eq_true,if_false]
      rw[wrap_up _ (by omega),eN,e]
omit hl in
theorem labs_ok:∀u∈[(⟨#[97]⟩:ByteArray),(⟨#[98]⟩:ByteArray),(⟨#[99]⟩:ByteArray)],∀t∈labTails [(⟨#[104,111,115,116]⟩:ByteArray),(⟨#[115,101,118]⟩:ByteArray),(⟨#[122,111,110,101]⟩:ByteArray)],
    setOk ((⟨⟨#[97,112,112]⟩,u⟩:S99)::t)=true:=by decide +kernel
theorem dLabelsOk (p s:Int) (hp:0≤p):∃r p' s',Ev (fun k=>spec_l2Draw.f k l p s) (r,p',s')∧0≤p'∧ShortL 4 r∧1≤r.length∧setOk r=true:=by
  obtain⟨u,p1,s1,e1,q1,u1⟩:=dStr l hl p s [(⟨#[97]⟩:ByteArray),(⟨#[98]⟩:ByteArray),(⟨#[99]⟩:ByteArray)] hp (by decide) (by decide)
  obtain⟨r,p',s',⟨K,g⟩,q,t,ht,et⟩:=dTails_l0 l hl [(⟨#[104,111,115,116]⟩:ByteArray),(⟨#[115,101,118]⟩:ByteArray),(⟨#[122,111,110,101]⟩:ByteArray)] (by decide) [(⟨#[104,111,115,116]⟩:ByteArray),(⟨#[115,101,118]⟩:ByteArray),(⟨#[122,111,110,101]⟩:ByteArray)] [] [(⟨(⟨#[97,112,112]⟩:ByteArray),u⟩:S99)] p1 s1 q1 rfl (by simp)
  have hE:Ev (fun k=>spec_l2Draw.f k l p s) (r,p',s'):=⟨K,fun k hk=>by
    have e:=g k hk
    simp only at e
    simp only[spec_l2Draw.f,e1,Option.bind_some]
    exact e⟩
  obtain⟨r',p2,s2,h2,_,w,w2⟩:=dLabels l hl p s hp
  have eu:=Ev.uniq hE h2
  simp only[Prod.mk.injEq] at eu
  refine⟨r,p',s',hE,q,by rw[eu.1];exact w,by rw[eu.1];exact w2,?_⟩
  rw[et]
  exact labs_ok u u1 t ht
omit hl in
theorem plains_ok:∀v∈[(⟨#[97]⟩:ByteArray),(⟨#[98]⟩:ByteArray),(⟨#[120,32,121]⟩:ByteArray),(⟨#[]⟩:ByteArray),(⟨#[99,114,105,116]⟩:ByteArray),(⟨#[125,45]⟩:ByteArray)],v.size≤4000000∧plainOk v=true:=by decide +kernel
/-- A drawn alarm is right. -/
theorem dAlarmOk (p s:Int) (hp:0≤p):∃(a:S29) (p' s':Int),Ev (fun k=>spec_l4Draw.f k l p s) (a.f0,a.f1,a.f2,a.f3,p',s')∧0≤p'∧ShortA a∧alarmOk a=true:=by
  obtain⟨r,p1,s1,⟨K,g⟩,q1,w,w2,w3⟩:=dLabelsOk l hl p s hp
  obtain⟨b,p2,s2,e2,q2,b0,b1⟩:=dBelow l hl p1 s1 8 q1 (by decide) (by decide)
  obtain⟨t,p3,s3,e3,q3,ht⟩:=dStr l hl p2 s2 [(⟨#[97]⟩:ByteArray),(⟨#[98]⟩:ByteArray),(⟨#[120,32,121]⟩:ByteArray),(⟨#[]⟩:ByteArray),(⟨#[99,114,105,116]⟩:ByteArray),(⟨#[125,45]⟩:ByteArray)] q2 (by decide) (by decide)
  obtain⟨t1,t2⟩:=plains_ok t ht
  obtain⟨c,p4,s4,e4,q4,hc⟩:=dInt l hl p3 s3 [0,2,5,20,60] q3 (by decide) (by decide)
  have hc2:0≤c∧c≤60:=by
    have:c=0∨c=2∨c=5∨c=20∨c=60:=by simpa using hc
    omega
  have hw:wrap64 (b+c)=b+c:=wrap_id (by omega) (by omega)
  refine⟨⟨r,b,wrap64 (b+c),t⟩,p4,s4,⟨K,fun k hk=>?_⟩,q4,shortA_mk _ _ w (by decide) t1,?_⟩
  · have e:=g k hk
    simp only at e
    simp only[spec_l4Draw.f,spec_l1Plain.f,e,Option.bind_some,e2,e3,e4]
  · refine alarmOk_parts.2 ⟨w3,w2,⟨b0,by show b≤99999;omega⟩,?_,t2⟩
    show b≤wrap64 (b+c)∧wrap64 (b+c)≤99999
    rw[hw];omega
theorem dStore_l0:∀(n:Nat) (x:List S26) (m:Nat) (p s:Int),0≤p→ShortS m x→OkS x→m+n≤100 →
    ∃(r:List S26) (p' s':Int),Ev (fun k=>spec_l8Draw.l0 k x (n:Int) l p s) (r,p',s')∧0≤p'∧ShortS (m+n) r∧OkS r
  | 0,x,m,p,s,hp,hx,ho,hn=>⟨x,p,s,⟨1,fun k hk=>by
    obtain⟨k,rfl⟩:∃j,k=j+1:=⟨k-1,by omega⟩
    simp only[spec_l8Draw.l0];rw[if_neg (by omega)]⟩,hp,hx,ho⟩
  | n+1,x,m,p,s,hp,hx,ho,hn=>by
    obtain⟨a,p1,s1,⟨K1,g1⟩,q1,wa,oa⟩:=dAlarmOk l hl p s hp
    obtain⟨K2,g2⟩:=specPutAlarm_ev x a (shortS_wi hx (by omega)) wa.2
    obtain⟨r,p',s',⟨K,g⟩,q,h1,h2⟩:=dStore_l0 n (putAlarm x a).1 (m+1) p1 s1 q1 (putAlarm_short (by omega) hx ho.1.1 wa) (putAlarm_ok ho (fun y hy=>by have:=(hx.2 y hy).1.2;omega) oa) (by omega)
    refine⟨r,p',s',⟨K+K1+K2+1,fun k hk=>?_⟩,q,by rwa [show m+(n+1)=m+1+n by omega],h2⟩
    obtain⟨k,rfl⟩:∃j,k=j+1:=⟨k-1,by omega⟩
    have e:=g k (by omega)
    have e1:=g1 k (by omega)
    have e2:=g2 k (by omega)
    simp only at e e1 e2
    simp only[spec_l8Draw.l0]
    rw[if_pos (by omega),e1,Option.bind_some,e2,Option.bind_some,show wrap64 (((n+1:Nat):Int)-1)=(n:Int) by rw[wrap_id (by omega) (by omega)];omega]
    exact e
omit hl in
theorem storeNew_rep (n:Nat) (h1:1≤n) (h3:n≤3):Ev (fun k=>spec_StoreNew.f k (n:Int)) (List.replicate n (⟨-1,0,[]⟩:S26)):=by
  refine⟨10,fun k hk=>?_⟩
  obtain⟨m,rfl⟩:∃m,k=m+10:=⟨k-10,by omega⟩
  rcases (show n=1∨n=2∨n=3 by omega) with rfl|rfl|rfl<;>simp[spec_StoreNew.f,spec_StoreNew.l0,List.replicate]
omit hl in
theorem rep_ok (n:Nat) (h1:1≤n) (h3:n≤3):OkS (List.replicate n (⟨-1,0,[]⟩:S26))∧ShortS 0 (List.replicate n (⟨-1,0,[]⟩:S26)):=by
  have hm:∀p∈List.replicate n (⟨-1,0,[]⟩:S26),p=⟨-1,0,[]⟩:=fun p hp=>List.eq_of_mem_replicate hp
  refine⟨⟨by rw[List.length_replicate];exact⟨h1,h3⟩,fun i hi=>?_⟩,by rw[List.length_replicate];exact h3,fun p hp=>?_⟩
  · rw[hm _ (getD_mem _ i z26 hi)]
    exact⟨⟨⟨by decide,by decide⟩,by decide⟩,fun c hc=>(by cases hc),List.Pairwise.nil⟩
  · rw[hm p hp]
    exact⟨⟨by decide,by decide⟩,Nat.le_refl _,fun c hc=>(by cases hc)⟩
theorem dStore (p s:Int) (hp:0≤p):∃(r:List S26) (p' s':Int),Ev (fun k=>spec_l8Draw.f k l p s) (r,p',s')∧0≤p'∧ShortS 7 r∧OkS r:=by
  obtain⟨b,p1,s1,e1,q1,b0,b1⟩:=dBelow l hl p s 3 hp (by decide) (by decide)
  obtain⟨d,p2,s2,e2,q2,d0,d1⟩:=dBelow l hl p1 s1 8 q1 (by decide) (by decide)
  obtain⟨n,rfl⟩:∃n:Nat,d=(n:Int):=⟨d.toNat,by omega⟩
  obtain⟨j,ej⟩:∃j:Nat,1+b=(j:Int):=⟨(1+b).toNat,by omega⟩
  have ew:wrap64 (1+b)=(j:Int):=by rw[wrap_id (by omega) (by omega)];exact ej
  obtain⟨K0,g0⟩:=storeNew_rep j (by omega) (by omega)
  obtain⟨o1,o2⟩:=rep_ok j (by omega) (by omega)
  obtain⟨r,p',s',⟨K,g⟩,q,h1,h2⟩:=dStore_l0 l hl n (List.replicate j (⟨-1,0,[]⟩:S26)) 0 p2 s2 q2 o2 o1 (by omega)
  refine⟨r,p',s',⟨K+K0,fun k hk=>?_⟩,q,⟨h1.1,fun x hx=>shortP_up (h1.2 x hx) (by omega)⟩,h2⟩
  have e:=g k (by omega)
  have e0:=g0 k (by omega)
  simp only at e e0
  simp only[spec_l8Draw.f,e1,Option.bind_some,ew,e0,e2]
  exact e
end
/-- A drawn store, bent or not: few parts, short ones. -/
def ShortB (l:List S26):Prop:=l.length≤6∧∀p∈l,ShortP 40 p
theorem shortB_wi {l:List S26} (h:ShortB l):l.length≤4000000∧∀y∈l,WiPart y:=⟨Nat.le_trans h.1 (by decide),fun p hp=>shortP_wi (h.2 p hp) (by decide)⟩
theorem shortB_in {l:List S26} (h:ShortB l):(inS l).length≤9600∧∀y∈inS l,ShortA y:=by
  refine⟨Nat.le_trans (inS_len h.2) (Nat.le_trans (Nat.mul_le_mul_right _ h.1) (by decide)),fun y hy=>?_⟩
  obtain⟨p,hp,hy⟩:=inS_mem hy
  exact inC_short (h.2 p hp).2.2 y hy
theorem shortB_all {l:List S26} (h:ShortB l):(allA l).length≤9600∧∀y∈allA l,ShortA y:=
  ⟨by unfold allA;rw[sortE_length];simpa using (shortB_in h).1,fun y hy=>(shortB_in h).2 y (by simpa [allA,sortE_mem] using hy)⟩
section
variable (l:List Int) (hl:l.length≤1048576)
include hl
theorem dAnyStore (p s:Int) (hp:0≤p):∃(r:List S26) (p' s':Int),Ev (fun k=>spec_l8Any.f k l p s) (r,p',s')∧0≤p'∧ShortB r:=by
  obtain⟨x,p1,s1,⟨K1,g1⟩,q1,w1,o1⟩:=dStore l hl p s hp
  have hx3:=w1.1
  have hx1:=o1.1.1
  obtain⟨i,p2,s2,e2,q2,i0,i1⟩:=dBelowAny l hl p1 s1 (x.length:Int) q1 (by omega)
  obtain⟨b,p3,s3,e3,q3,b0,b1⟩:=dBelow l hl p2 s2 12 q2 (by decide) (by decide)
  have hx:ShortB x:=⟨by omega,fun y hy=>shortP_up (w1.2 y hy) (by decide)⟩
  have hz:ShortP 40 (⟨-1,0,[]⟩:S26):=⟨⟨by decide,by decide⟩,by decide,fun c hc=>by cases hc⟩
  obtain⟨t,p4,s4,⟨K4,g4⟩,q4,w4⟩:=dAnyPart l hl p3 s3 i (x.length:Int) q3
  by_cases c0:b=0
  · refine⟨x.set i.toNat t,p4,s4,⟨K1+K4,fun k hk=>?_⟩,q4,⟨by simpa using hx.1,fun y hy=>?_⟩⟩
    · have e:=g1 k (by omega)
      have e4:=g4 k (by omega)
      simp only at e e4
      simp only[spec_l8Any.f,e,Option.bind_some,e2,e3]
      rw[if_pos c0,e4,Option.bind_some,if_pos i0,if_pos i1]
    · rcases List.mem_or_eq_of_mem_set hy with h|rfl
      · exact hx.2 y h
      · exact w4
  by_cases c1:b=1
  · refine⟨x++[⟨-1,0,[]⟩],p3,s3,⟨K1,fun k hk=>?_⟩,q3,⟨by simp;omega,fun y hy=>?_⟩⟩
    · have e:=g1 k (by omega)
      simp only at e
      simp only[spec_l8Any.f,e,Option.bind_some,e2,e3]
      rw[if_neg c0,if_pos c1,if_pos (by omega)]
    · rcases List.mem_append.1 hy with h|h
      · exact hx.2 y h
      · rw[List.mem_singleton.1 h];exact hz
  by_cases c2:b=2
  · refine⟨[],p3,s3,⟨K1,fun k hk=>?_⟩,q3,⟨by simp,fun y hy=>by cases hy⟩⟩
    have e:=g1 k (by omega)
    simp only at e
    simp only[spec_l8Any.f,e,Option.bind_some,e2,e3]
    rw[if_neg c0,if_neg c1,if_pos c2]
  by_cases c3:b=3
  · refine⟨x++x,p3,s3,⟨K1,fun k hk=>?_⟩,q3,⟨by simp;omega,fun y hy=>?_⟩⟩
    · have e:=g1 k (by omega)
      simp only at e
      simp only[spec_l8Any.f,e,Option.bind_some,e2,e3]
      rw[if_neg c0,if_neg c1,if_neg c2,if_pos c3,if_pos (by omega)]
    · rcases List.mem_append.1 hy with h|h<;>exact hx.2 y h
  · refine⟨x,p3,s3,⟨K1,fun k hk=>?_⟩,q3,hx⟩
    have e:=g1 k (by omega)
    simp only at e
    simp only[spec_l8Any.f,e,Option.bind_some,e2,e3]
    rw[if_neg c0,if_neg c1,if_neg c2,if_neg c3]
theorem drawStoreOk_ev:∃x:List S26,Ev (fun k=>spec_DrawStoreOk.f k l) x∧ShortB x:=by
  obtain⟨s0,K0,g0⟩:=dNew l hl
  obtain⟨x,p1,s1,⟨K1,g1⟩,q1,w1⟩:=dAnyStore l hl 0 s0 (by decide)
  refine⟨x,⟨K0+K1,fun k hk=>?_⟩,w1⟩
  have e0:=g0 k (by omega)
  have e1:=g1 k (by omega)
  simp only at e0 e1
  simp only[spec_DrawStoreOk.f,e0,Option.bind_some,e1]
theorem drawAllAlarms_ev:∃x:List S26,Ev (fun k=>spec_DrawAllAlarms.f k l) x∧ShortB x:=by
  obtain⟨s0,K0,g0⟩:=dNew l hl
  obtain⟨x,p1,s1,⟨K1,g1⟩,q1,w1⟩:=dAnyStore l hl 0 s0 (by decide)
  refine⟨x,⟨K0+K1,fun k hk=>?_⟩,w1⟩
  have e0:=g0 k (by omega)
  have e1:=g1 k (by omega)
  simp only at e0 e1
  simp only[spec_DrawAllAlarms.f,e0,Option.bind_some,e1]
theorem drawHomeOf_ev:∃(x:List S26) (r:List S99),Ev (fun k=>spec_DrawHomeOf.f k l) (x,r)∧ShortB x∧ShortL 4 r:=by
  obtain⟨s0,K0,g0⟩:=dNew l hl
  obtain⟨x,p1,s1,⟨K1,g1⟩,q1,w1⟩:=dAnyStore l hl 0 s0 (by decide)
  obtain⟨r,p2,s2,⟨K2,g2⟩,q2,w2,_⟩:=dLabelsOk l hl p1 s1 q1
  refine⟨x,r,⟨K0+K1+K2,fun k hk=>?_⟩,w1,w2⟩
  have e0:=g0 k (by omega)
  have e1:=g1 k (by omega)
  have e2:=g2 k (by omega)
  simp only at e0 e1 e2
  simp only[spec_DrawHomeOf.f,e0,Option.bind_some,e1,e2]
theorem drawFindAlarm_ev:∃(x:List S26) (r:List S99),Ev (fun k=>spec_DrawFindAlarm.f k l) (x,r)∧ShortB x∧ShortL 100 r:=by
  obtain⟨s0,K0,g0⟩:=dNew l hl
  obtain⟨x,p1,s1,⟨K1,g1⟩,q1,w1⟩:=dAnyStore l hl 0 s0 (by decide)
  obtain⟨K2,g2⟩:=specAllAlarms_ev x (shortB_wi w1) (by have:=(shortB_in w1).1;omega)
  obtain⟨r,p3,s3,⟨K3,g3⟩,q3,w3⟩:=dPick l hl p1 s1 (allA x) q1 (shortB_all w1).2 (by have:=(shortB_all w1).1;omega)
  refine⟨x,r,⟨K0+K1+K2+K3,fun k hk=>?_⟩,w1,w3⟩
  have e0:=g0 k (by omega)
  have e1:=g1 k (by omega)
  have e2:=g2 k (by omega)
  have e3:=g3 k (by omega)
  simp only at e0 e1 e2 e3
  simp only[spec_DrawFindAlarm.f,e0,Option.bind_some,e1,e2,e3]
theorem drawPutAlarm_ev:∃(x:List S26) (a:S29),Ev (fun k=>spec_DrawPutAlarm.f k l) (x,a.f0,a.f1,a.f2,a.f3)∧ShortB x∧ShortA a:=by
  obtain⟨s0,K0,g0⟩:=dNew l hl
  obtain⟨x,p1,s1,⟨K1,g1⟩,q1,w1⟩:=dAnyStore l hl 0 s0 (by decide)
  obtain⟨a,p2,s2,⟨K2,g2⟩,q2,wa,_⟩:=dAlarmOk l hl p1 s1 q1
  obtain⟨K3,g3⟩:=specAllAlarms_ev x (shortB_wi w1) (by have:=(shortB_in w1).1;omega)
  obtain⟨r,p4,s4,⟨K4,g4⟩,q4,w4⟩:=dPick l hl p2 s2 (allA x) q2 (shortB_all w1).2 (by have:=(shortB_all w1).1;omega)
  refine⟨x,⟨r,a.f1,a.f2,a.f3⟩,⟨K0+K1+K2+K3+K4,fun k hk=>?_⟩,w1,shortA_mk _ _ w4 (by decide) wa.2.2.2.2⟩
  have e0:=g0 k (by omega)
  have e1:=g1 k (by omega)
  have e2:=g2 k (by omega)
  have e3:=g3 k (by omega)
  have e4:=g4 k (by omega)
  simp only at e0 e1 e2 e3 e4
  simp only[spec_DrawPutAlarm.f,e0,Option.bind_some,e1,e2,e3,e4]
theorem drawStoreNew_ev:∃n:Int,Ev (fun k=>spec_DrawStoreNew.f k l) n:=by
  obtain⟨s0,K0,g0⟩:=dNew l hl
  obtain⟨b,p1,s1,e1,q1,b0,b1⟩:=dBelow l hl 0 s0 6 (by decide) (by decide) (by decide)
  refine⟨wrap64 (b-1),⟨K0,fun k hk=>?_⟩⟩
  have e0:=g0 k (by omega)
  simp only at e0
  simp only[spec_DrawStoreNew.f,e0,Option.bind_some,e1]
end
theorem lawsSameList_ev (a b:List S29) (h:a.length≤5000000∧∀y∈a,y.f0.length≤5000000):Ev (fun k=>laws_sameList.f k a b) (sameAlarms a b):=by
  have h1:=h.1
  unfold laws_sameList.f sameAlarms
  by_cases hl:a.length=b.length
  · simp only[if_pos (show (a.length:Int)=(b.length:Int) by omega)]
    rw[←scan_same0 alm z29 a b hl]
    refine scan_ev (F:=fun k i=>laws_sameList.l0 k a b i) (n:=a.length) (fun k=>?_) (fun i hi=>?_) a.length 0 (by omega)
    · simp only[laws_sameList.l0];rw[if_neg (by omega)]
    · have hw:=h.2 _ (getD_mem a i z29 hi)
      obtain⟨K,hK⟩:=implSameAlarm_ev (a.getD i z29) (b.getD i z29) (by omega)
      refine⟨K,fun k hk=>?_⟩
      have h2:=hK k hk
      simp only at h2
      simp only[laws_sameList.l0]
      rw[if_pos (by omega),if_pos (by omega),if_pos (by omega),rdnAlarm,rdnAlarm,wrap_up i (by omega),h2,Option.bind_some]
      unfold sameAlarm
      by_cases hc:alm (a.getD i z29)=alm (b.getD i z29)
      · rw[decide_eq_true hc,if_pos hc];rfl
      · rw[decide_eq_false hc,if_neg hc];rfl
  · simp only[if_neg (show ¬(a.length:Int)=(b.length:Int) by omega),decide_eq_false (map_ne_of_length hl)]
    exact Ev.now _
theorem lawsSameList_refl (a:List S29) (h:a.length≤5000000∧∀y∈a,y.f0.length≤5000000):Ev (fun k=>laws_sameList.f k a a) true:=by
  have e:=lawsSameList_ev a a h
  rwa [show sameAlarms a a=true from decide_eq_true rfl] at e
instance decAlm:DecidableEq (List (List UInt8×List UInt8)×Int×Int×List UInt8):=fun a b=>inferInstanceAs (Decidable (a=b))
def chn (c:S80):Int×List (List (List UInt8×List UInt8)×Int×Int×List UInt8):=(c.f0,c.f1.map alm)
def sameChains (a b:List S80):Bool:=decide (a.map chn=b.map chn)
def samePart (x y:S26):Bool:=decide (x.f0=y.f0)&&(decide (x.f1=y.f1)&&sameChains x.f2 y.f2)
theorem rdnChainP (l:List S80) (i:Nat):rd_T80 l (i:Int)=l.getD i z80:=by unfold rd_T80;simp
theorem implSameChain_ev (a b:S80) (h:WiChain a):Ev (fun k=>impl_SameChain.f k a.f0 a.f1 b.f0 b.f1) (decide (chn a=chn b)):=by
  obtain⟨K,g⟩:=implSameAlarms_ev a.f1 b.f1 h.2
  refine⟨K,fun k hk=>?_⟩
  have e:=g k hk
  simp only at e
  simp only[impl_SameChain.f,e,Option.bind_some]
  unfold sameAlarms chn
  by_cases c:a.f0=b.f0
  · simp[c]
  · simp[c]
theorem implSamePart_l0 (x y:S26) (h:WiPart x) (hl:x.f2.length=y.f2.length):Ev (fun k=>impl_SamePart.l0 k (x.f2.length:Int) 0 x.f0 x.f1 x.f2 y.f0 y.f1 y.f2) (sameChains x.f2 y.f2):=by
  have h1:=h.2.2.1
  unfold sameChains
  rw[←scan_same0 chn z80 x.f2 y.f2 hl]
  refine scan_ev (F:=fun k i=>impl_SamePart.l0 k (x.f2.length:Int) i x.f0 x.f1 x.f2 y.f0 y.f1 y.f2) (n:=x.f2.length) (fun k=>?_) (fun i hi=>?_) x.f2.length 0 (by omega)
  · simp only[impl_SamePart.l0];rw[if_neg (by omega)]
  · have hw:=h.2.2.2 _ (getD_mem x.f2 i z80 hi)
    obtain⟨K,hK⟩:=implSameChain_ev (x.f2.getD i z80) (y.f2.getD i z80) hw
    refine⟨K,fun k hk=>?_⟩
    have h2:=hK k hk
    simp only at h2
    simp only[impl_SamePart.l0]
    rw[if_pos (by omega),if_pos (by omega),if_pos (by omega),if_pos (by omega),rdnChainP,rdnChainP,wrap_up i (by omega),h2,Option.bind_some]
    by_cases hc:chn (x.f2.getD i z80)=chn (y.f2.getD i z80)
    · rw[decide_eq_true hc,if_pos hc];rfl
    · rw[decide_eq_false hc,if_neg hc];rfl
theorem implSamePart_ev (x y:S26) (h:WiPart x):Ev (fun k=>impl_SamePart.f k x.f0 x.f1 x.f2 y.f0 y.f1 y.f2) (samePart x y):=by
  have h1:=h.2.2.1
  unfold impl_SamePart.f samePart
  have no:∀b:Bool,Ev (fun k=>impl_SamePart.j0 k true x.f0 x.f1 x.f2 y.f0 y.f1 y.f2) false:=fun _=>⟨1,fun k hk=>by
    obtain⟨k,rfl⟩:∃m,k=m+1:=⟨k-1,by omega⟩
    simp only[impl_SamePart.j0,if_true]⟩
  by_cases c0:x.f0=y.f0
  · by_cases c1:x.f1=y.f1
    · simp only[if_pos c0,if_pos c1,decide_eq_true c0,decide_eq_true c1,Bool.true_and]
      by_cases hl:x.f2.length=y.f2.length
      · obtain⟨K,g⟩:=implSamePart_l0 x y h hl
        refine⟨K+1,fun k hk=>?_⟩
        obtain⟨k,rfl⟩:∃m,k=m+1:=⟨k-1,by omega⟩
        have e:=g k (by omega)
        simp only at e
        simp only[impl_SamePart.j0]
        rw[if_neg (by simp[hl]),e]
      · rw[show ((x.f2.length:Int) !=(y.f2.length:Int))=true by simp;omega,show sameChains x.f2 y.f2=false from decide_eq_false (map_ne_of_length hl)]
        exact no true
    · simp only[if_pos c0,if_neg c1,decide_eq_true c0,decide_eq_false c1,Bool.true_and,Bool.false_and];exact no true
  · simp only[if_neg c0,decide_eq_false c0,Bool.false_and];exact no true
end Go.Proofs.YtanfohlpkppeiaaGreat.Print
end
section
/- The law FnStoresBent answers true for all arguments that can be read: the pure statement, without Go and memory. No condition. -/
namespace Go.Proofs.YtanfohlpkppeiaaGreat.Print
open Go.RowKit Go.Proofs.YtanfohlpkppeiaaGreatV.PrintWords Go.Proofs.YtanfohlpkppeiaaGreatV.PrintLast Go.Proofs.YtanfohlpkppeiaaGreatV.PrintMore
set_option linter.unusedVariables false
set_option linter.unusedSimpArgs false
def storeNew (n:Int):List S26:=List.replicate (if n=2 then 2 else if n=3 then 3 else 1) ⟨-1,0,[]⟩
theorem implStoreNew_ev (n:Int):Ev (fun k=>impl_StoreNew.f k n) (storeNew n):=by
  have wr1:wrap64 1=1:=wrap_id (by omega) (by omega)
  have wr2:wrap64 2=2:=wrap_id (by omega) (by omega)
  have wr3:wrap64 3=3:=wrap_id (by omega) (by omega)
  refine⟨10,fun k hk=>?_⟩
  obtain⟨m,rfl⟩:∃m,k=m+10:=⟨k-10,by omega⟩
  by_cases h1:n≥1
  · by_cases h2:n≤3
    · rcases (show n=1∨n=2∨n=3 by omega) with rfl|rfl|rfl<;>simp[impl_StoreNew.f,impl_in.f,impl_StoreNew.j0,impl_StoreNew.l0,storeNew,List.replicate,wr1,wr2,wr3]
    · simp[impl_StoreNew.f,impl_in.f,h1,h2,impl_StoreNew.j0,impl_StoreNew.l0,storeNew,List.replicate,wr1,show n≠2 by omega,show n≠3 by omega]
  · simp[impl_StoreNew.f,impl_in.f,h1,impl_StoreNew.j0,impl_StoreNew.l0,storeNew,List.replicate,wr1,show n≠2 by omega,show n≠3 by omega]
theorem specStoreNew_ev (n:Int):Ev (fun k=>spec_StoreNew.f k n) (storeNew n):=by
  refine⟨10,fun k hk=>?_⟩
  obtain⟨m,rfl⟩:∃m,k=m+10:=⟨k-10,by omega⟩
  by_cases h1:n>1
  · by_cases h2:n≤3
    · rcases (show n=2∨n=3 by omega) with rfl|rfl<;>simp[spec_StoreNew.f,spec_StoreNew.l0,storeNew,List.replicate]
    · simp[spec_StoreNew.f,spec_StoreNew.l0,storeNew,List.replicate,show ¬n≤3 by omega,show n≠2 by omega,show n≠3 by omega]
  · simp[spec_StoreNew.f,spec_StoreNew.l0,storeNew,List.replicate,show ¬1<n by omega,show n≠2 by omega,show n≠3 by omega]
theorem storeNew_ok (n:Int):OkS (storeNew n)∧ShortS 0 (storeNew n):=by
  unfold storeNew
  split
  · exact rep_ok 2 (by decide) (by decide)
  · split
    · exact rep_ok 3 (by decide) (by decide)
    · exact rep_ok 1 (by decide) (by decide)
theorem storeNew_count (n:Int):countOf (storeNew n)=0:=by
  unfold storeNew
  split
  · rfl
  · split<;>rfl
theorem samePart_refl (p:S26):samePart p p=true:=by unfold samePart sameChains;simp
theorem rdnPartB (l:List S26) (i:Nat):rd_T26 l (i:Int)=l.getD i z26:=by unfold rd_T26;simp
theorem sameStore_l0 (x:List S26) (hx:x.length≤4000000∧∀y∈x,WiPart y):∀d i:Nat,i+d=x.length→Ev (fun k=>laws_sameStore.l0 k x x (i:Int)) true
  | 0,i,hi=>⟨1,fun k hk=>by
    obtain⟨k,rfl⟩:∃j,k=j+1:=⟨k-1,by omega⟩
    simp only[laws_sameStore.l0];rw[if_neg (by omega)]⟩
  | d+1,i,hi=>by
    obtain⟨K,g⟩:=sameStore_l0 x hx d (i+1) (by omega)
    obtain⟨K1,g1⟩:=implSamePart_ev (x.getD i z26) (x.getD i z26) (hx.2 _ (getD_mem x i z26 (by omega)))
    refine⟨K+K1+1,fun k hk=>?_⟩
    obtain⟨k,rfl⟩:∃j,k=j+1:=⟨k-1,by omega⟩
    have e:=g k (by omega)
    have e1:=g1 k (by omega)
    have hl:=hx.1
    simp only[samePart_refl] at e e1
    simp only[laws_sameStore.l0]
    rw[if_pos (by omega),if_pos (by omega),if_pos (by omega)]
    simp only[rdnPartB,e1,Option.bind_some,if_true]
    rw[wrap_up i (by omega)]
    exact e
theorem sameStore_refl (x:List S26) (hx:x.length≤4000000∧∀y∈x,WiPart y):Ev (fun k=>laws_sameStore.f k x x) true:=by
  obtain⟨K,g⟩:=sameStore_l0 x hx x.length 0 (by omega)
  refine⟨K,fun k hk=>?_⟩
  have e:=g k hk
  simp only at e
  simp only[laws_sameStore.f,if_true]
  exact e
theorem putAlarm_wiB {l:List S26} {a:S29} (h:ShortB l) (ha:ShortA a):(putAlarm l a).1.length≤4000000∧∀y∈(putAlarm l a).1,WiPart y:=
  putAlarm_wi (fun p hp=>⟨Nat.le_trans (h.2 p hp).2.1 (by decide),fun y hy=>Nat.le_trans ((h.2 p hp).2.2 y hy).1 (by decide)⟩) (shortB_wi h) ha.2
theorem pure_FnStoresBent:laws_FnStoresBent.Pure:=by
  intro l0 h0 h1 h2
  by_cases c:(l0.length:Int)>1048576
  · exact⟨0,by simp[laws_FnStoresBent.f,laws_big.f,c]⟩
  have hl:l0.length≤1048576:=by omega
  obtain⟨l,⟨K1,g1⟩,wl⟩:=drawStoreOk_ev l0 hl
  obtain⟨p,a,⟨K2,g2⟩,wp,wa⟩:=drawPutAlarm_ev l0 hl
  obtain⟨K3,g3⟩:=implPutAlarm_ev p a (shortB_wi wp) wa.2
  obtain⟨K4,g4⟩:=specPutAlarm_ev p a (shortB_wi wp) wa.2
  obtain⟨q,s,⟨K5,g5⟩,wq,ws⟩:=drawFindAlarm_ev l0 hl
  obtain⟨K6,g6⟩:=implFindAlarm_ev q s (shortB_wi wq) ⟨Nat.le_trans ws.1 (by decide),ws.2⟩
  obtain⟨K7,g7⟩:=specFindAlarm_ev q s (shortB_wi wq) ⟨Nat.le_trans ws.1 (by decide),ws.2⟩
  obtain⟨r,⟨K8,g8⟩,wr⟩:=drawAllAlarms_ev l0 hl
  obtain⟨u,t,⟨K9,g9⟩,wu,wt⟩:=drawHomeOf_ev l0 hl
  obtain⟨n,⟨K10,g10⟩⟩:=drawStoreNew_ev l0 hl
  obtain⟨K11,g11⟩:=implStoreNew_ev n
  obtain⟨K12,g12⟩:=specStoreNew_ev n
  obtain⟨K13,g13⟩:=implStoreOk_ev l (shortB_wi wl)
  obtain⟨K14,g14⟩:=specStoreOk_ev l (shortB_wi wl)
  obtain⟨K15,g15⟩:=sameStore_refl (putAlarm p a).1 (putAlarm_wiB wp wa)
  have ef:=implSameAlarm_ev (findAlarm q s).1 (findAlarm q s).1 (by have:=(findAlarm_wi (s:=s) (shortB_wi wq)).1.1;omega)
  obtain⟨K16,g16⟩:=ef
  have b:=shortB_in wr
  have ba:=shortB_all wr
  obtain⟨K17,g17⟩:=implAllAlarms_ev r (shortB_wi wr) (by omega)
  obtain⟨K18,g18⟩:=specAllAlarms_ev r (shortB_wi wr) (by omega)
  obtain⟨K19,g19⟩:=lawsSameList_refl (allA r) ⟨by omega,fun y hy=>Nat.le_trans (ba.2 y hy).1 (by decide)⟩
  obtain⟨K20,g20⟩:=implCountOf_ev r (shortB_wi wr)
  obtain⟨K21,g21⟩:=implHomeOf_ev u t ⟨Nat.le_trans wt.1 (by decide),wt.2⟩
  obtain⟨K22,g22⟩:=specHomeOf_ev u t ⟨Nat.le_trans wt.1 (by decide),wt.2⟩
  obtain⟨o1,o2⟩:=storeNew_ok n
  obtain⟨K23,g23⟩:=sameStore_refl (storeNew n) (shortS_wi o2 (by decide))
  obtain⟨K24,g24⟩:=implStoreOk_ev (storeNew n) (shortS_wi o2 (by decide))
  obtain⟨K25,g25⟩:=implCountOf_ev (storeNew n) (shortS_wi o2 (by decide))
  rw[okS_is o1] at g24
  rw[storeNew_count] at g25
  have ec:countOf r=((allA r).length:Int):=by
    unfold countOf allA;rw[cntP_is r 0 (by omega) (by omega),sortE_length];simp
  have es:sameAlarm (findAlarm q s).1 (findAlarm q s).1=true:=decide_eq_true rfl
  let K:=K1+K2+K3+K4+K5+K6+K7+K8+K9+K10+K11+K12+K13+K14+K15+K16+K17+K18+K19+K20+K21+K22+K23+K24+K25
  have e1:=g1 K (by omega)
  have e2:=g2 K (by omega)
  have e3:=g3 K (by omega)
  have e4:=g4 K (by omega)
  have e5:=g5 K (by omega)
  have e6:=g6 K (by omega)
  have e7:=g7 K (by omega)
  have e8:=g8 K (by omega)
  have e9:=g9 K (by omega)
  have e10:=g10 K (by omega)
  have e11:=g11 K (by omega)
  have e12:=g12 K (by omega)
  have e13:=g13 K (by omega)
  have e14:=g14 K (by omega)
  have e15:=g15 K (by omega)
  have e16:=g16 K (by omega)
  have e17:=g17 K (by omega)
  have e18:=g18 K (by omega)
  have e19:=g19 K (by omega)
  have e20:=g20 K (by omega)
  have e21:=g21 K (by omega)
  have e22:=g22 K (by omega)
  have e23:=g23 K (by omega)
  have e24:=g24 K (by omega)
  have e25:=g25 K (by omega)
  simp only[es,ec] at e1 e2 e3 e4 e5 e6 e7 e8 e9 e10 e11 e12 e13 e14 e15 e16 e17 e18 e19 e20 e21 e22 e23 e24 e25
  refine⟨K,?_⟩
  generalize K=k at *
  simp only[laws_FnStoresBent.f,laws_big.f,Option.bind_some,decide_eq_false c,Bool.false_eq_true,if_false,e1,e2,e3,e4,e5,e6,e7,e8,e9,e10,e11,e12,e13,e14,beq_self_eq_true,if_true,e15,e16,e17,e18,e19,e20,e21,e22,e23,e24,e25]
end Go.Proofs.YtanfohlpkppeiaaGreat.Print
namespace Go.Proofs.YtanfohlpkppeiaaGreat.Pure
theorem FnStoresBent:Go.Proofs.YtanfohlpkppeiaaGreat.Print.laws_FnStoresBent.Pure:=Go.Proofs.YtanfohlpkppeiaaGreat.Print.pure_FnStoresBent
end Go.Proofs.YtanfohlpkppeiaaGreat.Pure
namespace Go.Proofs.YtanfohlpkppeiaaGreat.Print

end Go.Proofs.YtanfohlpkppeiaaGreat.Print
end
