/- Rounds are shared so that nobody earns more than somebody else by more than a single round which this one may cry, no share is better than the best one, no rounds have a greater bound, and to settle never makes the greatest fee greater, for all numbers. -/
import Derived.Test.YtpmbobnmpehobaaPd
import Derived.ProofKit
import Derived.ChangeArms
import Derived.Test.YtpmbobnmpehobaaProg
import Derived.Test.YtpmbobnmpehobaaPa
import Derived.Test.YtpmbobnmpehobaaRows
import Derived.Test.YtpmbobnmpehobaaPe
import Derived.Test.YtpmbobnmpehobaaPh
set_option linter.unusedVariables false
set_option linter.unusedSimpArgs false
set_option linter.unusedSectionVars false
namespace Go.Eng
open Go Go.ChangeShapes Go.WideShapes Go.ChangeAt Go.RowKit
section
variable {H:Type} {enc:TypeId×Value→H} {P:Program}
theorem post_of_old {f:Func} {s:ChangeSpec} {apart fresh handsOn again:Bool} {W W':World} {args:Array Value} {v:Value} {ds gs:List (DataW H)} {before pa pv:List MemPlace}
    (hW:DataW.Whole enc P f.params.toList s.vars apart W args.toList ds gs before)
    (hres:∀ (b:Nat) (sp:Nat→Bool) (hd:Bool),DataW.TrodAll enc P W' b sp hd f.resultTypes.toList (v.resultList f.resultTypes.size) (s.fn H (ds++gs)).results [])
    (hargs:∀ sp:Nat→Bool,(∀ p∈before,sp p.block=true)→DataW.TrodAll enc P W' 0 sp true f.params.toList args.toList (s.fn H (ds++gs)).args pa)
    (hvars:∀ sp:Nat→Bool,(∀ p∈before,sp p.block=true)→DataW.TrodVars enc P W' sp s.vars (s.fn H (ds++gs)).vars pv)
    (hps:before=pa++pv) (hold':∀ b,b<W.heap.size→W'.heap[b]? = W.heap[b]?) (hk:W.keptBut W' (· ∈ before))
    (hok:∀ (j:Nat) (t:TypeId) (r:Value),f.resultTypes[j]? = some t→(v.resultList f.resultTypes.size)[j]? = some r→Value.okWide P W' .any 0 t r) :
    s.post enc P f apart fresh handsOn again W args v W':=by
  have hlt:=hW.lt
  have hold:∀ p∈before,(fun b=>decide (b<W.heap.size)) p.block=true:=fun p hp=>by simpa using hlt p hp
  refine ⟨ds,gs,before,[],pa,pv,hW,hres _ _ _,hargs _ hold,hvars _ hold,World.keptBut_mono (fun p hp=>⟨hp,?_⟩) hk,fun _=>?_⟩
  · rw [hps,List.mem_append] at hp
    exact Or.inr hp
  · obtain ⟨_,_,_,_,_,hz,hn⟩:=hW
    refine ⟨hok,_,_,([]++pa)++pv,⟨[]++pa,pv,trodAll_append (hargs _ (fun _ _=>rfl)) (hres _ _ _),hvars _ (fun _ _=>rfl),rfl,?_,?_⟩,?_⟩
    · intro b off hp
      have hp':MemPlace.cell b off∈before:=by rw [hps];simpa using hp
      have h1:=hz b off hp'
      have h2:=hlt _ hp'
      unfold World.frozen? at h1 ⊢
      rw [hold' b h2];exact h1
    · intro ha
      have:=hn ha
      rw [hps] at this
      simpa using this
    · intro p hp _
      rw [hps]
      simpa using hp
theorem trodAll_stays {W W':World} {sp':Nat→Bool} (hl:laidOutB P=true) (hb:Below W.heap.size W W'):∀ {ts:List TypeId} {vs:List Value} {ds:List (DataW H)} {ps:List MemPlace},(∀ t∈ts,P.readableRec t=true∧t<P.types.size)→DataW.TrodAll enc P W 0 (fun _=>true) true ts vs ds ps→(∀ x∈ps,x.block<W.heap.size)→(∀ x∈ps,sp' x.block=true) →
    DataW.TrodAll enc P W' 0 sp' true ts vs ds ps
  | [],vs,ds,ps,_,h,_,_=>by
    obtain ⟨rfl,rfl,rfl⟩:=trodAll_nil h
    exact trodAll_mk0
  | t::ts,vs,ds,ps,ht,h,hlt,hs=>by
    obtain ⟨v,vs',d,ds',p,q,rfl,rfl,rfl,h1,h2⟩:=trodAll_cons h
    exact ⟨p,q,WideElems.Trod_stays hl (ht t (by simp)).1 (ht t (by simp)).2 h1 (fun x hx=>hb.same (hlt x (by simp [hx]))) (fun x hx=>hs x (by simp [hx])),trodAll_stays hl hb (fun t h=>ht t (by simp [h])) h2 (fun x hx=>hlt x (by simp [hx])) (fun x hx=>hs x (by simp [hx])),rfl⟩
theorem law_post {f:Func} {s:ChangeSpec} {apart fresh handsOn again:Bool} {W W':World} {args:Array Value} {ds:List (DataW H)} {before:List MemPlace} {tb:TypeId} (hl:laidOutB P=true) (hvars:s.vars=[]) (htb:P.underlying tb=some .bool) (hrt:f.resultTypes=#[tb]) (hts:∀ t∈f.params.toList,P.readableRec t=true∧t<P.types.size)
    (hfn:s.fn H ds={results:=[.lit (.bool true)],args:=ds}) (hW:DataW.Whole enc P f.params.toList s.vars apart W args.toList ds [] before)
    (h1:W.heap.size≤W'.heap.size) (h2:∀ b,b<W.heap.size→W'.heap[b]? = W.heap[b]?) (h3:W'.os=W.os) (h4:W'.tape=W.tape) (h5:W'.output=W.output):s.post enc P f apart fresh handsOn again W args (.bool true) W':=by
  have hlt:=hW.lt
  have hb:Below W.heap.size W W':=⟨h3,h4,h5,h1,h2⟩
  obtain ⟨pa,pv,hA,hV,hps,hz,hn⟩:=id hW
  have hpv:pv=[]:=by
    rw [hvars] at hV
    exact (trodVars_none hV).2
  subst hpv
  have hrl:(Value.bool true).resultList f.resultTypes.size=[.bool true]:=by rw [hrt];rfl
  have hfn':s.fn H (ds++[])={results:=[.lit (.bool true)],args:=ds}:=by rw [List.append_nil];exact hfn
  have hlt':∀ x∈pa,x.block<W.heap.size:=fun x hx=>hlt x (by rw [hps];simp [hx])
  refine post_of_old (pa:=pa) (pv:=[]) hW (fun b sp hd=>?_) (fun sp hsp=>?_) (fun sp hsp=>?_) hps h2 ?_ ?_
  · rw [hrl,hrt,hfn'];exact trodAll_mk1 (shut_bool htb true)
  · rw [hfn'];exact trodAll_stays hl hb hts hA hlt' (fun x hx=>hsp x (by rw [hps];simp [hx]))
  · rw [hvars,hfn'];rfl
  · refine ⟨h3,h5,fun i hi=>?_⟩
    rw [h2 i hi]
    cases W.heap[i]? with
    | none=>rfl
    | some o=>cases o<;>first | exact ⟨rfl,rfl,rfl,fun _ _=>rfl⟩ | exact .inr ⟨rfl,rfl⟩ | rfl
  · exact ok_one hrt rfl (okWide_bool_mk htb true)
end
end Go.Eng
namespace Go.Eng
open Go
section
variable {w:World} {Φ:Nat→Prop} {A:Al}
end
end Go.Eng
namespace Go.Eng
open Go
section
variable {P:Program} {H:Hints}
theorem funcs_mem {f:FuncId} {fn:Func} (h:P.funcs[f]? = some fn):fn∈P.funcs.toList:=by
  rw [← Array.getElem?_toList] at h
  exact List.mem_of_getElem? h
theorem named_of (h : (P.funcs.toList.all fun fn => !(fn.name == "runtime.NumGoroutine")) = true) : Named P := fun f fn hf => by
  have:=List.all_eq_true.1 h fn (funcs_mem hf)
  simpa using this
theorem fit_of (h:((List.range P.funcs.size).all fun f=>bif Nat.beq (H f).intr 0 then (match P.funcs[f]? with
    | some fn=>fnOk P fn
    | none=>true) else true)=true):Fit P H:=fun f fn hf hi=>by
  have hlt:=(Array.getElem?_eq_some_iff.1 hf).1
  have:=List.all_eq_true.1 h f (List.mem_range.2 hlt)
  rw [hi,hf] at this
  exact this
theorem intr_of (h:((List.range P.funcs.size).all fun f=>Nat.beq (H f).intr 0||Nat.beq (H f).intr 9)=true):Intrinsic P H:=fun f fn args hid v hid' hf hi hr=>by
  have hlt:=(Array.getElem?_eq_some_iff.1 hf).1
  have:=List.all_eq_true.1 h f (List.mem_range.2 hlt)
  rw [Bool.or_eq_true] at this
  rcases this with h1 | h1
  · exact absurd (Nat.eq_of_beq_eq_true h1) hi
  · rw [Nat.eq_of_beq_eq_true h1] at hr
    simp [intrin] at hr
end
end Go.Eng
namespace Go.Eng
open Go Go.ChangeShapes Go.WideShapes Go.ChangeAt Go.RowKit
inductive Sh where
  | num (k:IntKind)
  | bool
  | list (ag:Bool) (parts:List Sh)
mutual
def FitS:Sh→PV→Prop
  | .num k,p=>∃ n,p = .int k n∧k.min≤n∧n≤k.max
  | .bool,p=>∃ b,p = .bool b
  | .list ag ss,p=>∃ xs,p = .sl xs∧xs.length≤maxLen∧∀ x∈xs,FitSs ss x.cells∧x.isAgg=ag
def FitSs:List Sh→List PV→Prop
  | [],ps=>ps=[]
  | s::ss,ps=>∃ p qs,ps=p::qs∧FitS s p∧FitSs ss qs
end
def aggT (P:Program) (t:TypeId):Bool :=
  match P.underlying t with
  | some (.struct _)=>true
  | _=>false
def fieldsSh (P:Program) (sh:TypeId→Option (List Sh)) (n:Nat):List Field→Nat→Option (List Sh)
  | [],off=>if off=n then some [] else none
  | f::fs,off=>if f.offset=off then match sh f.type with
    | some a=>if a.length=P.cellsOf f.type then (fieldsSh P sh n fs (off+P.cellsOf f.type)).map (a++·) else none
    | none=>none else none
def shapesOf (P:Program):Nat→TypeId→Option (List Sh)
  | 0,_=>none
  | n + 1,t=>match P.underlying t with
    | some (.int k)=>some [.num k]
    | some .bool=>some [.bool]
    | some (.slice e)=>match shapesOf P n e with
      | some ss=>if ss.length=P.cellsOf e∧0<ss.length∧(aggT P e=true∨ss.length=1) then some [.list (aggT P e) ss] else none
      | none=>none
    | some (.struct fs)=>fieldsSh P (shapesOf P n) (P.cellsOf t) fs.toList 0
    | _=>none
section
variable {H:Type} {enc:TypeId×Value→H} {P:Program} {w:World} {spare:Nat→Bool} {held:Bool} {Φ:Nat→Prop} {base:Nat}
theorem FitSs.app:∀ {a b:List Sh} {p q:List PV},FitSs a p→FitSs b q→FitSs (a++b) (p++q)
  | [],b,p,q,h1,h2=>by simp only [FitSs] at h1;subst h1;exact h2
  | s::a,b,p,q,h1,h2=>by
    obtain ⟨x,xs,rfl,h3,h4⟩:=h1
    exact ⟨x,xs++q,rfl,h3,FitSs.app h4 h2⟩
theorem FitSs.length:∀ {a:List Sh} {p:List PV},FitSs a p→p.length=a.length
  | [],p,h=>by simp only [FitSs] at h;subst h;rfl
  | s::a,p,h=>by
    obtain ⟨x,xs,rfl,_,h4⟩:=h
    simp [FitSs.length h4]
theorem fields_ok {sh:TypeId→Option (List Sh)} {N n:Nat} {cs:List Value} (hcs:cs.length=N) (ih:∀ t (vs:List Value) x ss,sh t=some ss→DataW.trod enc P w 0 spare held n t vs=some x→∃ ps,FitSs ss ps∧Reps w Φ noAl ps vs []) :
    ∀ (fs:List Field) (off:Nat) (ss:List Sh),fieldsSh P sh N fs off=some ss→(∀ f∈fs,∃ y,DataW.trod enc P w 0 spare held n f.type ((cs.drop f.offset).take (P.cellsOf f.type))=some y)→off≤N→∃ ps,FitSs ss ps∧Reps w Φ noAl ps (cs.drop off) []
  | [],off,ss,h,_,hle=>by
    simp only [fieldsSh] at h
    split at h
    · rename_i he
      cases h
      exact ⟨[],rfl,by rw [List.drop_eq_nil_of_le (by omega)];exact ⟨rfl,rfl⟩⟩
    · cases h
  | f :: fs,off,ss,h,hf,hle=>by
    simp only [fieldsSh] at h
    split at h
    · rename_i ho
      cases hs:sh f.type with
      | none=>rw [hs] at h;cases h
      | some a =>
        rw [hs] at h;simp only at h
        split at h
        · rename_i hal
          obtain ⟨b,hb,rfl⟩:=Option.map_eq_some_iff.1 h
          obtain ⟨y,hy⟩:=hf f (by simp)
          rw [ho] at hy
          obtain ⟨ps,h1,h2⟩:=ih _ _ _ _ hs hy
          have hl:=h2.length
          have hpl:=h1.length
          simp only [List.length_take,List.length_drop] at hl
          have hoff:off+P.cellsOf f.type≤N:=by omega
          obtain ⟨qs,h3,h4⟩:=fields_ok hcs ih fs _ b hb (fun g hg=>hf g (by simp [hg])) hoff
          refine ⟨ps++qs,h1.app h3,?_⟩
          have:=h2.append h4
          rw [← List.drop_drop,List.take_append_drop] at this
          exact this
        · cases h
    · cases h
theorem rows_ok {s:Nat} {ag:Bool} {ss:List Sh} (hs:0<s) (hag:ag=true∨s=1):∀ (len:Nat) (c:List Value),c.length=len*s→(∀ i,i<len→∃ ps,FitSs ss ps∧ps.length=s∧Reps w Φ noAl ps ((c.drop (i*s)).take s) []) →
    ∃ (xs:List PV) (us:List Value),xs.length=len∧(∀ x∈xs,FitSs ss x.cells∧x.isAgg=ag∧x.cells.length=s)∧(∀ u∈us,u.cells.size=s)∧us.map vAgg=xs.map PV.isAgg∧c=flat us∧Reps w Φ noAl xs us []
  | 0,c,hc,_=>⟨[],[],rfl,by simp,by simp,rfl,by rw [Nat.zero_mul] at hc;rw [List.eq_nil_of_length_eq_zero hc];rfl,rfl,rfl⟩
  | len + 1,c,hc,h=>by
    obtain ⟨ps,h1,h2,h3⟩:=h 0 (by omega)
    simp only [Nat.zero_mul,List.drop_zero] at h3
    have hcl:(c.take s).length=s:=by simp;rw [hc,Nat.add_mul];omega
    obtain ⟨xs,us,g1,g2,g3,g4,g5,g6⟩:=rows_ok hs hag len (c.drop s) (by simp [hc,Nat.add_mul]) (fun i hi=>by
      obtain ⟨ps,h1,h2,h3⟩:=h (i+1) (by omega)
      refine ⟨ps,h1,h2,?_⟩
      rw [List.drop_drop,show s+i*s=(i+1)*s by rw [Nat.add_mul];omega];exact h3)
    have hc2:c=c.take s++c.drop s:=(List.take_append_drop s c).symm
    cases ag with
    | true =>
      refine ⟨.agg ps::xs,.agg (c.take s).toArray::us,by simp [g1],fun x hx=>?_,fun u hu=>?_,by simp [vAgg,PV.isAgg,g4],?_,⟨_,us,[],[],rfl,rfl,⟨_,rfl,by simpa using h3⟩,g6⟩⟩
      · rcases List.mem_cons.1 hx with rfl | hx
        · exact ⟨h1,rfl,h2⟩
        · exact g2 x hx
      · rcases List.mem_cons.1 hu with rfl | hu
        · simpa [Value.cells] using hcl
        · exact g3 u hu
      · conv=>lhs;rw [hc2]
        rw [g5];rfl
    | false =>
      have hs1:s=1:=by
        rcases hag with h | h
        · cases h
        · exact h
      subst hs1
      obtain ⟨p,rfl⟩:=List.length_eq_one_iff.1 h2
      obtain ⟨u,hu⟩:=List.length_eq_one_iff.1 hcl
      rw [hu] at h3 hc2
      obtain ⟨u',us',L1,L2,he,hL,h4,h5⟩:=h3
      cases he
      obtain ⟨rfl,rfl⟩:=List.append_eq_nil_iff.1 hL.symm
      have hone:p.isAgg=false∧p.cells=[p]∧u.cells=#[u]∧vAgg u=false:=by
        obtain ⟨p',qs,hp,hfp,_⟩:∃ p' qs,[p]=p'::qs∧(∃ s,FitS s p')∧True:=by
          cases ss with
          | nil=>simp only [FitSs] at h1;cases h1
          | cons s ss=>obtain ⟨x,xs,h6,h7,_⟩:=h1;exact ⟨x,xs,h6,⟨s,h7⟩,trivial⟩
        cases hp
        obtain ⟨s,hfp⟩:=hfp
        cases s with
        | num k=>obtain ⟨n,rfl,_⟩:=hfp;obtain ⟨rfl,_⟩:=h4;exact ⟨rfl,rfl,rfl,rfl⟩
        | bool=>obtain ⟨n,rfl⟩:=hfp;obtain ⟨rfl,_⟩:=h4;exact ⟨rfl,rfl,rfl,rfl⟩
        | list ag' ss' =>
          obtain ⟨ys,rfl,_⟩:=hfp
          obtain ⟨_,⟨_,a,n,rfl⟩ | ⟨a,n,c',us',sz,rfl,_⟩⟩:=h4<;>exact ⟨rfl,rfl,rfl,rfl⟩
      refine ⟨p::xs,u::us,by simp [g1],fun x hx=>?_,fun v hv=>?_,by simp [hone.1,hone.2.2.2,g4],?_,⟨u,us,[],[],rfl,rfl,h4,g6⟩⟩
      · rcases List.mem_cons.1 hx with rfl | hx
        · rw [hone.2.1];exact ⟨h1,hone.1,rfl⟩
        · exact g2 x hx
      · rcases List.mem_cons.1 hv with rfl | hv
        · rw [hone.2.2.1];rfl
        · exact g3 v hv
      · conv=>lhs;rw [hc2]
        rw [g5];simp only [flat,List.flatMap_cons,hone.2.2.1]
theorem trod_ok : ∀ (n m:Nat) (t:TypeId) (vs:List Value) (x:DataW H×List MemPlace) (ss:List Sh),shapesOf P n t=some ss→DataW.trod enc P w 0 spare held m t vs=some x→∃ ps,FitSs ss ps∧Reps w (fun b=>b<w.heap.size) noAl ps vs []
  | 0,m,t,vs,x,ss,h,_=>by cases h
  | n + 1, m, t,vs,x,ss,h,hx=>by
    simp only [shapesOf] at h
    split at h
    · rename_i k ht
      cases h
      obtain ⟨i,rfl,_,hw⟩:=DataW.trod_int ht hx
      simp only [Lit.wf,Bool.and_eq_true,decide_eq_true_eq] at hw
      exact ⟨[.int k i],⟨_,[],rfl,⟨i,rfl,hw.1,hw.2⟩,rfl⟩,_,_,[],[],rfl,rfl,⟨rfl,rfl⟩,rfl,rfl⟩
    · rename_i ht
      cases h
      obtain ⟨b,rfl,_⟩:=DataW.trod_bool ht hx
      exact ⟨[.bool b],⟨_,[],rfl,⟨b,rfl⟩,rfl⟩,_,_,[],[],rfl,rfl,⟨rfl,rfl⟩,rfl,rfl⟩
    · rename_i e ht
      cases hse:shapesOf P n e with
      | none=>rw [hse] at h;cases h
      | some es =>
        rw [hse] at h;simp only at h
        split at h
        · rename_i hc
          cases h
          obtain ⟨hc1,hc2,hc3⟩:=hc
          rcases DataW.trod_slice ht hx with ⟨rfl,_⟩ | ⟨a,len,cap,elems,rest,k,_,rfl,_,_,hlc,hcm,hel,hat,_⟩
          · exact ⟨[.sl []],⟨_,[],rfl,⟨[],rfl,Nat.zero_le _,by simp⟩,rfl⟩,_,_,[],[],rfl,rfl,⟨rfl,.inl ⟨rfl,_,_,rfl⟩⟩,rfl,rfl⟩
          · by_cases h0:len=0
            · subst h0
              exact ⟨[.sl []],⟨_,[],rfl,⟨[],rfl,Nat.zero_le _,by simp⟩,rfl⟩,_,_,[],[],rfl,rfl,⟨rfl,.inl ⟨rfl,_,_,rfl⟩⟩,rfl,rfl⟩
            have hcells:∀ i,i<len→∃ (cs:List Value) (y:DataW H×List MemPlace),cs.length=P.cellsOf e∧(∀ j,j<P.cellsOf e→w.cell? ((a.add (i*P.cellsOf e)).add j)=cs[j]?)∧DataW.trod enc P w 0 spare held k e cs=some y:=by
              intro i hi
              have:=hat i hi
              rw [List.getElem?_eq_getElem (by omega)] at this
              obtain ⟨cs,h1,h2⟩:=Option.bind_eq_some_iff.1 this
              obtain ⟨_,h3,h4⟩:=World.cells?_some h1
              exact ⟨cs,_,h3,h4,h2⟩
            obtain ⟨cs0,_,h00,h01,_⟩:=hcells 0 (by omega)
            have hfirst:=h01 0 (by omega)
            rw [List.getElem?_eq_getElem (by omega)] at hfirst
            have hsp:a.spot=none∧∃ row el fr,w.heap[a.block]? = some (.cells row el fr):=by
              simp only [Nat.zero_mul,Addr.add,if_true,World.cell?] at hfirst
              cases hb:w.heap[a.block]? with
              | none=>rw [hb] at hfirst;cases hfirst
              | some o =>
                cases o<;>rw [hb] at hfirst<;>simp only at hfirst<;>try (cases hfirst;done)
                rename_i row el fr
                cases hs:a.spot with
                | some s=>rw [hs] at hfirst;cases hfirst
                | none=>exact ⟨rfl,row,el,fr,rfl⟩
            obtain ⟨hspot,row,el,fr,hrow⟩:=hsp
            have hcell:∀ i j,i<len→j<P.cellsOf e→w.cell? ((a.add (i*P.cellsOf e)).add j)=row[a.off+(i*P.cellsOf e+j)]?:=by
              intro i j hi hj
              have key:∀ m:Nat,(a.add m).block=a.block∧(a.add m).off=a.off+m∧(a.add m).spot=none:=by
                intro m
                unfold Addr.add
                split
                · rename_i h;subst h;exact ⟨rfl,rfl,hspot⟩
                · exact ⟨rfl,rfl,by simp⟩
              have key2:∀ m j:Nat,w.cell? ((a.add m).add j)=row[a.off+(m+j)]?:=by
                intro m j
                obtain ⟨k1,k2,k3⟩:=key m
                by_cases h:j=0
                · subst h
                  simp only [Addr.add,if_true,World.cell?] at *
                  rw [k1,hrow];simp only;rw [k3,k2];simp
                · have:(a.add m).add j=⟨a.block,a.off+m+j,none⟩:=by
                    generalize a.add m=a1 at k1 k2 k3
                    unfold Addr.add
                    rw [if_neg h,k1,k2]
                  rw [this]
                  simp only [World.cell?,hrow]
                  rw [Nat.add_assoc];rfl
              exact key2 _ _
            have hsl:=rows_ok (w:=w) (Φ:=fun b=>b<w.heap.size) (ss:=es) hc2 (by rw [hc1] at hc3 ⊢;exact hc3) len (seg row a.off (len*P.cellsOf e)) ?_ ?_
            · obtain ⟨xs,us,g1,g2,g3,g4,g5,g6⟩:=hsl
              refine ⟨[.sl xs],⟨_,[],rfl,⟨xs,rfl,by omega,fun x hx=>⟨(g2 x hx).1,(g2 x hx).2.1⟩⟩,rfl⟩,_,_,[],[],rfl,rfl,⟨rfl,.inr ⟨a,cap,row,us,P.cellsOf e,by rw [g1],hspot,by omega,(Array.getElem?_eq_some_iff.1 hrow).1,⟨el,fr,hrow⟩,?_,⟨?_,g4⟩,by rw [g1];exact g5,g6⟩⟩,rfl,rfl⟩
              · intro x hx;rw [← hc1];exact (g2 x hx).2.2
              · intro u hu;rw [← hc1];exact g3 u hu
            ·
              have:=hcells (len-1) (by omega)
              obtain ⟨cs,_,h1,h2,_⟩:=this
              have h3:=h2 (P.cellsOf e-1) (by omega)
              rw [hcell _ _ (by omega) (by omega),List.getElem?_eq_getElem (by omega)] at h3
              have h4:=(Array.getElem?_eq_some_iff.1 h3).1
              have h5:(len-1)*P.cellsOf e+P.cellsOf e=len*P.cellsOf e:=by
                obtain ⟨l,rfl⟩:∃ l,len=l+1:=⟨len-1,by omega⟩
                rw [Nat.add_sub_cancel,Nat.add_mul];omega
              simp only [seg,List.length_take,List.length_drop,Array.length_toList,hc1]
              omega
            · intro i hi
              obtain ⟨cs,y,h1,h2,h3⟩:=hcells i hi
              obtain ⟨ps,h4,h5⟩:=trod_ok n k e cs y es hse h3
              refine ⟨ps,h4,by rw [h4.length],?_⟩
              have:((seg row a.off (len*P.cellsOf e)).drop (i*es.length)).take es.length=cs:=by
                rw [hc1]
                apply List.ext_getElem?
                intro j
                have hmul:i*P.cellsOf e+P.cellsOf e≤len*P.cellsOf e:=by
                  have:(i+1)*P.cellsOf e≤len*P.cellsOf e:=Nat.mul_le_mul_right _ (by omega)
                  rw [Nat.add_mul] at this;omega
                simp only [seg,List.getElem?_take,List.getElem?_drop]
                split
                · rename_i hj
                  rw [if_pos (by omega),Array.getElem?_toList,← hcell i j hi hj,h2 j hj]
                · rw [List.getElem?_eq_none (by omega)]
              rw [this];exact h5
        · cases h
    · rename_i fs ht
      obtain ⟨xs,k,_,_,hl,hxl,hf⟩:=DataW.trod_struct ht hx
      obtain ⟨ps,h1,h2⟩:=fields_ok (Φ:=fun b=>b<w.heap.size) hl (fun t vs x ss h1 h2=>trod_ok n k t vs x ss h1 h2) fs.toList 0 ss h (fun f hf'=>by
        obtain ⟨i,hi⟩:=List.getElem?_of_mem hf'
        have hi':fs[i]? = some f:=by rw [← Array.getElem?_toList];exact hi
        have hlt:=(Array.getElem?_eq_some_iff.1 hi').1
        exact ⟨xs[i]'(by omega), by rw [hf i f hi', List.getElem?_eq_getElem (by omega)]⟩) (Nat.zero_le _)
      exact ⟨ps,h1,by simpa using h2⟩
    · cases h
def FitP (x:Bool×List Sh) (p:PV):Prop:=if x.1 then ∃ cs,p = .agg cs∧FitSs x.2 cs else FitSs x.2 [p]
def FitPs:List (Bool×List Sh)→List PV→Prop
  | [],ps=>ps=[]
  | s::ss,ps=>∃ p qs,ps=p::qs∧FitP s p∧FitPs ss qs
def paramSh (P:Program):List TypeId→Option (List (Bool×List Sh))
  | []=>some []
  | t::ts=>match shapesOf P 20 t,paramSh P ts with
    | some ss,some rest=>if aggT P t=true∨ss.length=1 then some ((aggT P t,ss)::rest) else none
    | _,_=>none
theorem FitPs.length:∀ {ss:List (Bool×List Sh)} {ps:List PV},FitPs ss ps→ps.length=ss.length
  | [],ps,h=>by simp only [FitPs] at h;subst h;rfl
  | s::ss,ps,h=>by
    obtain ⟨p,qs,rfl,_,h2⟩:=h
    simp [FitPs.length h2]
theorem shape_one {n:Nat} {t:TypeId} {ss:List Sh} (h:shapesOf P n t=some ss) (ha:aggT P t=false):(∃ k,P.underlying t=some (.int k))∨P.underlying t=some .bool∨∃ e,P.underlying t=some (.slice e):=by
  cases n with
  | zero=>cases h
  | succ n =>
    simp only [shapesOf] at h
    split at h
    · exact .inl ⟨_,by assumption⟩
    · exact .inr (.inl (by assumption))
    · exact .inr (.inr ⟨_,by assumption⟩)
    · rename_i fs ht
      simp only [aggT,ht] at ha;cases ha
    · cases h
theorem args_ok : ∀ (ts:List TypeId) (vs:List Value) (ds:List (DataW H)) (ps:List MemPlace) (ss:List (Bool×List Sh)),paramSh P ts=some ss→DataW.TrodAll enc P w 0 spare held ts vs ds ps→(∀ (j:Nat) t v,ts[j]? = some t→vs[j]? = some v→Value.okWide P w .any base t v) →
    ∃ qs,FitPs ss qs∧Reps w (fun b=>b<w.heap.size) noAl qs vs []
  | [],vs,ds,ps,ss,hs,h,_=>by
    obtain ⟨rfl,_,_⟩:=trodAll_nil h
    cases hs
    exact ⟨[],rfl,rfl,rfl⟩
  | t :: ts,vs,ds,ps,ss,hs,h,hv=>by
    obtain ⟨v,vs',d,ds',p,q,rfl,rfl,rfl,⟨fuel,h1⟩,h2⟩:=trodAll_cons h
    simp only [paramSh] at hs
    cases hst:shapesOf P 20 t with
    | none=>rw [hst] at hs;cases hs
    | some s =>
      cases hrest:paramSh P ts with
      | none=>rw [hst,hrest] at hs;cases hs
      | some rest =>
        rw [hst,hrest] at hs
        simp only at hs
        split at hs
        · rename_i hc
          cases hs
          obtain ⟨qs,g1,g2⟩:=args_ok ts vs' ds' q rest hrest h2 (fun j t v ht hv'=>hv (j+1) t v (by simpa using ht) (by simpa using hv'))
          obtain ⟨cs,g3,g4⟩:=trod_ok 20 fuel t v.cells.toList _ s hst h1
          have hok:=hv 0 t v rfl rfl
          cases ha:aggT P t with
          | true =>
            have hstruct:∃ fs,P.underlying t=some (.struct fs):=by
              simp only [aggT] at ha
              split at ha
              · exact ⟨_,by assumption⟩
              · cases ha
            obtain ⟨fs,ht⟩:=hstruct
            obtain ⟨row,rfl,_⟩:=okWide_struct ht hok
            exact ⟨.agg cs::qs,⟨_,_,rfl,by simp only [FitP,if_true];exact ⟨cs,rfl,g3⟩,g1⟩,_,_,[],[],rfl,rfl,⟨row,rfl,g4⟩,g2⟩
          | false =>
            have hone:v.cells.toList=[v]:=by
              rcases shape_one hst ha with ⟨k,ht⟩ | ht | ⟨e,ht⟩
              · obtain ⟨n,rfl⟩:=okWide_int ht hok;rfl
              · obtain ⟨n,rfl⟩:=okWide_bool ht hok;rfl
              · obtain ⟨a,n,c,rfl⟩:=okWide_slice ht hok;rfl
            rw [hone] at g4
            obtain ⟨u,us,L1,L2,he,hL,g5,g6⟩:∃ u us L1 L2,cs=u::us∧([]:List Nat)=L1++L2∧Rep w (fun b=>b<w.heap.size) noAl u v L1∧Reps w (fun b=>b<w.heap.size) noAl us [] L2:=by
              cases cs with
              | nil=>have:=g4.length;simp at this
              | cons u us =>
                obtain ⟨v',vs'',L1,L2,he,hL,g5,g6⟩:=g4
                cases he
                exact ⟨u,us,L1,L2,rfl,hL,g5,g6⟩
            obtain ⟨rfl,rfl⟩:=List.append_eq_nil_iff.1 hL.symm
            have hus:us=[]:=List.eq_nil_of_length_eq_zero (by have:=g6.length;simp at this;omega)
            subst hus;subst he
            exact ⟨u::qs,⟨_,_,rfl,by simp only [FitP,Bool.false_eq_true,if_false];exact g3,g1⟩,_,_,[],[],rfl,rfl,g5,g2⟩
        · cases hs
theorem fit_map {α:Type} {R:α→Prop} {enc:α→PV}:∀ {xs:List PV},(∀ x∈xs,∃ a,x=enc a∧R a)→∃ l:List α,xs=l.map enc∧∀ a∈l,R a
  | [],_=>⟨[],rfl,by simp⟩
  | x :: xs,h=>by
    obtain ⟨a,rfl,ha⟩:=h x (by simp)
    obtain ⟨l,rfl,hl⟩:=fit_map (xs:=xs) fun y hy=>h y (by simp [hy])
    exact ⟨a::l,rfl,fun b hb=>by
      rcases List.mem_cons.1 hb with rfl | hb
      · exact ha
      · exact hl b hb⟩
theorem fit_nums {k:IntKind} {p:PV} (h:FitS (.list false [.num k]) p):∃ l:List Int,p = .sl (l.map (.int k))∧l.length≤maxLen∧∀ n∈l,k.min≤n∧n≤k.max:=by
  obtain ⟨xs,rfl,hl,hx⟩:=h
  obtain ⟨l,rfl,hb⟩:=fit_map (α:=Int) (R:=fun n=>k.min≤n∧n≤k.max) (enc := .int k) (xs:=xs) fun x hx'=>by
    obtain ⟨⟨q,qs,hc,⟨n,rfl,hn⟩,hqs⟩,ha⟩:=hx x hx'
    simp only [FitSs] at hqs;subst hqs
    refine ⟨n,?_,hn⟩
    cases x<;>simp [PV.cells] at hc<;>first | exact hc | simp_all [PV.isAgg]
  exact ⟨l,rfl,by simpa using hl,hb⟩
theorem trodAll_len:∀ {ts:List TypeId} {vs:List Value} {ds:List (DataW H)} {ps:List MemPlace},DataW.TrodAll enc P w 0 spare held ts vs ds ps→ds.length=ts.length
  | [],vs,ds,ps,h=>by obtain ⟨_,rfl,_⟩:=trodAll_nil h;rfl
  | t::ts,vs,ds,ps,h=>by
    obtain ⟨_,_,_,_,_,_,rfl,rfl,_,_,h2⟩:=trodAll_cons h
    simp [trodAll_len h2]
theorem law_row {Hh:Hints} {f:FuncId} {fn:Func} {s:ChangeSpec} {apart fresh handsOn again:Bool} {W:World} {args:Array Value} {ds:List (DataW H)} {before:List MemPlace} {tb:TypeId} {ss:List (Bool×List Sh)} (hmix:P.follows .mixedOrders=true) (hnm:Named P) (hfit:Fit P Hh) (hin:Intrinsic P Hh)
    (hl:laidOutB P=true) (hvars:s.vars=[]) (htb:P.underlying tb=some .bool) (hrt:fn.resultTypes=#[tb]) (hts:fn.params.toList.all (fun t=>P.readableRec t&&Nat.blt t P.types.size)=true) (hfn:∀ ds,ds.length=fn.params.size→s.fn H ds={results:=[.lit (.bool true)],args:=ds}) (hss:paramSh P fn.params.toList=some ss) (hlen:ss.length≤1000)
    (hg:∀ qs,FitPs ss qs→@Gives (yo1 P Hh) P Hh f qs [] (.bool true) [])
    (hval:∀ (j:Nat) t v,fn.params[j]? = some t→args[j]? = some v→Value.okWide P W .any base t v) (hW:DataW.Whole enc P fn.params.toList s.vars apart W args.toList ds [] before) :
    Calls P f args W fun e W'=>∃ v,e = .returned v∧s.post enc P fn apart fresh handsOn again W args v W':=by
  obtain ⟨pa,pv,hA,_,_,_,_⟩:=id hW
  obtain ⟨qs,hq1,hq2⟩:=args_ok fn.params.toList args.toList ds pa ss hss hA (fun j t v ht hv=>hval j t v (by rw [← Array.getElem?_toList];exact ht) (by rw [← Array.getElem?_toList];exact hv))
  have hql:=hq1.length
  refine (law_calls (Φ:=fun b=>b<W.heap.size) hmix hnm hfit hin (hg qs hq1) (fun b hb=>hb) hq2 (by rw [hql];exact Nat.le_trans hlen (by decide))).mono fun e W' ⟨he,g1,g2,g3,g4,g5⟩=>?_
  subst he
  refine ⟨_,rfl,law_post hl hvars htb hrt (fun t ht=>?_) (hfn ds (by have:=trodAll_len hA;simpa using this)) hW g1 g2 g3 g4 g5⟩
  have:=List.all_eq_true.1 hts t ht
  rw [Bool.and_eq_true] at this
  exact ⟨this.1,blt_lt this.2⟩
end
end Go.Eng
namespace Go.Proofs.Ytpmbobnmpehobaa
open Go.ChangeShapes Go.WideShapes Go.ChangeAt Go.RowKit Go.Eng
theorem Try.own:ownKnob Try.prog.godebug=none:=by kernel_rfl
theorem Try.laidOut:laidOutB Try.prog=true:=by kernel_rfl
theorem hmix:Try.prog.follows .mixedOrders=true:=by kernel_rfl
theorem hnm:Named Try.prog:=named_of (by kernel_rfl)
theorem hfit:Fit Try.prog feeH:=fit_of (by kernel_rfl)
theorem hin:Intrinsic Try.prog feeH:=intr_of (by kernel_rfl)
end Go.Proofs.Ytpmbobnmpehobaa
namespace Go.Eng
open Go
theorem fp_nums {k:IntKind} {p:PV} (h:FitP (false,[.list false [.num k]]) p):∃ l:List Int,p = .sl (l.map (.int k))∧l.length≤maxLen∧∀ n∈l,k.min≤n∧n≤k.max:=by
  simp only [FitP,Bool.false_eq_true,if_false] at h
  obtain ⟨q,qs,hc,h,hqs⟩:=h
  cases hc
  exact fit_nums h
end Go.Eng
namespace Go.Eng
open Go
abbrev shRnd:Sh := .list true [.num .i64,.num .i64,.list false [.num .i64]]
end Go.Eng
set_option maxRecDepth 100000
namespace Go.Proofs.Ytpmbobnmpehobaa
open Go.ChangeShapes Go.WideShapes Go.ChangeAt Go.RowKit Go.Eng
theorem feeEven_gives (ss:List (Bool×List Sh)) (hss:paramSh Try.prog Try.f15.params.toList=some ss) (qs:List PV) (hq:FitPs ss qs):@Gives (yo1 Try.prog feeH) Try.prog feeH 15 qs [] (.bool true) []:=by
  have he:paramSh Try.prog Try.f15.params.toList=some [(false,[.list false [.num .u8]]),(false,[.list false [.num .u8]])]:=by kernel_rfl
  rw [he] at hss
  cases hss
  obtain ⟨p0,qs0,rfl,h0,hq0⟩:=hq
  obtain ⟨p1,qs1,rfl,h1,hq1⟩:=hq0
  simp only [FitPs] at hq1
  subst hq1
  obtain ⟨x0,rfl,l0,b0⟩:=fp_nums h0
  unfold maxLen at l0
  simp only [IntKind.min,IntKind.max,IntKind.signed,IntKind.bits] at b0
  simp at b0
  obtain ⟨x1,rfl,l1,b1⟩:=fp_nums h1
  unfold maxLen at l1
  simp only [IntKind.min,IntKind.max,IntKind.signed,IntKind.bits] at b1
  simp at b1
  exact f15 x0 x1 (by omega) (by omega)
theorem feeEven_lifted (os:Os) (started:os.Started) (H:Type) (enc:TypeId×Value→H) :
    ReturnsInHanded {} Try.checked os 15 .any (Rows.feeEvenSpec.pre6 enc Try.prog Try.f15 Rows.feeEvenRow.domain false) (Rows.feeEvenSpec.post enc Try.prog Try.f15 false true false false):=by
  refine returnsInHanded_of_change (C:=Try.checked) Try.own started (by kernel_rfl) Try.func15
    (ChangeSpec.witness6 (enc:=enc) (C:=Try.checked) false ⟨#[],#[.slice none 0 0,.slice none 0 0],[]⟩ 8 (by kernel_rfl) (by kernel_rfl) (by kernel_rfl) (by kernel_rfl)) ?_
  intro W base args ds gs before hval0 hW hcnd _
  obtain ⟨p,q,hA0,hV,_,_,_⟩:=id hW
  obtain ⟨rfl,rfl⟩:=trodVars_none hV
  obtain ⟨ss,hss⟩:∃ ss,paramSh Try.prog Try.f15.params.toList=some ss:=Option.isSome_iff_exists.1 (by kernel_rfl)
  have hlen:ss.length≤1000:=by
    have h:((paramSh Try.prog Try.f15.params.toList).map fun s=>Nat.ble s.length 1000)=some true:=by kernel_rfl
    rw [hss] at h
    simpa using h
  exact law_row hmix hnm hfit hin Try.laidOut rfl Try.underlying4 (by kernel_rfl) (by kernel_rfl) (fun ds hd=>by match ds,hd with | [d0,d1],_=>rfl) hss hlen (feeEven_gives ss hss) hval0 hW
theorem feeEven_holds:Rows.FeeEvenSaid :=
  OpenClaim.holds_of_wide 15 Try.f15 rfl rfl rfl rfl rfl rfl rfl ⟨rfl,rfl,rfl,rfl,rfl⟩ rfl rfl rfl rfl rfl (by kernel_rfl) Try.func15 (by kernel_rfl)
    (of_decide_eq_true (by kernel_rfl)) (by unfold Func.isWrapper;first | (rw [if_pos (by decide +kernel)];kernel_rfl) | (rw [if_neg (by decide +kernel)];exact ⟨rfl,rfl⟩))
    (fun os started H enc _=>feeEven_lifted os started H enc)
end Go.Proofs.Ytpmbobnmpehobaa
