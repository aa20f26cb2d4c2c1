/- The payments that are told clear balances; they are as many as there are people with a balance less the groups; without one of them the others do not clear (up to 7 balances of numbers; any payment). -/
import Derived.Calls
import Derived.Below
import Derived.CallsIn
set_option linter.unusedVariables false
set_option linter.unusedSimpArgs false
set_option linter.unusedSectionVars false
namespace Go.Eng
open Go
theorem zzLn {α:Type}:(∀ (l:List α) (i:Nat) (a:α),(l.set i a).length=l.length) ∧ (∀ a b:List α,(a++b).length=a.length+b.length) ∧ (∀ (a:α) (l:List α),(a::l).length=l.length+1) ∧ ([]:List α).length=0:=⟨fun _ _ _=>List.length_set,fun _ _=>List.length_append,fun _ _=>rfl,rfl⟩
inductive PV where
 | bad | und
 | int (k:IntKind) (n:Int) | bool (b:Bool)
 | nilp | nilf | nilm | nn | nils (sz:Nat)
 | agg (cs:List PV) | tup (vs:List PV)
 | sl (xs:List PV) | own (sz:Nat) (xs:List PV)
 | ref (p:PV) | box (p:PV)
 | map (es:List (PV×PV)) | omap (es:List (PV×PV))
 | func (f:FuncId) (first caps:List PV)
 | addr (r:Nat) (pre:List (Nat×Nat)) (i c:Nat) (sh:Option Nat)
 | bor (r:Nat) (pre:List (Nat×Nat)) (sz lo n:Nat)
 | bsl (r:Nat) (pre:List (Nat×Nat)) (i c:Nat) (sz:Nat) (ag:Bool) (n:Nat)
 | bmap (r:Nat) (pre:List (Nat×Nat))
 | lock (p:PV)
 | yld (h:Nat) | log (xs:List PV) (k:Int)
 deriving Inhabited
abbrev zAT:=List (Nat×Nat)
def zAl:Nat:=50000000
def zAI:Nat:=60000000
def zAd:Nat:=1000000000
def depth:Nat:=6
abbrev Env:=List (Nat×PV)
def Env.get:Env→Nat→PV
 | [],_ => .bad
 | (k,v)::e,s=>bif Nat.beq k s then v else Env.get e s
def Env.set:Env→Nat→PV→Env
 | [],s,p=>[(s,p)]
 | (k,v)::e,s,p=>bif Nat.beq k s then (s,p)::e else bif Nat.ble s k then (s,p)::(k,v)::e else (k,v)::Env.set e s p
def PV.cells:PV→List PV
 | .agg cs=>cs
 | p=>[p]
def zNs:Option Nat→List PV→PV
 | some _,cs => .agg cs
 | none,c::_=>c
 | none,[] => .bad
def PV.isAgg:PV→Bool
 | .agg _=>true
 | _=>false
def PV.oneCell:PV→Bool
 | .int .. | .bool _ | .nilp | .nilf | .nilm | .nn | .nils _ | .sl _ | .own .. | .ref _ | .box _ | .map _ | .omap _ | .func .. | .addr .. | .bor .. | .bsl .. | .bmap .. => true
 | _=>false
def PV.whole (p:PV):Bool:=p.isAgg||p.oneCell
def PV.isTup:PV→Bool
 | .tup _=>true
 | _=>false
def PV.heavy0:PV→Bool
 | .own .. | .box .. | .omap .. => true
 | _=>false
mutual
def PV.heavy:PV→Bool
 | .own .. => true
 | .box _=>true
 | .omap _=>true
 | .lock _=>true
 | .agg cs=>zCU cs
 | .tup vs=>zCU vs
 | _=>false
def zCU:List PV→Bool
 | []=>false
 | p::ps=>p.heavy||zCU ps
end
def zGq (r:Nat) (pre:zAT):PV→PV
 | .agg _ | .tup _ | .lock _ => .bad
 | .own sz xs => .bor r pre sz 0 xs.length
 | .box p => .addr r pre 0 0 (match p with | .agg cs=>some cs.length | _=>none)
 | .omap _ => .bmap r pre
 | p=>p
def zBP (r:Nat) (pre:zAT) (i:Nat):Nat→List PV→List PV
 | _,[]=>[]
 | c,p::ps=>zGq r (pre++[(i,c)]) p::zBP r pre i (c+1) ps
def zRQ (r:Nat):PV→PV
 | .agg cs => .agg (zBP r [] 0 0 cs)
 | .tup _ => .bad
 | p=>zGq r [] p
def view (r:Nat):PV→PV
 | .lock p=>zRQ r p
 | p=>zRQ r p
def PV.unlock:PV→PV
 | .lock p=>p
 | p=>p
def zVK:PV→Option (List PV)
 | .own _ xs=>some xs
 | .sl xs=>some xs
 | .box p=>some [p]
 | .ref p=>some [p]
 | .agg cs=>some [.agg cs]
 | _=>none
def zBa:PV→Option (List PV)
 | .own _ xs=>some xs
 | .box p=>some [p]
 | _=>none
def zAJ:PV→List PV→Option PV
 | .own sz _,xs=>some (.own sz xs)
 | .box _,[p]=>some (.box p)
 | .agg _,[.agg cs]=>some (.agg cs)
 | _,_=>none
def zA0:PV→Option (List PV)
 | .own _ xs=>some xs
 | .box p=>some [p]
 | .agg cs=>some [.agg cs]
 | _=>none
def zAK:PV→Nat→List PV→PV
 | .agg cs,c,qs => .agg (cs.take c++qs++cs.drop (c+qs.length))
 | _,_,q::_=>q
 | p,_,[]=>p
def zAz:PV→zAT→Option PV
 | p,[]=>some p
 | p,(i,c)::rest =>
  match zA0 p with
  | some xs=>match xs[i]? with
   | some x=>match x.cells[c]? with
    | some q=>zAz q rest
    | none=>none
   | none=>none
  | none=>none
def zAr (f:PV→Option PV):PV→zAT→Option PV
 | p,[]=>f p
 | p,(i,c)::rest =>
  match zA0 p with
  | some xs=>match xs[i]? with
   | some x=>match x.cells[c]? with
    | some q=>match zAr f q rest with
     | some q'=>zAJ p (xs.set i (zAK x c [q']))
     | none=>none
    | none=>none
   | none=>none
  | none=>none
mutual
def zAZ:PV→PV
 | .own _ xs => .sl (zAx xs)
 | .box q => .ref (zAZ q)
 | .omap es => .map es
 | .agg cs => .agg (zAx cs)
 | .tup _ => .bad
 | .lock _ => .bad
 | p=>p
def zAx:List PV→List PV
 | []=>[]
 | p::ps=>zAZ p::zAx ps
end
mutual
def PV.free:PV→Bool
 | .int .. | .bool .. | .nilp | .nilf | .nilm | .nn | .nils _ | .und=>true
 | .sl []=>true
 | .agg cs=>zER cs
 | .tup vs=>zER vs
 | .own _ xs=>zER xs
 | .box q=>q.free
 | .omap es=>zNO es
 | _=>false
def zER:List PV→Bool
 | []=>true
 | p::ps=>p.free&&zER ps
def zNO:List (PV×PV)→Bool
 | []=>true
 | (k,v)::es=>k.free&&v.free&&zNO es
end
inductive PM where
 | ok | fail
 | view (s:Nat) (k:PV→PM)
 | get (s:Nat) (k:PV→PM)
 | set (s:Nat) (p:PV) (k:PM)
 | cells (r:Nat) (pre:zAT) (i c n:Nat) (k:Bool→List PV→PM)
 | deep (r:Nat) (pre:zAT) (k:PV→PM)
 | wcells (r:Nat) (pre:zAT) (i c:Nat) (qs:List PV) (k:PM)
 | wnode (r:Nat) (pre:zAT) (q:PV) (k:PM)
 | kill (r:Nat) (pre:zAT) (k:PM)
 | frz (r:Nat) (pre:zAT) (k:PM)
 | killEx (r:Nat) (keep:List zAT) (k:PM)
 | forget (h:Nat) (k:PM)
 | call (f:FuncId) (args hid:List PV) (k:PV→List PV→PM)
abbrev zAL:=FuncId→List PV→List PV→Option (PV×List PV)
mutual
def PV.mapW (f:PV→PV):PV→PV
 | .addr r pre i c sh=>f (.addr r pre i c sh)
 | .bor r pre z lo n=>f (.bor r pre z lo n)
 | .bsl r pre i c sz ag n=>f (.bsl r pre i c sz ag n)
 | .bmap r pre=>f (.bmap r pre)
 | .log xs k=>f (.log xs k)
 | .agg cs => .agg (zCF f cs)
 | .tup cs => .tup (zCF f cs)
 | .func g a b => .func g (zCF f a) (zCF f b)
 | .ref q => .ref (q.mapW f)
 | .box q => .box (q.mapW f)
 | .lock q => .lock (q.mapW f)
 | p=>p
def zCF (f:PV→PV):List PV→List PV
 | []=>[]
 | p::ps=>p.mapW f::zCF f ps
end
mutual
def PV.ways:PV→List (Nat×zAT)
 | .addr r pre .. => [(r,pre)]
 | .bor r pre .. => [(r,pre)]
 | .bsl r pre .. => [(r,pre)]
 | .bmap r pre=>[(r,pre)]
 | .agg cs=>zBB cs
 | .tup cs=>zBB cs
 | .func _ a b=>zBB a++zBB b
 | .ref q=>q.ways
 | .box q=>q.ways
 | .lock q=>q.ways
 | _=>[]
def zBB:List PV→List (Nat×zAT)
 | []=>[]
 | p::ps=>p.ways++zBB ps
end
def PV.plain0:PV→Bool
 | .int .. | .bool .. | .nilp | .nilf | .nilm | .nn | .nils _ | .sl .. | .map .. => true
 | .ref q=>q.ways.isEmpty
 | _=>false
def PV.plain:PV→Bool
 | .agg cs=>cs.all PV.plain0
 | p=>p.plain0
def lose (r:Nat) (pre:zAT):PV→PV
 | .addr r' q i c sh=>bif Nat.beq r' r&&pre.isPrefixOf q then .bad else .addr r' q i c sh
 | .bor r' q z lo n=>bif Nat.beq r' r&&pre.isPrefixOf q then .bad else .bor r' q z lo n
 | .bsl r' q i c sz ag n=>bif Nat.beq r' r&&pre.isPrefixOf q then .bad else .bsl r' q i c sz ag n
 | .bmap r' q=>bif Nat.beq r' r&&pre.isPrefixOf q then .bad else .bmap r' q
 | p=>p
def zBK (r:Nat) (keep:List zAT):PV→PV
 | .addr r' q i c sh=>bif Nat.beq r' r && !(q.isEmpty||keep.any q.isPrefixOf) then .bad else .addr r' q i c sh
 | .bor r' q z lo n=>bif Nat.beq r' r && !(q.isEmpty||keep.any q.isPrefixOf) then .bad else .bor r' q z lo n
 | .bsl r' q i c sz ag n=>bif Nat.beq r' r && !(q.isEmpty||keep.any q.isPrefixOf) then .bad else .bsl r' q i c sz ag n
 | .bmap r' q=>bif Nat.beq r' r && !(q.isEmpty||keep.any q.isPrefixOf) then .bad else .bmap r' q
 | p=>p
def Env.killEx (e:Env) (r:Nat) (keep:List zAT):Env:=e.map fun x=>(x.1,x.2.mapW (zBK r keep))
def zAQ (r:Nat) (pre:zAT) (r':Nat) (q:zAT):Bool:=Nat.beq r' r&&pre.isPrefixOf q
def zDs (i c:Nat) (sh:Option Nat) (q:PV):PV :=
 match zBa q with
 | some xs=>match xs[i]? with
  | some x=>match sh with
   | some m=>bif Nat.ble (c+m) x.cells.length&&x.isAgg then .ref (.agg (zAx ((x.cells.drop c).take m))) else .bad
   | none=>match x.cells[c]? with
    | some q=>bif q.oneCell then .ref (zAZ q) else .bad
    | none => .bad
  | none => .bad
 | none => .bad
def zC8 (lo n:Nat):PV→PV
 | .own _ xs=>bif Nat.ble (lo+n) xs.length then .sl (zAx ((xs.drop lo).take n)) else .bad
 | _ => .bad
def zCg (ag:Bool) (sz:Nat):Nat→List PV→List PV
 | 0,_=>[]
 | m+1,cs=>(bif ag then .agg (cs.take sz) else cs.headD .bad)::zCg ag sz m (cs.drop sz)
def zCi (ag:Bool) (sz m:Nat) (cs:List PV):Bool:=Nat.beq cs.length (m*sz)&&(ag||Nat.beq sz 1&&cs.all (fun q=>q.oneCell))
def zCp (i c sz:Nat) (ag:Bool) (m:Nat) (q:PV):PV :=
 match zBa q with
 | some xs=>match xs[i]? with
  | some x=>bif zCi ag sz m ((x.cells.drop c).take (m*sz))&&(zBB x.cells).isEmpty then .sl (zCg ag sz m (zAx ((x.cells.drop c).take (m*sz)))) else .bad
  | none => .bad
 | none => .bad
def zEx:PV→PV
 | .omap es => .map es
 | _ => .bad
def zHF (q:Option PV) (f:PV→PV):PV :=
 match q with
 | some x=>f x
 | none => .bad
def inl (r:Nat) (pre:zAT) (q0:PV):PV→PV
 | .addr r' q i c sh=>bif zAQ r pre r' q then zHF (zAz q0 (q.drop pre.length)) (zDs i c sh) else .addr r' q i c sh
 | .bor r' q z lo n=>bif zAQ r pre r' q then zHF (zAz q0 (q.drop pre.length)) (zC8 lo n) else .bor r' q z lo n
 | .bsl r' q i c sz ag n=>bif zAQ r pre r' q then zHF (zAz q0 (q.drop pre.length)) (zCp i c sz ag n) else .bsl r' q i c sz ag n
 | .bmap r' q=>bif zAQ r pre r' q then zHF (zAz q0 (q.drop pre.length)) zEx else .bmap r' q
 | p=>p
def PV.isLock:PV→Bool
 | .lock _=>true
 | _=>false
def Env.frz (e:Env) (r:Nat) (pre:zAT):Option Env :=
 bif (e.get r).isLock then none else match zAz (e.get r) pre with
 | some q=>match zAr (fun _=>some (zAZ q)) (e.get r) pre with
  | some root=>some ((e.set r root).map fun x=>(x.1,x.2.mapW (inl r pre q)))
  | none=>none
 | none=>none
def Env.kill (e:Env) (r:Nat) (pre:zAT):Env:=e.map fun x=>(x.1,x.2.mapW (lose r pre))
def PV.num:PV→Bool
 | .int .. => true
 | .bool _=>true
 | _=>false
def PV.isWay:PV→Bool
 | .addr .. | .bor .. | .bsl .. | .bmap .. | .log .. => true
 | _=>false
def Env.forget (e:Env) (h:Nat):Env:=e.map fun x=>bif Nat.beq x.1 h||x.2.num then x else (x.1,.bad)
def zAj (r:Nat) (root:PV) (pre:zAT) (i c n:Nat):Option (Bool×List PV) :=
 match zAz root.unlock pre with
 | some q=>match zBa q with
  | some xs=>match xs[i]? with
   | some x=>bif Nat.ble (c+n) x.cells.length then some (x.isAgg,zBP r pre i c ((x.cells.drop c).take n)) else none
   | none=>none
  | none=>none
 | none=>none
def zDr:PV→zAT→Bool
 | .own ..,_=>true
 | _,[]=>false
 | p,(i,c)::rest =>
  match zA0 p with
  | some xs=>match xs[i]? with
   | some x=>match x.cells[c]? with
    | some q=>zDr q rest
    | none=>false
   | none=>false
  | none=>false
def zA5 (root:PV) (pre:zAT) (i c:Nat) (qs:List PV):Option PV :=
 bif zDr root pre && !(zBB qs).isEmpty then none else zAr (fun q=>match zBa q with
  | some xs=>match xs[i]? with
   | some x=>bif Nat.ble (c+qs.length) x.cells.length then zAJ q (xs.set i (zAK x c qs)) else none
   | none=>none
  | none=>none) root pre
def PM.run (o:zAL):PM→Env→Option Env
 | .ok,e=>some e
 | .fail,_=>none
 | .view s k,e=>(k (Eng.view s (e.get s))).run o e
 | .get s k,e=>match e.get s with
  | .lock _=>none
  | p=>(k p).run o e
 | .set s p k,e=>k.run o (e.set s p)
 | .cells r pre i c n k,e=>match zAj r (e.get r) pre i c n with
  | some (a,qs)=>(k a qs).run o e
  | none=>none
 | .deep r pre k,e=>match zAz (e.get r).unlock pre with
  | some q=>(k q).run o e
  | none=>none
 | .wcells r pre i c qs k,e=>match zA5 (e.get r) pre i c qs with
  | some root=>k.run o (e.set r root)
  | none=>none
 | .wnode r pre q k,e=>bif (e.get r).isLock then none else match zAr (fun _=>some q) (e.get r) pre with
  | some root=>k.run o (e.set r root)
  | none=>none
 | .kill r pre k,e=>k.run o (e.kill r pre)
 | .frz r pre k,e=>match e.frz r pre with
  | some e'=>k.run o e'
  | none=>none
 | .killEx r keep k,e=>k.run o (e.killEx r keep)
 | .forget h k,e=>k.run o (e.forget h)
 | .call f args hid k,e=>match o f args hid with
  | some (v,hid')=>(k v hid').run o e
  | none=>none
structure Tok where
 look:List Nat:=[]
 rd:List Nat:=[]
 cel:List (Nat×zAT):=[]
 wr:List Nat:=[]
 inn:List (Nat×zAT):=[]
 ways:List (Nat×zAT):=[]
 kills:List Nat:=[]
 killsIn:List Nat:=[]
 all:Bool:=false
 deriving Inhabited
def Tok.join (a b:Tok):Tok:=⟨a.look++b.look,a.rd++b.rd,a.cel++b.cel,a.wr++b.wr,a.inn++b.inn,a.ways++b.ways,a.kills++b.kills,a.killsIn++b.killsIn,a.all||b.all⟩
def zCe:PV→PV→Bool
 | .box p,.box q=>p.isAgg==q.isAgg&&Nat.beq p.cells.length q.cells.length
 | .own sz xs,.own sz' ys=>Nat.beq sz sz'&&Nat.beq xs.length ys.length
 | .omap _,.omap _=>true
 | _,_=>false
def zAp:PV→PV→zAT→Bool
 | .agg cs,.agg ds,(_,c)::_=>match cs[c]?,ds[c]? with
  | some p,some q=>zCe p q
  | _,_=>false
 | p,q,_=>zCe p q
def zQQ (a b:List Nat):Bool:=a.any fun x=>b.any (Nat.beq x)
def zLx (l:List (Nat×zAT)):List Nat:=l.map (·.1)
def zNt (a b:Tok):Bool :=
 a.all||zQQ a.wr b.look||zQQ a.wr b.rd||zQQ a.wr (zLx b.cel)||zQQ a.wr b.wr||zQQ a.wr (zLx b.inn)||zQQ (zLx a.inn) b.rd||zQQ (zLx a.inn) (zLx b.inn) ||
  a.inn.any (fun w=>b.cel.any fun c=>Nat.beq w.1 c.1&&w.2.isPrefixOf c.2)||zQQ a.kills (zLx b.ways) ||
  zQQ a.killsIn (zLx (b.ways.filter fun w => !w.2.isEmpty))
def zON (a b:Tok):Bool:=zNt a b||zNt b a
def zE5 (s:Nat) (p q:PV):Tok:={wr:=[s],ways:=p.ways++q.ways}
def zAN (D:List Nat) (g g':Nat→PV) (ks ki:List Nat):Tok:={wr:=D,ways:=D.flatMap fun s=>(g s).ways++(g' s).ways,kills:=ks,killsIn:=ki}
def zC4 (e:Env) (h:Nat×zAT→Bool):List Nat:=(e.filter fun x=>x.2.ways.any h).map (·.1)
def zBe (r:Nat) (w:zAT) (b:Bool) (p q:PV):Tok:={inn:=bif b then [(r,w)] else [],wr:=bif b then [] else [r],ways:=p.ways++q.ways}
def PM.runT (o:zAL):PM→Env→Option (Env×Tok)
 | .ok,e=>some (e,{})
 | .fail,_=>none
 | .view s k,e=>((k (Eng.view s (e.get s))).runT o e).map fun x=>(x.1,Tok.join {look:=[s]} x.2)
 | .get s k,e=>match e.get s with
  | .lock _=>none
  | p=>((k p).runT o e).map fun x=>(x.1,Tok.join {rd:=[s]} x.2)
 | .set s p k,e=>(k.runT o (e.set s p)).map fun x=>(x.1,Tok.join (zE5 s (e.get s) p) x.2)
 | .cells r pre i c n k,e=>match zAj r (e.get r) pre i c n with
  | some (a,qs)=>((k a qs).runT o e).map fun x=>(x.1,Tok.join {cel:=[(r,pre)]} x.2)
  | none=>none
 | .deep r pre k,e=>match zAz (e.get r).unlock pre with
  | some q=>((k q).runT o e).map fun x=>(x.1,Tok.join {rd:=[r]} x.2)
  | none=>none
 | .wcells r pre i c qs k,e=>match zA5 (e.get r) pre i c qs with
  | some root=>(k.runT o (e.set r root)).map fun x=>(x.1,Tok.join (zBe r [] (zAp (e.get r) root pre) (e.get r) root) x.2)
  | none=>none
 | .wnode r pre q k,e=>bif (e.get r).isLock then none else match zAr (fun _=>some q) (e.get r) pre with
  | some root=>(k.runT o (e.set r root)).map fun x=>(x.1,Tok.join (zBe r pre.dropLast (zAp (e.get r) root pre&&(pre.isEmpty || !q.isAgg)) (e.get r) root) x.2)
  | none=>none
 | .kill r pre k,e=>(k.runT o (e.kill r pre)).map fun x=>(x.1,Tok.join (zAN (zC4 e fun z=>zAQ r pre z.1 z.2) e.get (e.kill r pre).get [r] []) x.2)
 | .frz r pre k,e=>match e.frz r pre with
  | some e'=>(k.runT o e').map fun x=>(x.1,Tok.join (zAN (r::zC4 e fun z=>zAQ r pre z.1 z.2) e.get e'.get [r] []) x.2)
  | none=>none
 | .killEx r keep k,e=>(k.runT o (e.killEx r keep)).map fun x=>(x.1,Tok.join (zAN (zC4 e fun z=>Nat.beq z.1 r && !z.2.isEmpty) e.get (e.killEx r keep).get [] [r]) x.2)
 | .forget h k,e=>(k.runT o (e.forget h)).map fun x=>(x.1,{all:=true})
 | .call f args hid k,e=>match o f args hid with
  | some (v,hid')=>(k v hid').runT o e
  | none=>none
variable (P:Program)
def szT (t:TypeId):Option Nat:=(P.info? t).map (·.size)
def zHV (t:TypeId):Option Nat:=(P.info? t).map (·.bytes)
def shT (t:TypeId):Option (Option Nat) :=
 match P.underlying t,P.info? t with
 | some (.struct _),some i=>some (some i.size)
 | some (.array _ _),some i=>some (some i.size)
 | some _,some i=>if i.size=1 then some none else none
 | _,_=>none
def zBX (t:TypeId):Option TypeId :=
 match P.underlying t with
 | some (.slice e)=>some e
 | _=>none
def zeroCells:Nat→TypeId→Option (List PV)
 | 0,_=>none
 | n+1,t=>match P.underlying t with
  | some (.int k)=>some [.int k 0]
  | some .bool=>some [.bool false]
  | some (.pointer _)=>some [.nilp]
  | some (.func ..)=>some [.nilf]
  | some (.map ..)=>some [.nilm]
  | some (.slice e)=>(szT P e).map fun s=>[.own s []]
  | some (.array m e)=>(zeroCells n e).map fun z=>(List.replicate m z).flatten
  | some (.struct fs)=>(fs.toList.mapM fun f=>zeroCells n f.type).map List.flatten
  | _=>none
def zJG:PV→Value→Bool
 | .int k n,.int k' m=>decide (k=k')&&decide (n=m)
 | .bool a,.bool b=>a==b
 | .nilp,.pointer none=>true
 | .nilf,.nilFunc=>true
 | .nilm,.map none=>true
 | .own _ [],.slice none 0 0=>true
 | _,_=>false
def zSt:List PV→List Value→Bool
 | [],[]=>true
 | p::ps,v::vs=>zJG p v&&zSt ps vs
 | _,_=>false
def zLe:PV→Value→Bool
 | .agg cs,.agg vs=>zSt cs vs.toList
 | .agg _,_=>false
 | p,v=>zJG p v
def zDd (t:TypeId):Option PV :=
 match zeroCells P 20 t,shT P t,(P.info? t).bind (·.zero) with
 | some cs,some sh,some v=>bif zLe (zNs sh cs) v then some (zNs sh cs) else none
 | _,_,_=>none
def zE4:Value→PV
 | .int k n => .int k n
 | .bool b => .bool b
 | .slice none 0 0 => .nils 0
 | .pointer none => .nilp
 | .nilFunc => .nilf
 | .map none => .nilm
 | .agg cs => .agg (cs.toList.map fun | .int k n => .int k n | .bool b => .bool b | _ => .bad)
 | _ => .bad
def opd (x:Operand) (k:PV→PM):PM :=
 match x with
 | .tmp t => .view t k
 | .const v=>k (zE4 v)
 | .func f=>k (.func f [] [])
 | .global _ => .fail
def zOL (x:Operand) (k:PV→PM):PM :=
 match x with
 | .tmp t => .get t fun p=>if p.heavy then .set t .bad (k p) else k p
 | .const v=>k (zE4 v)
 | .func f=>k (.func f [] [])
 | .global _ => .fail
def zR3:List Operand→(List PV→PM)→PM
 | [],k=>k []
 | x::xs,k=>opd x fun p=>zR3 xs fun ps=>k (p::ps)
def zSo:List Operand→(List PV→PM)→PM
 | [],k=>k []
 | x::xs,k=>zOL x fun p=>zSo xs fun ps=>k (p::ps)
def lay (d:Nat) (p:PV) (k:PM):PM:=bif p.heavy then .kill d [] (.set d (p.mapW (lose d [])) k) else .set d p k
def put (d:Option Nat) (p:PV):PM :=
 match d with
 | none => .ok
 | some d=>bif p.isTup then .fail else lay d p .ok
def zBr (d i:Nat):Nat:=2000000+16*d+i
def zEL (d:Nat):Nat→List PV→PM→PM
 | n,[],k => .set d (.tup (List.replicate n .bad)) k
 | i,p::ps,k=>lay (zBr d i) p (zEL d (i+1) ps k)
def zI9 (d s:Nat):Bool:=Nat.ble (zBr d 0) s&&Nat.blt s (zBr d 16)
def zEE (d:Option Nat) (v:PV):PM :=
 match d,v with
 | some d,.tup vs=>bif Nat.ble vs.length 16&&(zBB vs).all (fun w => !zI9 d w.1) then .set d .bad (zEL d 0 vs .ok) else .fail
 | d,v=>put d v
def zFE (s d:Nat):Nat→Nat→PM
 | n,0 => .set d (.tup (List.replicate n .bad)) .ok
 | i,n+1 => .get (zBr s i) fun p => .set (zBr s i) .bad (lay (zBr d i) p (zFE s d (i+1) n))
def zVu:PV→PV→Option Bool
 | .int k a,.int k' b=>if k=k' then some (a==b) else none
 | .bool a,.bool b=>some (a==b)
 | .nilp,.nilp=>some true
 | _,_=>none
def zGh:List PV→List PV→Option Bool
 | [],[]=>some true
 | p::ps,q::qs=>match zVu p q,zGh ps qs with
  | some a,some b=>some (a&&b)
  | _,_=>none
 | _,_=>none
def zE1:PV→Bool
 | .sl (_::_)=>true
 | .nn=>true
 | .own _ (_::_)=>true
 | .bor _ _ _ _ (_+1)=>true
 | _=>false
def sub (p:PV) (off:Nat) (sh:Option Nat):Option PV :=
 match p,sh with
 | .agg cs,some n=>if off+n≤cs.length then some (.agg ((cs.drop off).take n)) else none
 | .agg cs,none=>cs[off]?
 | _,_=>none
def zUk (eq:TypeId→PV→PV→Option Bool) (sh:TypeId→Option (Option Nat)) (p q:PV):List Field→Option Bool
  | []=>some true
  | f :: fs =>
    if f.name = "_" then zUk eq sh p q fs else
    match sh f.type with
    | some s=>match sub p f.offset s,sub q f.offset s with
      | some a,some b=>match eq f.type a b with
        | some true=>zUk eq sh p q fs
        | r=>r
      | _,_=>none
    | none=>none
def zU8 (eq:PV→PV→Option Bool) (sh:Option Nat) (sz:Nat) (p q:PV):Nat→Nat→Option Bool
 | _,0=>some true
 | i,n+1 =>
  match sub p (i*sz) sh,sub q (i*sz) sh with
  | some a,some b=>match eq a b with
   | some true=>zU8 eq sh sz p q (i+1) n
   | r=>r
  | _,_=>none
def eqT:Nat→TypeId→PV→PV→Option Bool
 | 0,_,_,_=>none
 | n + 1,t,p,q =>
  match P.underlying t,p,q with
  | some (.int _),.int k a,.int k' b=>if k=k' then some (a==b) else none
  | some .bool,.bool a,.bool b=>some (a==b)
  | some (.pointer _),.nilp,.nilp=>some true
  | some (.struct fs),.agg xs,.agg ys=>bif P.stoodInHeld t then none else zUk (eqT n) (shT P) (.agg xs) (.agg ys) fs.toList
  | some (.array len e),.agg xs,.agg ys=>match szT P e,shT P e with
   | some sz,some sh=>zU8 (eqT n e) sh sz (.agg xs) (.agg ys) 0 len
   | _,_=>none
  | _,_,_=>none
def eqV (t:TypeId) (p q:PV):Option Bool :=
 match q with
 | .nils _=>match P.underlying t,p with
  | some (.slice _),.nils _=>some true
  | some (.slice _),p=>bif zE1 p then some false else none
  | _,_=>none
 | .agg ys=>match p with
  | .agg xs=>bif P.eqGuardType P.depth t then none else eqT P 20 t (.agg xs) (.agg ys)
  | _=>none
 | q=>bif p.isAgg then none else eqT P 20 t p q
def zR1 (op:BinOp) (k:IntKind) (a b:Int):Option PV :=
 match op with
 | .add=>some (.int k (k.wrap (a+b)))
 | .sub=>some (.int k (k.wrap (a-b)))
 | .mul=>some (.int k (k.wrap (a*b)))
 | .quo=>if b=0 then none else some (.int k (k.wrap (a.tdiv b)))
 | .rem=>if b=0 then none else some (.int k (a.tmod b))
 | .and=>some (.int k (k.wrap (BitVec.ofInt k.bits a &&& BitVec.ofInt k.bits b).toNat))
 | .or=>some (.int k (k.wrap (BitVec.ofInt k.bits a ||| BitVec.ofInt k.bits b).toNat))
 | .xor=>some (.int k (k.wrap (BitVec.ofInt k.bits a ^^^ BitVec.ofInt k.bits b).toNat))
 | .eql=>some (.bool (a==b))
 | .neq=>some (.bool (a != b))
 | .lss=>some (.bool (decide (a<b)))
 | .leq=>some (.bool (decide (a≤b)))
 | .gtr=>some (.bool (decide (a>b)))
 | .geq=>some (.bool (decide (a≥b)))
 | _=>none
def zPf (op:BinOp) (t:TypeId) (p q:PV):Option PV :=
 match op,p,q with
 | .shl,.int k a,.int _ b=>if b<0 then none else some (.int k (k.wrap (a*2 ^ (min b.toNat k.bits))))
 | .shr,.int k a,.int _ b=>if b<0 then none else some (.int k (a.fdiv (2 ^ (min b.toNat k.bits))))
 | op,.int k a,.int k' b=>if k=k' then zR1 op k a b else none
 | .eql,p,q=>(eqV P t p q).map .bool
 | .neq,p,q=>(eqV P t p q).map fun b => .bool (!b)
 | _,_,_=>none
def lenOf:PV→Option Nat
 | .nils _=>some 0
 | .nn=>some 0
 | .sl xs=>some xs.length
 | .bor _ _ _ _ n=>some n
 | .bsl _ _ _ _ _ _ n=>some n
 | _=>none
def zMA (r:Nat) (pre:zAT) (i c:Nat) (sh:Option Nat) (k:PV→PM):PM :=
 match sh with
 | some n => .cells r pre i c n fun a qs=>bif a then k (.agg qs) else .fail
 | none => .cells r pre i c 1 fun _ qs=>k (qs.headD .bad)
def zDE (r:Nat) (pre:zAT) (i:Nat):Nat→List PV→PM→PM
 | _,[],k=>k
 | c,q::qs,k=>bif q.heavy then .kill r (pre++[(i,c)]) (zDE r pre i (c+1) qs k) else zDE r pre i (c+1) qs k
def zEk (res:PV→(PV→List (Nat×zAT)→PM)→PM):List PV→(List PV→List (Nat×zAT)→PM)→PM
 | [],k=>k [] []
 | p::ps,k=>res p fun q l=>zEk res ps fun qs m=>k (q::qs) (l++m)
def resolve (hb:Nat):Nat→PV→(PV→List (Nat×zAT)→PM)→PM
 | 0,_,_ => .fail
 | n + 1,p,k =>
  match p with
  | .addr r pre i c sh=>bif Nat.ble hb r then k p [] else .deep r pre fun q=>match zBa q with
   | some xs=>match xs[i]? with
    | some x=>match sh with
     | some m=>bif Nat.ble (c+m) x.cells.length&&x.isAgg then resolve hb n (.agg ((x.cells.drop c).take m)) fun q l=>k (.ref q) ((r,pre)::l) else .fail
     | none=>match x.cells[c]? with
      | some q=>bif q.oneCell then resolve hb n q fun q l=>k (.ref q) ((r,pre)::l) else .fail
      | none => .fail
    | none => .fail
   | none => .fail
  | .bor r pre _ lo m=>bif Nat.ble hb r then k p [] else .deep r pre fun q=>match q with
   | .own _ xs=>bif Nat.ble (lo+m) xs.length then k (.sl (zAx ((xs.drop lo).take m))) [(r,pre)] else .fail
   | _ => .fail
  | .bsl r pre i c sz ag m=>bif Nat.ble hb r then k p [] else .deep r pre fun q=>match zBa q with
   | some xs=>match xs[i]? with
    | some x=>bif zCi ag sz m ((x.cells.drop c).take (m*sz))&&(zBB x.cells).isEmpty then k (.sl (zCg ag sz m (zAx ((x.cells.drop c).take (m*sz))))) [(r,pre)] else .fail
    | none => .fail
   | none => .fail
  | .bmap r pre=>bif Nat.ble hb r then k p [] else .deep r pre fun q=>match q with
   | .omap es=>k (.map es) [(r,pre)]
   | _ => .fail
  | .agg cs=>bif (p.ways).isEmpty then k (zAZ p) [] else zEk (resolve hb n) cs fun qs l=>k (.agg qs) l
  | .func f a b=>bif (p.ways).isEmpty then k p [] else zEk (resolve hb n) a fun as l=>zEk (resolve hb n) b fun bs m=>k (.func f as bs) (l++m)
  | .ref q=>bif (q.ways).isEmpty then k p [] else resolve hb n q fun q l=>k (.ref q) l
  | .bad=>k .bad []
  | p=>bif p.ways.all (fun w=>Nat.ble hb w.1) then k (zAZ p) [] else .fail
def zG3 (p:PV) (k:List PV→PM):PM :=
 match p with
 | .nils _=>k []
 | .nn=>k []
 | .sl xs=>k xs
 | .bor r pre z lo n => .deep r pre fun q=>match q with
  | .own _ xs=>bif Nat.ble (lo+n) xs.length then k ((xs.drop lo).take n) else .fail
  | _ => .fail
 | .bsl r pre i c sz ag n => .cells r pre i c (n*sz) fun _ cs=>bif zCi ag sz n cs&&cs.all (fun q=>q.plain0) then k (zCg ag sz n cs) else .fail
 | _ => .fail
def zAs (p:PV) (k:PV→List (Nat×zAT)→PM):PM:=resolve zAd depth p k
def zLk (hb:Nat):Nat→PV→(PV→PM)→PM
 | 0,_,_ => .fail
 | n+1,p,k=>match p.ways.find? (fun w=>Nat.blt w.1 hb) with
  | none=>k p
  | some (r,pre) => .deep r pre fun q => .frz r pre (zLk hb n (p.mapW (inl r pre q)) k)
def zDG:Nat:=64
end Go.Eng
namespace Go.Eng
open Go
structure FHint where
 drop:Nat→List Nat:=fun _=>[]
 loopDrop:Nat→List Nat:=fun _=>[]
 mode:List Nat:=[]
 frz:Bool:=false
 intr:Nat:=0
 take:Nat→List Nat:=fun _=>[]
 nils:Bool:=false
 frzs:Nat→List Nat:=fun _=>[]
abbrev zBk:=FuncId→FHint
instance:Inhabited FHint:=⟨{}⟩
def zEf (m:List (Nat×Nat)):PV→PV
 | .addr r pre i c sh=>match m.lookup r with
  | some h => .addr h pre i c sh
  | none => .bad
 | .bor r pre z lo n=>match m.lookup r with
  | some h => .bor h pre z lo n
  | none => .bad
 | .bsl r pre i c sz ag n=>match m.lookup r with
  | some h => .bsl h pre i c sz ag n
  | none => .bad
 | .bmap r pre=>match m.lookup r with
  | some h => .bmap h pre
  | none => .bad
 | p=>p
def zGg (m:List (Nat×Nat)) (p:PV):PV:=p.mapW (zEf m)
def zMK (p:PV):List Nat:=(p.ways).map (·.1)
structure Arg where
 p:PV
 shared:List (Nat×zAT):=[]
 byref:Bool:=false
def zDO:List Nat→List PV→(List (Bool×PV)→PM)→PM
 | _,[],k=>k []
 | ms,p::ps,k =>
  match ms.headD 0,p with
  | 2,.bor r pre _ 0 n => .deep r pre fun q=>match q with
   | .own sz xs=>bif Nat.ble n xs.length then .wnode r pre .bad (zDO ms.tail ps fun as=>k ((true,.own sz ((xs.drop 0).take n))::as)) else .fail
   | _ => .fail
  | _,p=>zDO ms.tail ps fun as=>k ((false,p)::as)
def zCm:List Nat→List (Bool×PV)→(List Arg→PM)→PM
 | _,[],k=>k []
 | ms,(true,p)::ps,k=>zCm ms.tail ps fun as=>k ({p:=p}::as)
 | ms,(false,p)::ps,k =>
  bif Nat.beq (ms.headD 0) 1 then zCm ms.tail ps fun as=>k ({p:=p,byref:=true}::as)
  else zAs p fun q l=>zCm ms.tail ps fun as=>k ({p:=q,shared:=l}::as)
def zDX:List Nat→List (Bool×PV)→(List Arg→PM)→PM
 | _,[],k=>k []
 | ms,(true,p)::ps,k=>zDX ms.tail ps fun as=>k ({p:=p}::as)
 | ms,(false,p)::ps,k =>
  bif Nat.beq (ms.headD 0) 1 then zDX ms.tail ps fun as=>k ({p:=p,byref:=true}::as)
  else zLk zAd zDG p fun q=>zDX ms.tail ps fun as=>k ({p:=q}::as)
def zNe:List Nat→(List PV→PM)→PM
 | [],k=>k []
 | r::rs,k => .get r fun p=>zNe rs fun ps=>k (p::ps)
def zF8 (old new:PV):Bool :=
 match new,old with
 | .own sz _,.own sz' _=>Nat.beq sz sz'
 | .own ..,_=>false
 | .box _,.box _=>true
 | .box _,_=>false
 | .omap _,.omap _=>true
 | .omap _,_=>false
 | .lock _,_=>false
 | .tup _,_=>false
 | _,_=>true
def zM7:List Nat→List PV→List PV→PM→PM
 | r::rs,o::os,p::ps,k=>bif zF8 o p then .wnode r [] p (zM7 rs os ps k) else .fail
 | [],[],[],k=>k
 | _,_,_,_ => .fail
def zJM:Nat→List Nat→(List Nat→PM)→PM
 | 0,R,k=>k R
 | n+1,R,k=>zNe R fun ts=>let R':=(R++ts.flatMap zMK).eraseDups;bif Nat.beq R'.length R.length then k R else zJM n R' k
def zJ2:List Nat→PM→PM
 | [],k=>k
 | r::rs,k => .killEx r [] (zJ2 rs k)
def zOa (as:List Arg):List Nat:=(as.flatMap fun a=>if a.byref then zMK a.p else []).eraseDups
def zHc:List Nat→Bool
 | []=>true
 | r::rs => !rs.contains r&&zHc rs
variable (P:Program) (H:zBk)
def zDl (R:List Nat):List (Nat×Nat):=R.zipIdx.map fun (r,j)=>(r,zAl+j)
def zB9 (R:List Nat):List (Nat×Nat):=R.zipIdx.map fun (r,j)=>(zAl+j,r)
def zPt (d:Option Nat) (f:FuncId) (as:List Arg) (again:PM):PM :=
 zJM 3 (zOa as) fun R =>
 bif zHc R&&R.all (fun r=>Nat.blt r zAd)&&Nat.ble R.length 1000&&Nat.ble as.length 1000&&(as.flatMap (·.shared)).all (fun x => !R.contains x.1) then
  zNe R fun hid => .call f (as.map fun a=>if a.byref then zGg (zDl R) a.p else a.p) (hid.map (zGg (zDl R))) fun v hid' =>
   bif (as.flatMap (·.shared)).isEmpty||v.free&&zER hid' then
    zJ2 R<|zM7 R hid (hid'.map (zGg (zB9 R))) (zEE d (zGg (zB9 R) v))
   else again
 else .fail
def zMU (d:Option Nat) (f:FuncId) (args:List PV):PM :=
 zDO (H f).mode args fun bs=>zCm (H f).mode bs fun as=>zPt d f as (zDX (H f).mode bs fun as=>zPt d f as .fail)
def zVb:List PV→Option PV
 | .int k a::r=>(r.foldl (fun m p=>match m,p with
  | some m,.int k' b=>if k=k' then some (if b>m then b else m) else none
  | _,_=>none) (some a)).map (.int k)
 | _=>none
def zUs:List PV→Option PV
 | .int k a::r=>(r.foldl (fun m p=>match m,p with
  | some m,.int k' b=>if k=k' then some (if b<m then b else m) else none
  | _,_=>none) (some a)).map (.int k)
 | _=>none
def zI2 {α:Type} (x:Option α) (k:α→PM):PM :=
 match x with
 | some a=>k a
 | none => .fail
def zS1:PV→(Bool→PM)→PM
 | .bool b,k=>k b
 | _,_ => .fail
def zG2:PV→(Nat→PM)→PM
 | .int _ n,k=>if 0≤n then k n.toNat else .fail
 | _,_ => .fail
def zAC:Nat:=4294967296
def zF9 (r:Nat) (pre:zAT):Nat→List PV→PM→PM
 | _,[],k=>k
 | i,y::ys,k=>zDE r pre i 0 y.cells (.wcells r pre i 0 y.cells (zF9 r pre (i+1) ys k))
def zKA (d:Option Nat) (r:Nat) (pre:zAT) (z lo n s:Nat) (xs ys:List PV):PM :=
 bif Nat.blt 0 z&&Nat.beq z s&&Nat.ble (lo+n+ys.length) xs.length&&ys.all (fun y=>y.plain) then zF9 r pre (lo+n) ys (put d (.bor r pre z lo (n+ys.length))) else .fail
def zKL (d:Option Nat) (sz:Nat) (base:PV) (ys:List PV):PM :=
 bif ys.all (fun y=>Nat.beq y.cells.length sz&&y.cells.all fun q=>q.oneCell)&&(zBB ys).isEmpty then
 match base with
 | .bor r pre z lo n => .deep r pre fun q=>match q with
  | .own s xs =>
   bif Nat.beq s sz&&Nat.ble (lo+n) xs.length&&Nat.ble (xs.length+ys.length) zAC then
    bif Nat.beq (lo+n) xs.length then
     bif Nat.beq lo 0 then .wnode r pre .bad (put d (.own sz (xs++ys))) else .fail
    else zKA d r pre z lo n s xs ys
   else .fail
  | _ => .fail
 | .nils _=>bif Nat.ble ys.length zAC then put d (.own sz ys) else .fail
 | _ => .fail
 else .fail
def zNr (x:Operand) (k:List PV→PM):PM :=
 match x with
 | .tmp t => .get t fun p=>match p with
  | .own _ xs => .set t .bad (k xs)
  | _ => .view t fun p=>zG3 p fun xs=>if xs.all (fun x=>x.plain) then k xs else .fail
 | x=>opd x fun p=>zG3 p fun xs=>if xs.all (fun x=>x.plain) then k xs else .fail
def zSJ (d:Option Nat) (z:Option PV×Option Nat) (p:PV):PM :=
 match p,d,z.1,z.2 with
 | .bor r pre z lo n,none,some q,some s=>bif Nat.blt 0 z&&Nat.beq z s&&Nat.beq q.cells.length s&&q.plain then zF9 r pre lo (List.replicate n q) .ok else .fail
 | .sl [],none,some _,some _ => .ok
 | .nils _,none,some _,some _ => .ok
 | _,_,_,_ => .fail
def zBw (d:Option Nat) (b:Builtin) (ts:List TypeId) (args:List Operand):PM :=
 match b,args,ts with
 | .len,[x],t::_=>opd x fun p=>match P.underlying t with
  | some (.array n _)=>put d (.int .i64 n)
  | some (.slice _)=>match lenOf p with
   | some n=>put d (.int .i64 n)
   | none => .fail
  | _ => .fail
 | .append,[x,y],[t,t2]=>bif (zBX P t2).isNone then .fail else match (zBX P t).bind (szT P),(zBX P t).bind (zHV P),(zBX P t).bind (zDd P) with
  | some sz,some by_,some z=>if by_≤16384∧z.cells.length=sz then opd x fun base=>zNr y fun ys=>zKL d sz base ys else .fail
  | _,_,_ => .fail
 | .copy,[x,y],t::_=>zI2 ((zBX P t).bind (szT P)) fun s=>opd x fun p=>opd y fun q=>zG3 q fun ys=>match p with
  | .bor r pre z lo n=>bif Nat.beq z s&&Nat.blt 0 z&&Nat.ble ys.length n&&ys.all (fun y=>y.plain&&Nat.beq y.cells.length s) then zF9 r pre lo ys (put d (.int .i64 ys.length)) else .fail
  | _ => .fail
 | .clear,[x],t::_=>opd x fun p=>zSJ d ((zBX P t).bind (zDd P),(zBX P t).bind (szT P)) p
 | .max,xs,_=>zR3 xs fun ps=>match zVb ps with
  | some v=>put d v
  | none => .fail
 | .min,xs,_=>zR3 xs fun ps=>match zUs ps with
  | some v=>put d v
  | none => .fail
 | _,_,_ => .fail
def zFp (place:Nat→Option (Nat×Nat)):List PV→List (Nat×PV)→Option (List PV)
 | z,[]=>some z
 | z,(i,v)::r=>match place i with
  | some (off,n)=>if v.cells.length=n∧off+n≤z.length∧v.whole=true then zFp place (z.take off++v.cells++z.drop (off+n)) r else none
  | none=>none
def zOc (place:Nat→Option (Nat×Nat)) (z:List PV) (ps:List (Nat×Operand)) (k:List PV→PM):PM :=
 zSo (ps.map (·.2)) fun vs=>match zFp place z ((ps.map (·.1)).zip vs) with
  | some cs=>k cs
  | none => .fail
def zMv (n:Nat) (z:PV) (ps:List (Nat×PV)):List PV :=
 ps.foldl (fun xs (i,v)=>xs.set i v) (List.replicate n z)
def zKZ (t:TypeId) (i:Nat):Option Field :=
 match P.underlying t with
 | some (.struct fs)=>fs[i]?
 | _=>none
def zOh (p:PV) (off:Nat) (sh:Option Nat):Option PV :=
 match p with
 | .ref q=>match sub q off sh with
  | some x=>bif sh.isSome||x.oneCell then some (.ref x) else none
  | none=>none
 | .addr r pre i c (some _)=>some (.addr r pre i (c+off) sh)
 | _=>none
def zDP (p:PV) (off:Nat) (sh:Option Nat):Option PV :=
 match sh with
 | some 0=>none
 | sh=>zOh p off sh
def zRd (x:Option Operand) (n:Nat) (k:Nat→PM):PM :=
 match x with
 | some x=>opd x fun p=>zG2 p k
 | none=>k n
def zNC (d:Option Nat) (s:Nat) (p:PV) (l h:Nat):PM :=
 match p with
 | .sl xs=>bif Nat.ble l h&&Nat.ble h xs.length&&xs.all (fun x=>Nat.beq x.cells.length s) then put d (.sl ((xs.drop l).take (h-l))) else .fail
 | .bor r pre z a n =>
  bif Nat.beq z s&&Nat.ble l h then
   bif Nat.ble h n then put d (bif Nat.beq l 0||Nat.blt l h then .bor r pre z (a+l) (h-l) else .sl [])
   else .deep r pre fun q=>match q with
    | .own _ xs=>bif Nat.ble (a+h) xs.length then put d (bif Nat.beq l 0||Nat.blt l h then .bor r pre z (a+l) (h-l) else .sl []) else .fail
    | _ => .fail
  else .fail
 | _ => .fail
def zPT (d:Option Nat) (n s:Nat) (sh:Option Nat) (p:PV) (l h:Nat):PM :=
 bif Nat.ble l h&&Nat.ble h n&&(Nat.beq l 0||Nat.blt l n) then
  match p with
  | .addr r pre i c _=>put d (.bsl r pre i (c+l*s) s sh.isSome (h-l))
  | .ref (.agg cs)=>bif Nat.ble (n*s) cs.length&&zCi sh.isSome s (h-l) ((cs.drop (l*s)).take ((h-l)*s))&&(zBB cs).isEmpty then put d (.sl (zCg sh.isSome s (h-l) ((cs.drop (l*s)).take ((h-l)*s)))) else .fail
  | _ => .fail
 else .fail
def zJl (d:Option Nat) (t:TypeId) (x:Operand) (lo hi mx:Option Operand):PM :=
 match mx with
 | some m=>opd x fun p=>match p,P.underlying t with
  | .bor _ _ _ _ n,some (.slice e)=>zI2 (szT P e) fun _=>zRd (some m) n fun m=>match hi with
   | some hi=>zRd (some hi) n fun h=>zRd lo 0 fun l=>bif Nat.ble l h&&Nat.ble h m&&Nat.ble m n then put d .bad else .fail
   | none => .fail
  | _,_ => .fail
 | none=>opd x fun p=>match P.underlying t with
  | some (.array n e)=>match szT P e,shT P e with
   | some s,some sh=>zRd hi n fun h=>zRd lo 0 fun l=>zPT d n s sh p l h
   | _,_ => .fail
  | some (.slice e)=>match szT P e,lenOf p with
   | some s,some n=>zRd hi n fun h=>zRd lo 0 fun l=>zNC d s p l h
   | _,_ => .fail
  | _ => .fail
def zM5 (p:PV) (k:PV→PM) (k2:PM):PM :=
 match p with
 | .bor r pre _ lo n => .deep r pre fun q=>match q with
  | .own sz xs=>bif Nat.beq lo 0&&Nat.beq n xs.length then .wnode r pre .bad (k (.own sz xs)) else k2
  | _=>k2
 | .bmap r pre => .deep r pre fun q=>match q with
  | .omap es => .wnode r pre .bad (k (.omap es))
  | _=>k2
 | p=>k p
def zLn (p:PV) (k:PV→PM):PM:=zM5 p k (zLk zAd zDG p k)
def zJw:List PV→(List PV→PM)→PM
 | [],k=>k []
 | p::ps,k=>zM5 p (fun q=>zJw ps fun qs=>k (q::qs)) .fail
def zFd (tk:Bool) (p:PV) (k:PV→PM):PM :=
 match p with
 | .agg cs=>bif tk then zJw cs fun cs=>k (.agg cs) else bif cs.any (fun c=>match c with | .bor .. | .bmap .. | .bsl .. => true | _=>false) then zLk zAd zDG p k else k p
 | .bsl .. => zLk zAd zDG p k
 | .bor .. | .bmap .. => bif tk then zLn p k else zLk zAd zDG p k
 | p=>k p
def zFO (tk:Bool):List PV→(List PV→PM)→PM
 | [],k=>k []
 | p::ps,k=>zFd tk p fun q=>zFO tk ps fun qs=>k (q::qs)
def zPz (r:Nat) (pre:zAT) (i c:Nat):PV→Option Nat
 | .bor r' q z 0 n=>if r'=r&&q=pre++[(i,c)] then some n else none
 | _=>none
def zHY (r:Nat) (pre:zAT) (i c:Nat) (v:PV):PM :=
 bif (!v.heavy||v.ways.all (fun w => !(zAQ r pre w.1 w.2&&Nat.blt pre.length w.2.length)))&&v.cells.all (fun q=>q.oneCell) && !v.cells.isEmpty then zDE r pre i c v.cells (.wcells r pre i c v.cells .ok) else .fail
def zIl (tk:Bool) (r:Nat) (pre:zAT) (v:PV) (k:PV→PM):PM :=
 bif pre.isEmpty && !tk then .view r fun q=>(match q with | .addr .. => k v | _=>zFd tk v k) else zFd tk v k
def zH0 (tk:Bool) (r:Nat) (pre:zAT) (i c:Nat) (v:PV):PM :=
 match zPz r pre i c v with
 | some m => .deep r (pre++[(i,c)]) fun q=>match q with
  | .own s xs=>bif Nat.ble m xs.length then .wnode r (pre++[(i,c)]) .bad (zHY r pre i c (.own s ((xs.drop 0).take m))) else .fail
  | _ => .fail
 | none=>zIl tk r pre v fun v=>zHY r pre i c v
def zNy (fz tk:Bool) (t:TypeId) (a x:Operand):PM :=
 opd a fun pa=>match pa,x with
 | .addr r pre i c _,.const (.slice none 0 0)=>zI2 ((zBX P t).bind (szT P)) fun s=>if szT P t=some 1 then zH0 tk r pre i c (.own s []) else .fail
 | pa,x=>match pa,shT P t,szT P t with
 | .addr r pre i c _,some sh,some n=>(bif fz&&tk then opd x else zOL x) fun v =>
  bif Nat.beq v.cells.length n&&v.isAgg==sh.isSome then zH0 (tk && !fz) r pre i c (bif fz && !tk then zAZ v else v) else .fail
 | _,_,_ => .fail
def zSm (d:Option Nat) (t:TypeId):PM :=
 match (zBX P t).bind (szT P) with
 | some s=>put d (.own s [])
 | none => .fail
def zLp (d:Option Nat) (t:TypeId) (s:Nat):PM :=
 match P.underlying t,d with
 | some (.tuple ts),some d' => .get s fun m=>match m with
  | .tup ps=>if ps.length=ts.size∧ts.size≤16 then .set d' .bad (zFE s d' 0 ts.size) else .fail
  | _ => .fail
 | _,_=>opd (.tmp s) (put d)
def zP1 (d:Option Nat) (t:TypeId) (x:Operand):PM :=
 match x with
 | .const (.slice none 0 0)=>zSm P d t
 | .tmp s=>zLp P d t s
 | x=>opd x (put d)
def zFm (d:Option Nat) (p:PV):PM :=
 match d,p with
 | some d',.bor r [] z lo n=>if r=d' then .get r fun root=>match root with
   | .own sz xs=>bif Nat.ble (lo+n) xs.length then .kill r [] (.set r (.own sz ((xs.drop lo).take n)) .ok) else .fail
   | _ => .fail
  else put d p
 | _,_=>put d p
def zFW (tk nl:Bool) (d:Option Nat) (t:TypeId) (x:Operand):PM :=
 match x with
 | .const (.slice none 0 0)=>bif nl then zI2 ((zBX P t).bind (szT P)) fun s=>put d (.nils s) else zSm P d t
 | x=>zOL x fun p=>bif tk then zLn p (zFm d) else zFm d p
def zSH (d:Option Nat) (c a b:Operand):PM:=opd c fun p=>zS1 p fun t=>opd (if t then a else b) (put d)
def zPN (t:TypeId):PV→PV
 | .nils k=>match (zBX P t).bind (szT P) with
  | some s => .own s []
  | none => .nils k
 | z=>z
def zPv (d:Option Nat) (t:TypeId):PM:=zI2 (zDd P t) fun z=>put d (.box (zPN P t z))
def zSa (d:Option Nat) (t:TypeId) (x:Operand):PM:=zOL x fun p=>match shT P t,szT P t with
 | some sh,some n=>if p.cells.length=n&&p.isAgg=sh.isSome&&p.whole then put d (.box p) else .fail
 | _,_ => .fail
def zNo (d:Option Nat) (t:TypeId) (ps:List (Nat×Operand)):PM :=
 match P.underlying t,(zDd P t).map PV.cells with
 | some (.struct fs),some z=>bif fs.all (fun f=>(szT P f.type).isSome) then zOc (fun i=>(fs[i]?).bind fun f=>(szT P f.type).map fun n=>(f.offset,n)) z ps (fun cs=>put d (.agg cs)) else .fail
 | some (.array _ e),some z=>zI2 (szT P e) fun n=>zOc (fun i=>some (i*n,n)) z ps fun cs=>put d (.agg cs)
 | _,_ => .fail
def zUC:Option PV→Option Nat
 | some (.own s [])=>some s
 | _=>none
def zUY (nz:Option Nat) (x:Operand) (k:PV→PM):PM :=
 match nz,x with
 | some s,.const (.slice none 0 0)=>k (.own s [])
 | _,x=>zOL x k
def zOw (nz:Option Nat):List Operand→(List PV→PM)→PM
 | [],k=>k []
 | x::xs,k=>zUY nz x fun p=>zOw nz xs fun ps=>k (p::ps)
def zDv (tk:Bool) (d:Option Nat) (t:TypeId) (n:Nat) (ps:List (Nat×Operand)):PM :=
 match zBX P t with
 | some e=>match szT P e,zDd P e with
  | some s,some z=>if n*s≤65536&&Nat.beq z.cells.length s&&ps.all (fun x=>x.1<n) then zOw (zUC (zDd P e)) (ps.map (·.2)) fun vs=>zFO tk vs fun vs =>
    if (zBB vs).isEmpty&&vs.all (fun v=>v.cells.length=s&&v.isAgg=z.isAgg&&v.whole) then put d (.own s (zMv n z ((ps.map (·.1)).zip vs))) else .fail
   else .fail
  | _,_ => .fail
 | none => .fail
def zOU (d:Option Nat) (sh:Option Nat) (p:PV):PM :=
 match p with
 | .ref q=>if q.isAgg=sh.isSome&&q.cells.length=sh.getD 1 then put d q else .fail
 | .addr r pre i c _=>zMA r pre i c sh (put d)
 | _ => .fail
def zNH (tk:Bool) (d:Option Nat) (t:TypeId) (a:Operand):PM:=zI2 (shT P t) fun sh=>opd a fun p =>
 bif tk then (match p with
  | .addr r pre i c _=>zMA r pre i c sh fun v=>zLk zAd zDG v (put d)
  | p=>zOU d sh p) else zOU d sh p
def zVx (d:Option Nat) (p:PV):PM :=
 match p with
 | .addr .. | .ref _ | .func .. | .yld _=>put d p
 | _ => .fail
def zSq (d:Option Nat) (op:BinOp) (t:TypeId) (x y:Operand):PM:=opd x fun p=>opd y fun q=>zI2 (zPf P op t p q) (put d)
def unV (d:Option Nat) (op:UnOp) (p:PV):PM :=
 match op,p with
 | .not,.bool b=>put d (.bool !b)
 | .neg,.int k n=>put d (.int k (k.wrap (0-n)))
 | _,_ => .fail
def zQy (d:Option Nat) (t:TypeId) (p:PV):PM :=
 match P.underlying t,p with
 | some (.int k),.int _ n=>put d (.int k (k.wrap n))
 | _,_ => .fail
def zJS (d:Option Nat) (f:FuncId) (first caps:List Operand):PM:=zR3 first fun a=>zR3 caps fun b=>put d (.func f a b)
def zEX (d:Option Nat) (t:TypeId) (l c:Operand):PM :=
 opd l fun l=>zG2 l fun l=>opd c fun c=>zG2 c fun c=>match zBX P t with
 | some e=>match zDd P e,szT P e,zHV P e with
  | some z,some s,some b=>if l≤c∧c≤zAC∧b≤16384∧z.cells.length=s then put d (.own s (List.replicate l z)) else .fail
  | _,_,_ => .fail
 | none => .fail
def zIz (d:Option Nat) (t:TypeId) (x:Operand) (i:Nat):PM :=
 opd x fun p=>zI2 (zKZ P t i) fun f=>zI2 (shT P f.type) fun sh=>zI2 (zDP p f.offset sh) (put d)
def zQG (d:Option Nat) (t:TypeId) (x:Operand) (i:Nat):PM :=
 opd x fun p=>zI2 (zKZ P t i) fun f=>zI2 (shT P f.type) fun sh=>zI2 (sub p f.offset sh) (put d)
def zNu (d:Option Nat) (n:Nat) (e:TypeId) (p:PV) (i:Nat):PM :=
 match szT P e,shT P e with
 | some s,some sh=>if i<n then zI2 (zDP p (i*s) sh) (put d) else .fail
 | _,_ => .fail
def zPM (d:Option Nat) (e:TypeId) (p:PV) (i:Nat):PM :=
 match p with
 | .sl xs=>zI2 (xs[i]?) fun x=>if szT P e=some x.cells.length then put d (.ref x) else .fail
 | .bor r pre z lo n=>match shT P e with
  | some sh=>if i<n∧szT P e=some z then put d (.addr r pre (lo+i) 0 sh) else .fail
  | none => .fail
 | .bsl r pre j c s ag n=>if i<n∧szT P e=some s then put d (.addr r pre j (c+i*s) (if ag then some s else none)) else .fail
 | _ => .fail
def zEU (d:Option Nat) (t:TypeId) (x i:Operand):PM :=
 opd x fun p=>opd i fun i=>zG2 i fun i=>match P.underlying t with
 | some (.array n e)=>zNu P d n e p i
 | some (.slice e)=>zPM P d e p i
 | _ => .fail
def zKv (d:Option Nat) (t:TypeId) (x i:Operand):PM :=
 opd x fun p=>opd i fun i=>zG2 i fun i=>match P.underlying t with
 | some (.array n e)=>match szT P e,shT P e with
  | some s,some sh=>if i<n then zI2 (sub p (i*s) sh) (put d) else .fail
  | _,_ => .fail
 | _ => .fail
def PV.flat:PV→Bool
 | .agg cs=>cs.all PV.num
 | p=>p.num
def PV.lone0:PV→Bool
 | .int .. | .bool .. | .nilp | .nilf | .nilm | .nn | .nils _ | .sl .. | .map .. => true
 | _=>false
def PV.lone:PV→Bool
 | .agg cs=>cs.all PV.lone0
 | p=>p.lone0
def zRk (ok:TypeId→PV→Bool) (sh:TypeId→Option (Option Nat)) (p:PV):List Field→Bool
  | []=>true
  | f :: fs => (if f.name = "_" then true else match sh f.type with
    | some s=>match sub p f.offset s with
      | some a=>ok f.type a
      | none=>false
    | none=>false)&&zRk ok sh p fs
def zSE (ok:PV→Bool) (sh:Option Nat) (sz:Nat) (p:PV):Nat→Nat→Bool
 | _,0=>true
 | i,n+1=>(match sub p (i*sz) sh with
  | some a=>ok a
  | none=>false)&&zSE ok sh sz p (i+1) n
def zPh:Nat→TypeId→PV→Bool
 | 0,_,_=>false
 | n + 1,t,p =>
  match P.underlying t,p with
  | some (.int _),.int .. => true
  | some .bool,.bool _=>true
  | some (.struct fs),.agg xs=>zRk (zPh n) (shT P) (.agg xs) fs.toList
  | some (.array len e),.agg xs=>match szT P e,shT P e with
   | some sz,some sh=>zSE (zPh n e) sh sz (.agg xs) 0 len
   | _,_=>false
  | _,_=>false
def zEq (kt:TypeId) (key:PV):List (PV×PV)→Nat→Option (Option Nat)
 | [],_=>some none
 | (k,_)::es,i=>match eqT P 20 kt key k with
  | some true=>match zGh key.cells k.cells with
   | some true=>some (some i)
   | _=>none
  | some false=>zEq kt key es (i+1)
  | none=>none
def zJx (d:Option Nat) (kt:TypeId) (z key:PV) (ok:Bool) (es:List (PV×PV)):PM :=
 match zEq P kt key es 0 with
 | some (some i)=>match es[i]? with
  | some (_,v)=>bif v.lone then zEE d (if ok then .tup [v,.bool true] else v) else .fail
  | none => .fail
 | some none=>zEE d (if ok then .tup [z,.bool false] else z)
 | none => .fail
def zRv (d:Option Nat) (kt:TypeId) (z key:PV) (ok:Bool) (m:PV):PM :=
 match m with
 | .nilm=>zJx P d kt z key ok []
 | .map es=>zJx P d kt z key ok es
 | .bmap r pre => .deep r pre fun q=>match q with
  | .omap es=>zJx P d kt z key ok es
  | _ => .fail
 | _ => .fail
def zIf (d:Option Nat) (t:TypeId) (m x:Operand) (ok:Bool):PM :=
 opd m fun m=>opd x fun key=>match P.underlying t with
 | some (.map kt e)=>bif zPh P 20 kt key then zI2 (zDd P e) fun z=>bif z.lone then zRv P d kt z key ok m else .fail else .fail
 | _ => .fail
def zL4 (kt:TypeId) (key v m:PV):PM :=
 match m with
 | .bmap r pre=>bif v.lone then .deep r pre fun q=>match q with
  | .omap es=>match zEq P kt key es 0 with
   | some (some i) => .wnode r pre (.omap (es.modify i fun _=>(key,v))) .ok
   | some none => .wnode r pre (.omap (es++[(key,v)])) .ok
   | none => .fail
  | _ => .fail else .fail
 | _ => .fail
def zEP (t:TypeId) (m x y:Operand):PM:=opd m fun m=>opd x fun key=>match P.underlying t with
 | some (.map kt _)=>bif zPh P 20 kt key&&key.flat then zOL y fun v=>zLk zAd zDG v fun v=>zL4 P kt key (zAZ v) m else .fail
 | _ => .fail
def zIW (d:Option Nat) (s i:Nat):PM := .get s fun m=>match m with
 | .tup ps=>bif Nat.blt i ps.length then .get (zBr s i) fun p=>bif p.heavy then .set (zBr s i) .bad (put d p) else put d p else .fail
 | _ => .fail
def zR4 (d:Option Nat) (args:List Operand) (g:PV):PM :=
 match g with
 | .func g first caps=>zR3 args fun as=>zMU H d g (first++as++caps)
 | _ => .fail
def zJJ (d:Option Nat) (c:Call):PM :=
 match c.callee with
 | .builtin b=>zBw P d b c.argTypes.toList c.args.toList
 | .value f=>opd f (zR4 H d c.args.toList)
 | _ => .fail
def opM (fz tk nl:Bool) (o:Oper):PM :=
 match o.op with
 | .move x=>zP1 P o.dst o.type x
 | .assign x=>zFW P tk nl o.dst o.type x
 | .pick c a b=>zSH o.dst c a b
 | .alloc t=>zPv P o.dst t
 | .box t x=>zSa P o.dst t x
 | .build t ps=>zNo P o.dst t ps.toList
 | .buildSlice t n ps=>zDv P tk o.dst t n ps.toList
 | .load t a=>zNH P tk o.dst t a
 | .store t a x=>zNy P fz tk t a x
 | .nilCheck x=>opd x (zVx o.dst)
 | .binOp op t x y _=>zSq P o.dst op t x y
 | .unOp op _ x=>opd x (unV o.dst op)
 | .convert _ t x=>opd x (zQy P o.dst t)
 | .makeFunc (.func f) first caps=>zJS o.dst f first.toList caps.toList
 | .makeMap _ none=>put o.dst (.omap [])
 | .makeSlice t l c=>zEX P o.dst t l c
 | .slice t x lo hi mx=>zJl P o.dst t x lo hi mx
 | .fieldAddr t x i=>zIz P o.dst t x i
 | .field t x i=>zQG P o.dst t x i
 | .indexAddr t x i=>zEU P o.dst t x i
 | .index t x i=>zKv P o.dst t x i
 | .lookup t m x ok=>zIf P o.dst t m x ok
 | .mapUpdate t m x y=>zEP P t m x y
 | .extract (.tmp s) i=>zIW o.dst s i
 | .call c=>zJJ P H o.dst c
 | _ => .fail
def zFf (ops:Array Oper) (fz tk nl:Bool) (o:Oper):PM :=
 match o.guard with
 | none=>opM P H fz tk nl o
 | some (j,want)=>match (ops[j]?).bind (·.dst) with
  | some t => .get t fun p=>match p with
   | .bool b=>if b=want then opM P H fz tk nl o else put o.dst .und
   | .und=>put o.dst .und
   | _ => .fail
  | none => .fail
structure Log where
 xs:List (List PV)
 k:Int
 at_:Nat
 deriving Inhabited
def zOM (e:Env):Operand→PV
 | .tmp t=>view t (e.get t)
 | .const v=>zE4 v
 | _ => .bad
def zCa (e:Env) (o:Oper):Option (Nat×List PV) :=
 match o.op with
 | .call c=>match c.callee with
  | .value (.tmp t)=>match e.get t with
   | .yld h=>some (h,c.args.toList.map (zOM e))
   | _=>none
  | _=>none
 | _=>none
def zKm (ops:Array Oper) (e:Env) (o:Oper):Option Bool :=
 match o.guard with
 | none=>some true
 | some (j,want)=>match (ops[j]?).bind (·.dst) with
  | some t=>match e.get t with
   | .bool b=>some (b==want)
   | .und=>some false
   | _=>none
  | none=>none
def zBQ (orc:zAL) (ops:Array Oper) (o:Oper) (h:Nat) (args:List PV) (l:Log) (e:Env):Option (Env×Option Log) :=
 match zKm ops e o with
 | some true=>bif args.all PV.flat&&l.k != 0&&Nat.beq h l.at_ then
   (bif l.k==1 then (put o.dst (.bool false)).run orc (e.forget zAd) else (put o.dst (.bool true)).run orc e).map fun e'=>(e',some ⟨l.xs++[args],l.k-1,l.at_⟩)
  else none
 | some false=>((put o.dst .und).run orc e).map fun e'=>(e',some l)
 | none=>none
def zCI (orc:zAL) (fz tk nl:Bool) (ops:Array Oper) (o:Oper) (e:Env) (lg:Option Log):Option (Env×Option Log) :=
 match lg with
 | none=>((zFf P H ops fz tk nl o).run orc e).map fun e'=>(e',none)
 | some l=>match zCa e o with
  | some (h,args)=>zBQ orc ops o h args l e
  | none=>((zFf P H ops fz tk nl o).run orc e).map fun e'=>(e',some l)
def zD7 (orc:zAL) (fz tk nl:Bool) (ops:Array Oper) (o:Oper) (e:Env) (lg:Option Log):Option (Env×Option Log×Tok) :=
 match lg with
 | none=>((zFf P H ops fz tk nl o).runT orc e).map fun x=>(x.1,none,x.2)
 | some l=>match zCa e o with
  | some (h,args)=>(zBQ orc ops o h args l e).map fun x=>(x.1,x.2,{all:=true})
  | none=>((zFf P H ops fz tk nl o).runT orc e).map fun x=>(x.1,some l,x.2)
def zBb (orc:zAL) (fzs tks:List Nat) (nl:Bool) (ops:Array Oper):List Oper→Nat→Env→Option Log→Option (Env×Option Log)
 | [],_,e,lg=>some (e,lg)
 | o::l,i,e,lg=>match zCI P H orc (fzs.contains i) (tks.contains i) nl ops o e lg with
  | some (e',lg')=>zBb orc fzs tks nl ops l (i+1) e' lg'
  | none=>none
def zHL (acc:List Nat) (o:Oper):Nat:=o.after.toList.foldl (fun s e=>if Region.binds .any e then s ||| 2 ^ e.on ||| acc.getD e.on 0 else s) 0
def zFS (b:Nat) (t:Tok):Nat→List Tok→Bool
 | _,[]=>true
 | j,u::us=>(b.testBit j || !zON u t)&&zFS b t (j+1) us
def zCs (orc:zAL) (fzs tks:List Nat) (nl:Bool) (ops:Array Oper):List Oper→Nat→List Nat→List Tok→Env→Option Log→Option (Env×Option Log)
 | [],_,_,_,e,lg=>some (e,lg)
 | o :: l,i,acc,ts,e,lg =>
  match zD7 P H orc (fzs.contains i) (tks.contains i) nl ops o e lg with
  | some (e',lg',t) =>
   bif o.after.toList.all (fun e => !Region.binds .any e||Nat.blt e.on i)&&zFS (zHL acc o) t 0 ts then zCs orc fzs tks nl ops l (i+1) (acc++[zHL acc o]) (ts++[t]) e' lg' else none
  | none=>none
inductive X where
 | norm | ex (id:Nat) | ret
 deriving DecidableEq
def zMq (l:List Nat) (s:Nat):Bool:=l.contains (if 2000000≤s then (s-2000000) / 16 else s)
def Env.drop (e:Env) (l:List Nat):Env :=
 e.filter fun x => !zMq l x.1
def Env.put (e:Env) (k:Nat) (v:PV):Env :=
 match v with
 | .bad=>e.filter fun x => !Nat.beq x.1 k
 | v=>e.set k v
def Env.norm:Env→Env
 | []=>[]
 | (k,v)::e=>(Env.norm e).put k v
def zAS:Code→Nat
 | .region id _ _=>id
 | .seq a _=>zAS a
 | .block _ b=>zAS b
 | .loop b=>zAS b
 | _=>0
def zBO:Code→List Nat
 | .region _ ops _=>ops.toList.filterMap (·.dst)
 | .seq a b=>zBO a++zBO b
 | .cond _ a b=>zBO a++zBO b
 | .block _ b=>zBO b
 | .loop b=>zBO b
 | .scope b=>zBO b
 | _=>[]
def zCq:List Tmp→List PV→Env→Option Env
 | [],[],e=>some e
 | t::ts,v::vs,e=>if (e.get t).heavy then none else zCq ts vs (e.set t v)
 | _,_,_=>none
def zE6:List Nat→Env→Option Env
 | [],e=>some e
 | r::R,e=>bif Nat.blt r zAd then match e.frz r [] with
  | some e'=>zE6 R e'
  | none=>none
  else none
def zCJ (e:Env) (R:List Nat):List Nat:=R++(e.filter fun x=>x.2.heavy && !R.contains x.1&&x.2.ways.any fun w=>R.contains w.1).map (·.1)
def zFV (e:Env) (R:List Nat):Bool:=R.all fun r=>(e.get r).ways.all fun w=>R.contains w.1
def after (nt:Nat) (R ds:List Nat) (e0 e:Env):Env:=e0.map fun x =>
 (x.1,bif R.contains x.1 || !x.2.heavy&&x.2.ways.all (fun w=>R.contains w.1) then x.2 else bif !(Nat.blt x.1 nt && !ds.contains x.1||Nat.ble zAl x.1&&Nat.blt x.1 zAI) then .bad else bif (R.isEmpty||(e.get x.1).free) && !(e.get x.1).isTup then e.get x.1 else .bad)
def zCX (nt:Nat) (run:Code→Env→Option (X×Env)) (ps:List Tmp) (assign body:Code) (R ds:List Nat):List (List PV)→Env→Nat→Option (Option (Nat×X)×Env)
 | [],e,_=>some (none,e)
 | x :: xs,e,j =>
  let round (e:Env):Option (X×Env):=match zCq ps x e with
   | some e1=>match run assign e1 with
    | some (.norm,e2)=>run body e2
    | _=>none
   | none=>none
  match round e with
  | some (.norm,e3)=>match R with
   | []=>zCX nt run ps assign body R ds xs (after nt [] ds e e3) (j+1)
   | r :: R=>match (bif zFV e (zCJ e (r::R)) then zE6 (zCJ e (r::R)) e else none) with
    | some e1=>match round e1 with
     | some (.norm,e3)=>zCX nt run ps assign body (r::R) ds xs (after nt (zCJ e (r::R)) ds e e3) (j+1)
     | _=>none
    | none=>none
  | some (r,e3)=>some (some (j+1,r),after nt [] ds e e3)
  | none=>none
def zEH (e:Env) (t:Nat):Option (FuncId×List PV×List PV×List Nat) :=
 match (zAs (view t (e.get t)) fun q l => .set 0 (.tup [q]) (.set 1 (.tup (l.map fun x => .int .i64 x.1)) .ok)).run (fun _ _ _=>none) e with
 | some e'=>match e'.get 0,e'.get 1 with
  | .tup [.func g first caps],.tup l=>some (g,first,caps,(l.filterMap fun | .int _ n=>some n.toNat | _=>none).eraseDups)
  | _,_=>none
 | none=>none
abbrev zCE:=FuncId→List PV→Nat→List PV→Int→Option (List (List PV))
abbrev All:=(Nat→Option (List (List PV)))→Option (List (List PV))
def zGP (nt:Nat) (yo:zCE) (al:All) (run:Code→Env→Option (X×Env)) (t:Tmp) (ps:List Tmp) (assign body:Code) (e:Env):Option (X×Env) :=
 match zEH e t with
 | some (g,first,caps,R) =>
  match al (fun i=>yo g first i caps (-1)) with
  | some xs=>match zCX nt run ps assign body R (ps++zBO assign++zBO body) xs e 0 with
   | some (none,e')=>some (.norm,e')
   | some (some (j,_),_)=>match al (fun i=>yo g first i caps j) with
    | some ys=>match zCX nt run ps assign body R (ps++zBO assign++zBO body) ys e 0 with
     | some (some (j',r),e')=>if j'=j∧ys.length=j then some (r,e') else none
     | _=>none
    | none=>none
   | none=>none
  | none=>none
 | none=>none
def exec (orc:zAL) (yo:zCE) (al:All) (nt:Nat) (h:FHint):Nat→Code→Env→Option Log→Option (X×Env×Option Log)
 | 0,_,_,_=>none
 | n + 1,c,e,lg=>match c with
  | .skip=>some (.norm,e,lg)
  | .region id ops draw=>match (if draw then zCs P H orc (h.frzs id) (h.take id) h.nils ops ops.toList 0 [] [] e lg else zBb P H orc (h.frzs id) (h.take id) h.nils ops ops.toList 0 e lg) with
   | some (e',lg')=>some (.norm,(e'.drop (h.drop id)).norm,lg')
   | none=>none
  | .seq a b=>match exec orc yo al nt h n a e lg with
   | some (.norm,e',lg')=>exec orc yo al nt h n b e' lg'
   | r=>r
  | .cond c a b=>match c with
   | .tmp t=>match e.get t with
    | .bool true=>exec orc yo al nt h n a e lg
    | .bool false=>exec orc yo al nt h n b e lg
    | _=>none
   | .const (.bool true)=>exec orc yo al nt h n a e lg
   | .const (.bool false)=>exec orc yo al nt h n b e lg
   | _=>none
  | .block id b=>match exec orc yo al nt h n b e lg with
   | some (.ex id',e')=>some (if id'=id then .norm else .ex id',e')
   | r=>r
  | .loop b=>match exec orc yo al nt h n b (e.drop (h.loopDrop (zAS b))) lg with
   | some (.norm,e',lg')=>exec orc yo al nt h n (.loop b) e' lg'
   | r=>r
  | .exit id=>some (.ex id,e,lg)
  | .ret=>some (.ret,e,lg)
  | .label _=>some (.norm,e,lg)
  | .scope b=>exec orc yo al nt h n b e lg
  | .rangeFunc (.tmp t) ps assign body=>match lg with
   | none=>(zGP nt yo al (fun c e=>match exec orc yo al nt h n c e none with | some (x,e',none)=>some (x,e') | _=>none) t ps.toList assign body e).map fun x=>(x.1,x.2,none)
   | some _=>none
  | _=>none
def zQ3 (p:PV) (k:PV→PM) (k2:PM):PM :=
 match p with
 | .bor r pre _ lo n => .deep r pre fun q=>match q with
  | .own sz xs=>bif Nat.ble (lo+n) xs.length then .wnode r pre .bad (k (.own sz ((xs.drop lo).take n))) else k2
  | _=>k2
 | .addr r pre 0 0 _ => .deep r pre fun q=>match q with
  | .box q => .wnode r pre .bad (k (.box q))
  | _=>k2
 | .bmap r pre => .deep r pre fun q=>match q with
  | .omap es => .wnode r pre .bad (k (.omap es))
  | _=>k2
 | _=>k2
def zFi (frz:Bool) (p:PV) (k:PV→PM):PM :=
 bif frz||p.ways.any (fun w=>Nat.ble zAl w.1) then zLk zAl zDG p k else zQ3 p k (zLk zAl zDG p k)
def zCn (frz:Bool):List PV→(List PV→PM)→PM
 | [],k=>k []
 | p::ps,k=>zFi frz p fun q=>zCn frz ps fun qs=>k (q::qs)
def zGv (frz:Bool) (p:PV) (k:PV→PM):PM :=
 match p with
 | .agg cs=>zCn frz cs fun qs=>k (.agg qs)
 | p=>zFi frz p k
def zCA (frz:Bool):Nat→List ResultVar→PM
 | _,[] => .ok
 | j,.tmp t::rs => .view t fun p=>zGv frz p fun q=>lay (zAI+j) q (zCA frz (j+1) rs)
 | j,.cell a t::rs=>zI2 (shT P t) fun sh => .view a fun p=>match p with
  | .addr r pre i c _=>zMA r pre i c sh fun v=>zGv frz v fun q=>lay (zAI+j) q (zCA frz (j+1) rs)
  | _ => .fail
def zTx (e:Env) (n:Nat):PV :=
 if n=1 then e.get zAI else .tup ((List.range n).map fun j=>e.get (zAI+j))
def zA9 (args hid:List PV):Env :=
 (args.zipIdx.map fun (p,i)=>(i,p))++hid.zipIdx.map fun (p,j)=>(zAl+j,p)
def zU7 (xs:List PV):Option (List Int):=xs.mapM fun | .int .i64 n=>some n | _=>none
def zDI (fn:Func) (w:Nat) (args hid:List PV):Option (PV×List PV) :=
 match w,args,hid with
 | 1,[.sl xs],[]=>match (fn.resultTypes[0]?).bind (fun t=>(zBX P t).bind (szT P)) with
  | some sz=>if xs.all (fun x=>x.plain&&x.cells.length=sz)&&xs.length≤zAC then some (.own sz xs,[]) else none
  | none=>none
 | 1,[.nils _],[]=>match (fn.resultTypes[0]?).bind (fun t=>(zBX P t).bind (szT P)) with
  | some sz=>some (.own sz [],[])
  | none=>none
 | 2,[.bor r pre z lo n],root::ws=>match zAz root pre with
  | some (.own sz xs)=>match zU7 ((xs.drop lo).take n) with
   | some is=>match zAr (fun _=>some (.own sz (xs.take lo++(is.mergeSort (fun a b=>decide (a≤b))).map (.int .i64)++xs.drop (lo+n)))) root pre with
    | some root'=>if r=zAl&&lo+n≤xs.length then some (.tup [],root'::ws) else none
    | none=>none
   | none=>none
  | _=>none
 | 3,[.own sz xs,.int _ i,.int _ j],[] =>
  bif decide (0≤i)&&decide (i≤j)&&Nat.ble j.toNat xs.length then some (.own sz (xs.take i.toNat++xs.drop j.toNat),[]) else none
 | 5,[.int .u64 n],[]=>some (.int .i64 (if n≤0 then 0 else Nat.log2 n.toNat+1),[])
 | 2,[.nils _],[]=>some (.tup [],[])
 | 2,[.sl xs],[]=>if xs.length≤1 then some (.tup [],[]) else none
 | _,_,_=>none
def zIX (orc:zAL) (yo:zCE) (al:All) (n:Nat) (f:FuncId) (fn:Func) (body:Code) (args hid:List PV):Option (PV×List PV) :=
 bif Nat.ble args.length fn.ntmps&&Nat.ble hid.length 1000&&args.all (fun p => !p.isTup) then
  match exec P H orc yo al fn.ntmps (H f) n body (zA9 args hid) none with
  | some (.norm,e,none) | some (.ret,e,none) =>
   match (zCA P (H f).frz 0 fn.results.toList).run orc e with
   | some e'=>bif Nat.beq fn.results.size 1&&(e'.get zAI).isTup then none else some (zTx e' fn.results.size,(List.range hid.length).map fun j=>e'.get (zAl+j))
   | none=>none
  | _=>none
 else none
def zH4 (orc:zAL) (yo:zCE) (al:All) (n:Nat) (f:FuncId) (args hid:List PV):Option (PV×List PV) :=
 match P.funcs[f]? with
  | some fn=>if (H f).intr≠0 then zDI P fn (H f).intr args hid else match fn.body with
   | some body=>zIX P H orc yo al n f fn body args hid
   | none=>none
  | none=>none
def zUI (orc:zAL) (yo:zCE) (al:All) (n:Nat) (f:FuncId) (first:List PV) (i:Nat) (caps:List PV) (k:Int):Option (List (List PV)) :=
 match P.funcs[f]? with
  | some fn=>match fn.body with
   | some body=>bif Nat.ble (first++PV.yld i::caps).length fn.ntmps&&fn.results.isEmpty&&(first++caps).all (fun p => !p.isTup)&&k != 0&&Nat.beq (H f).intr 0 then
     match exec P H orc yo al fn.ntmps (H f) n body (zA9 (first++PV.yld i::caps) []) (some ⟨[],k,i⟩) with
     | some (.norm,_,some l) | some (.ret,_,some l)=>some l.xs
     | _=>none
    else none
   | none=>none
  | none=>none
def zOY (al:All):Nat→zAL×zCE
 | 0=>(fun _ _ _=>none,fun _ _ _ _ _=>none)
 | n+1=>(fun f args hid=>zH4 P H (zOY al n).1 (zOY al n).2 al (n+1) f args hid,fun f first i caps k=>zUI P H (zOY al n).1 (zOY al n).2 al (n+1) f first i caps k)
open Classical in
noncomputable def zB8:All:=fun x=>if h:∃ r,∀ i,x i=some r then some (Classical.choose h) else none
class Yo where
 yo:zCE
noncomputable def zCy [Yo]:Nat→zAL
 | 0=>fun _ _ _=>none
 | n+1=>fun f args hid=>zH4 P H (zCy n) Yo.yo zB8 (n+1) f args hid
end Go.Eng
namespace Go.Eng
def zAB:List (Nat×List Nat)→Nat→List Nat
 | [],_=>[]
 | (k,l)::r,i=>bif Nat.beq k i then l else zAB r i
def zU0:List (Nat×FHint)→Nat→FHint
 | [],_=>{}
 | (k,h)::r,i=>bif Nat.beq k i then h else zU0 r i
end Go.Eng
namespace Go.Eng
open Go
def zAq.h3:FHint:={drop:=zAB [(0,[4]),(1,[10,11]),(2,[13]),(3,[14]),(4,[17,18,21]),(5,[0,23,24,27]),(6,[1,5,6,7,8,9,28,29,30,31,32,33,34,35,36,37,38,39,40,41,42,43])]}
def zAq.h4:FHint:={drop:=zAB [(0,[8]),(1,[0,24,25,26]),(2,[1,27,28,29]),(3,[2,31]),(5,[33]),(7,[37,38,39,40,41,42,43]),(8,[45]),(9,[46,47]),(10,[50,51,52,55,56]),(11,[16,57,58,59,60,61,62,63,64,65,66,67,68,69,70,71]),(13,[15,73]),(16,[78,79,80]),(17,[81,82,83,84,85,86,87,88]),(18,[18,19,89,90,91,92,93,94,95,96,97,98,99,100,101,102,103,104,105,106,107,108,109,110,111,112,113,114,115,116,117,118,119,120,121,122,123,124,125,126,127,128,129,130,131,132,133,134,135,136,137,138,139,140,141,142,143,144,145,146,147,148,149,150]),(20,[152]),(21,[12,153]),(22,[3,155,156,157,158,159]),(23,[160,161,162,163,164,165]),(24,[10,20,23,167,168,169,172,173]),(25,[14,16,17,21,22,174,175,176,177,178,179,180,181,182,183,184,185,186,187,188,189,190,191,192,193,194,195,196,197,198,199,200])],loopDrop:=zAB [(6,[36,37,38,39,40,41,42,43,45]),(15,[8,18,19,77,78,79,80,81,82,83,84,85,86,87,88,89,90,91,92,93,94,95,96,97,98,99,100,101,102,103,104,105,106,107,108,109,110,111,112,113,114,115,116,117,118,119,120,121,122,123,124,125,126,127,128,129,130,131,132,133,134,135,136,137,138,139,140,141,142,143,144,145,146,147,148,149,150,151,152])],take:=zAB [(13,[1])],frzs:=zAB [(1,[4])]}
def zAq.h5:FHint:={drop:=zAB [(0,[4]),(1,[0,16]),(4,[18]),(6,[22,23,24,25,26]),(7,[27,28,29,30,31,32]),(8,[34,35,36]),(9,[37,38,39]),(10,[8,41,42,43]),(11,[44]),(12,[46,47,48,51]),(13,[52]),(14,[10,54,55,56,57,58]),(15,[10,59,60,61,62,63,64,65,66]),(20,[72,73,74]),(21,[75,76,77,78,79,80,81]),(23,[83,84,85]),(24,[86,87,88,89,90,91,92]),(25,[14,93,94,95,96,97,98,99,100,101,102,103,104,105,106,107]),(29,[112]),(30,[15,113,114,115,116,117,118,119,120,121,122,123,124,125,126,127,128,129,130,131,132,133,134,135,136,137,138,139,140,141,142,143,144,145,146,147]),(32,[149]),(33,[150]),(34,[1,11,151,152,153,154,155,156,157])],loopDrop:=zAB [(5,[8,21,22,23,24,25,26,27,28,29,30,31,32,33,34,35,36,37,38,39,41,42,43,44]),(19,[4,12,13,14,15,71,72,73,74,75,76,77,78,79,80,81,82,83,84,85,86,87,88,89,90,91,92,93,94,95,96,97,98,99,100,101,102,103,104,105,106,107,108,109,110,111,112,113,114,115,116,117,118,119,120,121,122,123,124,125,126,127,128,129,130,131,132,133,134,135,136,137,138,139,140,141,142,143,144,145,146,147,148,149,150]),(28,[4,15,111,112,113,114,115,116,117,118,119,120,121,122,123,124,125,126,127,128,129,130,131,132,133,134,135,136,137,138,139,140,141,142,143,144,145,146,147,148,149])]}
def zAq.h6:FHint:={drop:=zAB [(0,[0,4]),(1,[22,23,24,25,26,27]),(2,[29]),(3,[30,31,32,33,34]),(4,[37,38,41]),(5,[43,44,47]),(6,[9,11,48,49,50,51,52,53,54,55,56]),(10,[62,63,64]),(11,[12,65,66,67,68,69]),(13,[71]),(14,[73,74,77]),(15,[79,80,83]),(16,[9,11,84,85,86,87,88,89,90,91,92]),(20,[98,99,100]),(21,[16,101,102,103,104,105]),(23,[107]),(24,[109,110,113,114]),(25,[116,117,120,121]),(26,[1,7,9,11,18,19,20,21,122,123,124,125,126,127,128,129,130,131,132,133,134,135,136,137,138,139,140,141,142,143,144,145,146,147])],loopDrop:=zAB [(9,[4,12,13,61,62,63,64,65,66,67,68,69,70,71]),(19,[4,16,17,97,98,99,100,101,102,103,104,105,106,107])]}
def zAq.h7:FHint:={drop:=zAB [(0,[4]),(1,[0,23,24,25]),(2,[1,26,27,28]),(3,[31,32,35]),(4,[37,38,41]),(5,[42,43]),(6,[8,10,45,46,47,48,49,50,51,52,53]),(10,[59,60,61]),(11,[62]),(13,[66]),(14,[67]),(15,[69,70,71,72]),(16,[15,73,74]),(17,[14,16,76,77,78,79,80,81,82,83,84,85,86,87,88,89,90,91,92,93,94,95,96,97,98]),(19,[100]),(20,[101,102]),(21,[103,104,105]),(22,[107,108]),(23,[109]),(24,[111,112,113,114,115,116,117,118,119,120,121]),(25,[18,122,123]),(26,[19,125,126,127,128,129,130,131,132,133,134,135,136,137,138,139,140,141,142,143,144,145,146,147,148,149,150,151,152,153,154,155,156,157,158,159,160,161]),(27,[20,162,163,164,165,166,167]),(29,[169]),(30,[170]),(32,[174]),(33,[21,175,176,177,178,179,180,181,182,183,184,185,186,187,188,189,190,191,192,193,194,195,196,197,198,199,200,201,202,203,204,205,206,207,208,209,210,211,212,213,214,215,216,217]),(35,[219]),(36,[220]),(38,[224]),(39,[22,225,226,227,228,229,230,231,232,233,234,235,236,237,238,239,240,241,242,243,244,245,246,247,248,249,250,251,252,253,254,255,256,257,258,259,260,261,262,263,264,265,266,267]),(41,[269]),(42,[270])],loopDrop:=zAB [(9,[4,12,13,14,15,16,17,18,19,20,58,59,60,61,62,63,64,65,66,67,68,69,70,71,72,73,74,75,76,77,78,79,80,81,82,83,84,85,86,87,88,89,90,91,92,93,94,95,96,97,98,99,100,101,102,103,104,105,106,107,108,109,110,111,112,113,114,115,116,117,118,119,120,121,122,123,124,125,126,127,128,129,130,131,132,133,134,135,136,137,138,139,140,141,142,143,144,145,146,147,148,149,150,151,152,153,154,155,156,157,158,159,160,161,162,163,164,165,166,167,168,169]),(12,[4,14,15,16,65,66,67,68,69,70,71,72,73,74,75,76,77,78,79,80,81,82,83,84,85,86,87,88,89,90,91,92,93,94,95,96,97,98,99,100]),(21,[4,18,19,20,103,104,105,106,107,108,109,110,111,112,113,114,115,116,117,118,119,120,121,122,123,124,125,126,127,128,129,130,131,132,133,134,135,136,137,138,139,140,141,142,143,144,145,146,147,148,149,150,151,152,153,154,155,156,157,158,159,160,161,162,163,164,165,166,167,168]),(31,[4,21,173,174,175,176,177,178,179,180,181,182,183,184,185,186,187,188,189,190,191,192,193,194,195,196,197,198,199,200,201,202,203,204,205,206,207,208,209,210,211,212,213,214,215,216,217,218,219]),(37,[4,22,223,224,225,226,227,228,229,230,231,232,233,234,235,236,237,238,239,240,241,242,243,244,245,246,247,248,249,250,251,252,253,254,255,256,257,258,259,260,261,262,263,264,265,266,267,268,269])],frzs:=zAB [(1,[4])]}
def zAq.h8:FHint:={drop:=zAB [(0,[0,2]),(1,[11,12,13,14,15,16,17,18,19,20,21,22,23]),(2,[25]),(3,[26,27,28,29]),(4,[31,34,35]),(5,[37,40,41]),(6,[5,6,7,8,9,10,42,43,44,45,46,47,48,49,50,51,52,53,54]),(8,[57,60,61]),(9,[63,66,67]),(10,[5,6,7,8,9,10,68,69,70,71,72,73,74,75,76,77,78,79,80,81,82,83,84,85,86,87,88])],frzs:=zAB [(3,[7])]}
def zAq.h9:FHint:={drop:=zAB [(0,[4]),(1,[26,27,28,29,30,31,32]),(2,[34]),(3,[35,37]),(4,[39,40,41,42,43,44]),(5,[45,46,47,48,49,50,51]),(6,[7,8,9,10,52,53,54,55,56,57,58]),(8,[61,64]),(9,[66,69]),(10,[70,71]),(11,[8,13,72,73,74,75,76,77,78,79,80,81,82,83,84,85,86,87,88,89,90]),(13,[10,92]),(14,[0,5,94,95,96,97,98,99]),(18,[104,105]),(19,[16,106]),(20,[108,109]),(21,[110]),(22,[111,112]),(23,[19,113,114,115,116,117,118,119]),(24,[11,17,18,120,121,122,123,124,125,126,127,128,129,130,131,132,133,134]),(26,[136,137]),(29,[143]),(33,[150,151,152]),(34,[24,153,154,155,156,157,158,159,160,161,162,163,164,165,166,167,168,169,170,171,172,173,174,175,176,177,178,179,180,181,182,183,184,185]),(36,[187,188,189]),(37,[25,190,191,192,193,194,195]),(38,[196,197]),(39,[198]),(40,[21,22,23,199,200,201,202,203,204,205,206,207,208,209,210,211,212,213,214,215,216,217,218,219,220,221]),(42,[223]),(43,[0,1,5,6,14,224,225,226,227,228,229,230,231,232,233,234,235,236,237,238])],loopDrop:=zAB [(17,[16,103,104,105,106,107,108,109,110]),(28,[4,21,22,23,24,25,142,143,144,145,146,147,148,149,150,151,152,153,154,155,156,157,158,159,160,161,162,163,164,165,166,167,168,169,170,171,172,173,174,175,176,177,178,179,180,181,182,183,184,185,186,187,188,189,190,191,192,193,194,195,196,197,198,199,200,201,202,203,204,205,206,207,208,209,210,211,212,213,214,215,216,217,218,219,220,221,222,223]),(32,[4,24,25,149,150,151,152,153,154,155,156,157,158,159,160,161,162,163,164,165,166,167,168,169,170,171,172,173,174,175,176,177,178,179,180,181,182,183,184,185,186,187,188,189,190,191,192,193,194,195,196,197,198])]}
def zAq.h10:FHint:={drop:=zAB [(0,[4]),(1,[0,24,25,26]),(2,[1,27]),(3,[30,33,34]),(4,[7,35,36]),(5,[9,10,38,39,40,41,42,43,44,45,46,47,48,49,50,51]),(9,[55,56]),(10,[58,59,60,61,62,63]),(11,[65,66,69]),(12,[11,70,71]),(13,[12,13,14,15,16,73,74,75,76,77,78,79,80,81,82,83,84,85,86,87,88,89,90,91,92,93,94,95,96,97]),(15,[99]),(16,[100,101]),(18,[102,103]),(20,[107]),(21,[108,109,110,111,112]),(22,[113]),(24,[117]),(25,[20,118,119,120,121,122,123,124,125,126,127,128,129,130,131]),(26,[132]),(27,[19,133,134,135,136,137]),(28,[138]),(29,[6,22,140,141,142,143,146,147]),(30,[21,148,149]),(31,[9,18,23,151,152,153,154,155,156,157,158,159,160,161,162,163,164,165,166,167,168])],loopDrop:=zAB [(8,[4,11,12,13,14,15,16,54,55,56,57,58,59,60,61,62,63,64,65,66,67,68,69,70,71,72,73,74,75,76,77,78,79,80,81,82,83,84,85,86,87,88,89,90,91,92,93,94,95,96,97,98,99]),(19,[19,20,106,107,108,109,110,111,112,113,114,115,116,117,118,119,120,121,122,123,124,125,126,127,128,129,130,131,132,133,134,135,136,137,138]),(23,[20,116,117,118,119,120,121,122,123,124,125,126,127,128,129,130,131,132])],take:=zAB [(25,[10])],frzs:=zAB [(1,[4])]}
def zAq.h11:FHint:={drop:=zAB [(0,[0,8]),(1,[19,20,21,22,23,24,25,26,27,28,29]),(2,[31]),(3,[32,33,34,35,36,38]),(4,[40,41,42,43]),(6,[45,46,47,48,49,50]),(7,[1,51,52,53,54,55,56]),(8,[13,14,15,16,57,58,59,60,61,62,63]),(10,[66,67,70]),(11,[72,73,76]),(12,[14,16,17,18,77,78,79,80,81,82,83,84]),(14,[86,87,88,89,90,91]),(15,[92,93,94,95,96,97]),(16,[13,14,15,16,98,99,100,101,102,103,104]),(18,[107,108,109,112,113]),(19,[115,116,117,120,121]),(20,[2,3,11,12,13,14,15,16,17,18,122,123,124,125,126,127,128,129,130,131,132,133,134,135,136,137,138,139,140,141,142,143,144,145,146,147,148,149,150,151,152])]}
def zAq.h12:FHint:={drop:=zAB [(0,[4]),(1,[0,29]),(4,[31]),(6,[35,36,37]),(7,[38]),(8,[40,41]),(9,[42,43,44]),(10,[8,46,47,48]),(11,[49]),(12,[7,50,51,52,53]),(13,[56,59]),(14,[61,64]),(15,[65,66,67,68,69,70]),(19,[75,76]),(20,[17,77]),(21,[79,80]),(22,[81]),(23,[10,12,13,14,15,82,83,84,85,86,87,88,89,90,91,92,93,94,95,96,97,98,99,100,101,102,103]),(25,[105]),(28,[111,112]),(29,[113,114,115,116,117,118,119,120,121,122,123,124,125,126,127,128,129,130,131,132,133,134,135,136,137,138,139,140,141,142,143,144,145,146,147,148,149,150]),(31,[152,153,154,155,156,157,158,159,160]),(32,[161,162,163,164,165,166,167,168,169]),(33,[170]),(34,[18,171]),(42,[183,184]),(43,[185,186,187,188,189,190,191]),(45,[25,193,194,195,196,197,198]),(46,[199]),(47,[22,23,200,201,202,203,204,205]),(49,[207]),(50,[208,209]),(51,[1,211,212,213,214,215]),(52,[6,9,26,216,217,218,219,220,221,222,223,224,225,226]),(53,[27,28,227,228,229,230]),(55,[232])],loopDrop:=zAB [(5,[8,34,35,36,37,38,39,40,41,42,43,44,46,47,48,49]),(18,[17,74,75,76,77,78,79,80,81]),(27,[4,20,110,111,112,113,114,115,116,117,118,119,120,121,122,123,124,125,126,127,128,129,130,131,132,133,134,135,136,137,138,139,140,141,142,143,144,145,146,147,148,149,150,151,152,153,154,155,156,157,158,159,160,161,162,163,164,165,166,167,168,169,170]),(37,[4,22,23,25,176,177,178,179,180,181,182,183,184,185,186,187,188,189,190,191,192,193,194,195,196,197,198,199,200,201,202,203,204,205,206,207]),(41,[4,25,182,183,184,185,186,187,188,189,190,191,192,193,194,195,196,197,198,199])]}
def zAq.h13:FHint:={drop:=zAB [(0,[0,4]),(1,[14,15,16,17,18,19]),(2,[21]),(3,[22,23,24,25,26]),(4,[28,29,30,31,32,33]),(5,[34,35,36,37,38,39]),(6,[8,9,10,11,40,41,42,43,44,45,46]),(8,[49,52,53]),(9,[55,58,59]),(10,[1,7,8,9,10,11,12,13,60,61,62,63,64,65,66,67,68,69,70,71,72,73,74,75,76,77,78,79,80,81,82,83,84,85])],frzs:=zAB [(3,[9])]}
def zAq.h14:FHint:={drop:=zAB [(0,[4]),(1,[0,22,23,24]),(2,[1,25]),(3,[28,31,32]),(4,[33,34,35,36,37,38]),(5,[9,10,11,39,40,41,42,43,44,45,46,47,48,49,50,51,52,53]),(9,[57,58,59,60]),(10,[63,64,65]),(11,[68,69,70,71,72,73]),(12,[14,74,75,76,77,78,79,80,81,82,83,84,85,86,87,88,89,90,91]),(14,[93,94]),(15,[15,96,97]),(16,[99,100,101,102,103,104,105]),(19,[110,111]),(20,[19]),(22,[121,122]),(23,[21,123,124,125,126,127,128,129,130,131]),(24,[132]),(25,[133]),(26,[17,134]),(28,[136]),(29,[137])],loopDrop:=zAB [(8,[4,12,13,14,15,16,17,19,21,56,57,58,59,60,61,62,63,64,65,66,67,68,69,70,71,72,73,74,75,76,77,78,79,80,81,82,83,84,85,86,87,88,89,90,91,92,93,94,95,96,97,98,99,100,101,102,103,104,105,106,107,108,109,110,111,112,113,114,115,116,117,118,119,120,121,122,123,124,125,126,127,128,129,130,131,132,133,134,135,136]),(18,[19,21,109,110,111,112,113,114,115,116,117,118,119,120,121,122,123,124,125,126,127,128,129,130,131,132,133]),(21,[21,120,121,122,123,124,125,126,127,128,129,130,131,132])],frzs:=zAB [(1,[4])]}
def zAq.h15:FHint:={drop:=zAB [(0,[4]),(1,[0,26,27,28]),(2,[1,29]),(3,[32,35,36]),(4,[38,41,42]),(5,[9,10,11,12,43,44,45,46,47,48,49,50,51,52,53,54,55,56,57,58,59,60,61,62,63,64,65]),(7,[67,68]),(8,[13,70,71,72,73,74,75,76]),(12,[80]),(14,[14,82]),(15,[84,85]),(16,[87,88,89,90]),(17,[92,93,96,97]),(18,[98,99]),(19,[15,16,18,19,101,102,103,104,105,106,107,108,109,110,111,112,113,114,115,116,117,118,119,120,121,122,123,124,125,126,127,128,129,130]),(23,[136,137,138]),(26,[148,149]),(27,[24,150,151,152,153,154,155,156,157,158,159,160,161,162,163,164,165,166]),(29,[168]),(30,[169]),(31,[17,171,172,175]),(32,[19,25,176,177,178,179,180,181]),(34,[183]),(35,[184])],loopDrop:=zAB [(11,[4,14,15,16,17,18,19,20,21,22,24,25,79,80,81,82,83,84,85,86,87,88,89,90,91,92,93,94,95,96,97,98,99,100,101,102,103,104,105,106,107,108,109,110,111,112,113,114,115,116,117,118,119,120,121,122,123,124,125,126,127,128,129,130,131,132,133,134,135,136,137,138,139,140,141,142,143,144,145,146,147,148,149,150,151,152,153,154,155,156,157,158,159,160,161,162,163,164,165,166,167,168,169,170,171,172,173,174,175,176,177,178,179,180,181,182,183]),(22,[4,21,22,24,135,136,137,138,139,140,141,142,143,144,145,146,147,148,149,150,151,152,153,154,155,156,157,158,159,160,161,162,163,164,165,166,167,168,169]),(25,[4,24,147,148,149,150,151,152,153,154,155,156,157,158,159,160,161,162,163,164,165,166,167,168])],frzs:=zAB [(1,[4])]}
def zAq.h16:FHint:={drop:=zAB [(0,[0]),(1,[16,17,20,21]),(2,[23,26,27]),(3,[29,30,33]),(4,[35,36,37,40,41]),(5,[1,2,3,4,5,6,7,8,9,10,11,42,43,44,45,46,47,48,49,50,51,52,53,54,55,56,57,58,59,60,61,62,63,64,65,66,67,68,69,70,71,72,73,74,75,76,77,78,79,80,81,82,83,84,85,86,87,88,89,90,91]),(7,[93,94,95,96,97,98]),(8,[100,103]),(9,[105,108]),(10,[3,6,8,12,13,14,109,110,111,112,113,114,115,116,117,118,119,120,121,122,123,124,125,126,127,128,129,130,131,132,133,134])]}
def zAq.h17:FHint:={drop:=zAB [(0,[2]),(1,[4,5]),(2,[0,7,8,9])],take:=zAB [(3,[1])]}
def zAq.h18:FHint:={drop:=zAB [(0,[0,1,4,5]),(2,[14,15,16,17]),(4,[19,20,21,22,23,24,25,26]),(6,[27,28]),(7,[29]),(12,[35,36,37]),(13,[9,10,38,39,40,41,42,43,44,46,47,48]),(14,[50]),(15,[51,52,53]),(16,[55,56,57]),(18,[63,64]),(19,[12,65,66,67,68,69,70]),(20,[71])],loopDrop:=zAB [(11,[9,10,34,35,36,37,38,39,40,41,42,43,44,46,47,48,50]),(17,[12,62,63,64,65,66,67,68,69,70,71])],take:=zAB [(13,[10]),(21,[1])]}
def zAq.h19:FHint:={drop:=zAB [(0,[4,5]),(1,[14,15]),(3,[17]),(7,[19,20,21]),(8,[23,24]),(9,[25,26,27,28]),(11,[30,31,32,33,34,35]),(12,[36]),(15,[38]),(17,[39,40,41]),(18,[43,44]),(19,[45,46,47,48,49,50,51,52,53,54]),(20,[56,57,58,59,60,61,62,63,64,65,66,67,68,69,70]),(21,[72,73,74,75,76,77]),(22,[78]),(25,[80,81,82]),(26,[84,85]),(27,[86,87,88,89,90,91,92,93]),(28,[95]),(29,[96,97,98,99,100,101,102,103]),(30,[12,104,105,106]),(31,[107,108])],loopDrop:=zAB [(7,[4,5,19,20,21,22,23,24,25,26,27,28,29,30,31,32,33,34,35]),(17,[39,40,41,42,43,44,45,46,47,48,49,50,51,52,53,54,56,57,58,59,60,61,62,63,64,65,66,67,68,69,70,72,73,74,75,76,77]),(22,[12,13,78,79,80,81,82,83,84,85,86,87,88,89,90,91,92,93,94,95,96,97,98,99,100,101,102,103,104,105,106,107,108]),(25,[80,81,82,83,84,85,86,87,88,89,90,91,92,93,94,95])],take:=zAB [(32,[1])]}
def zAq.h20:FHint:={drop:=zAB [(0,[4]),(1,[0,1,5,6,7])]}
def zAq.h21:FHint:={drop:=zAB [(1,[9,10,11,12,13,14,15,16,17]),(2,[1,18,19]),(4,[23,24,25,26,27]),(5,[28,29,30,31,32]),(6,[33]),(8,[37]),(9,[38,39,40,41,42,43,44]),(10,[8,46,47,48,49,50,51]),(11,[52]),(12,[53,54,55,56,57,58]),(13,[59]),(14,[60])],loopDrop:=zAB [(3,[6,7,8,22,23,24,25,26,27,28,29,30,31,32,33,34,35,36,37,38,39,40,41,42,43,44,45,46,47,48,49,50,51,52,53,54,55,56,57,58,59]),(7,[8,36,37,38,39,40,41,42,43,44,45,46,47,48,49,50,51,52])],take:=zAB [(10,[3]),(12,[3]),(14,[1])],mode:=[1,0]}
def zAq.h22:FHint:={drop:=zAB [(0,[2]),(1,[0,3,4])]}
def zAq.h23:FHint:={drop:=zAB [(0,[1,4]),(4,[13,14]),(5,[15,16,17,18,19,20,21,22,23,24,25,26]),(6,[28])],loopDrop:=zAB [(3,[7,12,13,14,15,16,17,18,19,20,21,22,23,24,25,26,28])],take:=zAB [(7,[1])],mode:=[1,0]}
def zAq.h24:FHint:={drop:=zAB [(0,[4]),(1,[0,1,5,6,7,8,9,10])],mode:=[1,0]}
def zAq.h25:FHint:={drop:=zAB [(0,[0,4]),(1,[8,9]),(4,[15,16,17]),(5,[18,19,20,21,22,23,24,25,26,27,28,29,30,31,32]),(7,[6,7,34,35,36,37,38,39,40,41,42]),(8,[43]),(9,[1,44,45,46,47,48])],loopDrop:=zAB [(3,[4,6,7,14,15,16,17,18,19,20,21,22,23,24,25,26,27,28,29,30,31,32,33,34,35,36,37,38,39,40,41,42,43])],take:=zAB [(11,[1])],nils:=true}
def zAq.h26:FHint:={drop:=zAB [(0,[0,6,7,8]),(1,[17,18,21]),(2,[23,24]),(3,[10,25]),(4,[27,28,29,30,31]),(6,[33,34,35]),(9,[1,9,36,37]),(11,[41,42]),(12,[43,44,45]),(13,[13,47,48,49,50,51,52,53,54,55]),(14,[14,15,56,57,58,59,60,62,63,64]),(15,[66]),(16,[12,68,69])],loopDrop:=zAB [(10,[13,14,15,40,41,42,43,44,45,46,47,48,49,50,51,52,53,54,55,56,57,58,59,60,62,63,64,66])],take:=zAB [(3,[3]),(14,[8]),(16,[3])]}
def zAq.h27:FHint:={drop:=zAB [(0,[6]),(1,[0,1,2,7,8,9,10,11,12,13])],mode:=[1,0,0]}
def zAq.h28:FHint:={drop:=zAB [(0,[4]),(1,[0,1,5,6,7,8,9])],mode:=[1,0]}
def zAq.h29:FHint:={drop:=zAB [(0,[0,2]),(1,[5,6,7]),(5,[14,15]),(6,[16,17,18]),(8,[20])],loopDrop:=zAB [(4,[2,4,13,14,15,16,17,18,19,20])]}
def zAq.h30:FHint:={drop:=zAB [(0,[0]),(1,[5,6,7,8]),(4,[14,15,16]),(5,[3,17,18,19,20,21,22,23,24]),(6,[25]),(7,[26])],loopDrop:=zAB [(3,[3,4,13,14,15,16,17,18,19,20,21,22,23,24,25])],take:=zAB [(7,[1])],frzs:=zAB [(5,[8])]}
def zAq.h31:FHint:={drop:=zAB [(0,[0]),(1,[6,7,8,9,10,11,12,13,14]),(4,[20,21]),(5,[22,23,24,25,26,27,28,29,30,31,32,33,34]),(6,[35]),(7,[36])],loopDrop:=zAB [(3,[5,19,20,21,22,23,24,25,26,27,28,29,30,31,32,33,34,35])],take:=zAB [(7,[1])]}
def zAq.h32:FHint:={drop:=zAB [(0,[0,4,5]),(1,[9,10,13]),(2,[14]),(3,[7,16]),(4,[1,6,17,18,19])],take:=zAB [(3,[2])]}
def zAq.h33:FHint:={drop:=zAB [(0,[0,4,5]),(1,[10,11,12]),(2,[13]),(3,[6,15]),(6,[16,17,18]),(7,[20,21]),(9,[22,23,24]),(10,[26,27]),(11,[28,29,30,31,32,33,34,35,36,37,38,39,40,41,42,43,44,45,46,47,48,49,50,51,52,53,54,55]),(12,[57,58,59,60,61])],loopDrop:=zAB [(6,[9,16,17,18,19,20,21,22,23,24,25,26,27,28,29,30,31,32,33,34,35,36,37,38,39,40,41,42,43,44,45,46,47,48,49,50,51,52,53,54,55,56,57,58,59,60,61]),(9,[22,23,24,25,26,27,28,29,30,31,32,33,34,35,36,37,38,39,40,41,42,43,44,45,46,47,48,49,50,51,52,53,54,55,56,57,58,59,60,61])],take:=zAB [(3,[2]),(13,[1])]}
def zAq.h34:FHint:={drop:=zAB [(0,[0,4,5]),(1,[16,17,20]),(2,[21]),(3,[7,23]),(4,[24,25,26]),(8,[31,32,33]),(9,[34,35]),(10,[36,37,38]),(11,[40,41]),(12,[42,43,44,45,46,47,48,49,50,51,52,53,54,55,56,57,58,59,60]),(13,[13,14,61,62,63,64,65,66,67,68,69,70,71,72,73,74,75,76,77,78,79,80,81,82,83,84,85,86,87,88,89,90,91,92,93,94,95]),(14,[97,98,99,100,101]),(15,[103])],loopDrop:=zAB [(7,[10,11,12,13,14,30,31,32,33,34,35,36,37,38,39,40,41,42,43,44,45,46,47,48,49,50,51,52,53,54,55,56,57,58,59,60,61,62,63,64,65,66,67,68,69,70,71,72,73,74,75,76,77,78,79,80,81,82,83,84,85,86,87,88,89,90,91,92,93,94,95,96,97,98,99,100,101,103]),(10,[13,14,36,37,38,39,40,41,42,43,44,45,46,47,48,49,50,51,52,53,54,55,56,57,58,59,60,61,62,63,64,65,66,67,68,69,70,71,72,73,74,75,76,77,78,79,80,81,82,83,84,85,86,87,88,89,90,91,92,93,94,95,96,97,98,99,100,101])],take:=zAB [(3,[2]),(16,[1])]}
def zAq.h35:FHint:={drop:=zAB [(0,[0,4,5]),(1,[12,13,14]),(2,[15]),(3,[6,17]),(6,[18,19,20]),(7,[22,23]),(8,[24,25]),(9,[26,27,28]),(10,[30,31]),(11,[32,33,34,35,36,37,38,39,40,41,42,43,44,45,46,47,48,49,50,51,52,53,54,55,56,57,58,59]),(12,[61,62,63,64,65,66,67,68,69,70,71,72]),(13,[74,75,76,77,78,79,80,81,82,83,84,85,86,87,88]),(14,[10,11,89,90,91,92,93,94,95,96,97,98,99,100,101,102,103,104,105,106,107]),(15,[109,110,111,112,113])],loopDrop:=zAB [(6,[9,10,11,18,19,20,21,22,23,24,25,26,27,28,29,30,31,32,33,34,35,36,37,38,39,40,41,42,43,44,45,46,47,48,49,50,51,52,53,54,55,56,57,58,59,60,61,62,63,64,65,66,67,68,69,70,71,72,73,74,75,76,77,78,79,80,81,82,83,84,85,86,87,88,89,90,91,92,93,94,95,96,97,98,99,100,101,102,103,104,105,106,107,108,109,110,111,112,113]),(9,[10,11,26,27,28,29,30,31,32,33,34,35,36,37,38,39,40,41,42,43,44,45,46,47,48,49,50,51,52,53,54,55,56,57,58,59,60,61,62,63,64,65,66,67,68,69,70,71,72,73,74,75,76,77,78,79,80,81,82,83,84,85,86,87,88,89,90,91,92,93,94,95,96,97,98,99,100,101,102,103,104,105,106,107,108,109,110,111,112,113])],take:=zAB [(3,[2]),(16,[1])]}
def zAq.h36:FHint:={drop:=zAB [(0,[0,4,5,6]),(1,[14,15,18]),(2,[19]),(3,[8,21]),(4,[22,23,24]),(5,[1,25,26,27]),(7,[28,29]),(9,[30,31]),(10,[33]),(11,[34,35,36,37,38,39]),(12,[40]),(13,[10,43])],loopDrop:=zAB [(0,[4,5,6,11,12,28,29,30,31,32,33,34,35,36,37,38,39,40,41,42,43])],take:=zAB [(3,[3]),(13,[2,3])]}
def zAq.h37:FHint:={drop:=zAB [(0,[0,4,5,6]),(1,[11,12,15]),(2,[16]),(3,[8,18]),(5,[19,20]),(6,[22,23]),(7,[7,25,26,27,28,29,30,31,32,33]),(8,[35,36]),(9,[38,39,42]),(10,[9,44])],loopDrop:=zAB [(6,[22,23,24,25,26,27,28,29,30,31,32,33,35,36,37,38,39,40,42,2000592,2000593])],take:=zAB [(3,[3]),(10,[2,3])]}
def zAq.h38:FHint:={drop:=zAB [(0,[0,1,4]),(1,[7,8,9,10,11,12,13,14,15,16,17,18,19,20,21,22,23,24,25,26,27,28,29,30,31,32,33,34,35,36,37,38,39,40]),(5,[47,48,49]),(6,[5,50,51,52,53,54,55,56,57,58,59,60,61,62,63,64,65,66,67,68,69,70,71,72,73,74,75,76,77,78,79,80]),(8,[82])],loopDrop:=zAB [(4,[4,5,6,46,47,48,49,50,51,52,53,54,55,56,57,58,59,60,61,62,63,64,65,66,67,68,69,70,71,72,73,74,75,76,77,78,79,80,81,82])]}
def zAq.h39:FHint:={drop:=zAB [(0,[1,4]),(1,[0,5,6,7,8])]}
def zAq.h40:FHint:={drop:=zAB [(0,[1,4]),(1,[0,5,6,7,8])]}
def zAq.h41:FHint:={drop:=zAB [(0,[0,2,3,4]),(1,[10,13]),(2,[14]),(3,[6,16]),(4,[5,18,19,20,21,24]),(5,[8,26])],take:=zAB [(3,[3]),(5,[2,3])]}
def zAq.h42:FHint:={drop:=zAB [(0,[0,4,5,6]),(1,[15,16]),(2,[17]),(3,[7,19]),(4,[20]),(8,[22,23,24]),(9,[26,27]),(10,[13,29,30,31,32,33,36]),(11,[37,38]),(13,[12,40,41,42,43]),(14,[44,45,46,47,48,49]),(15,[14,55]),(16,[10,57])],loopDrop:=zAB [(8,[12,13,14,22,23,24,25,26,27,28,29,30,31,32,33,34,35,36,37,38,39,40,41,42,43,44,45,46,47,48,49,50,51,52,53,54,55])],take:=zAB [(3,[3]),(15,[6]),(16,[2,3])],frz:=true}
def zAq.h43:FHint:={drop:=zAB [(0,[0,2,3,4]),(1,[10,13]),(2,[14]),(3,[6,16]),(4,[5,18,19,20,21,24]),(5,[8,26])],take:=zAB [(3,[3]),(5,[2,3])]}
def zAq.h44:FHint:={drop:=zAB [(0,[2]),(1,[4,5]),(2,[0,7,8,9])],take:=zAB [(3,[1])]}
def zAq.h45:FHint:={drop:=zAB [(0,[4,5]),(1,[10,11]),(2,[12]),(3,[6,14]),(4,[0,15]),(7,[21,22]),(8,[23,24,25,26,27,28,29,30,31,32,33,34,35,36,37,38,39,40,41,42,43,44,45,46,47,48,49,50]),(10,[52,53,54,55,56,57,58,59,60]),(11,[61,62,63,64,65,66,67,68,69]),(12,[70]),(13,[7,71,72])],loopDrop:=zAB [(6,[4,5,9,20,21,22,23,24,25,26,27,28,29,30,31,32,33,34,35,36,37,38,39,40,41,42,43,44,45,46,47,48,49,50,51,52,53,54,55,56,57,58,59,60,61,62,63,64,65,66,67,68,69,70])],take:=zAB [(3,[2])]}
def zAq.h46:FHint:={drop:=zAB [(0,[4,5]),(1,[11,12]),(2,[13]),(3,[6,15]),(5,[16,17,18]),(6,[20,21]),(7,[22,23,24,25,26,27,28,29,30,31,32,33,34,35,36,37,38,39,40,41,42,43,44,45,46,47,48,49,50,51,52,53,54,55,56,57,58,59,60,61]),(10,[63,64,65]),(11,[67,68]),(12,[69,70,71,72]),(14,[73,74,75]),(15,[77,78]),(16,[79,80,81,82,83,84]),(17,[86,87,88,89,90,91,92]),(18,[93,94,95,96,97,98]),(19,[100,101,102,103,104,105,106]),(20,[9,107])],loopDrop:=zAB [(5,[4,5,16,17,18,19,20,21,22,23,24,25,26,27,28,29,30,31,32,33,34,35,36,37,38,39,40,41,42,43,44,45,46,47,48,49,50,51,52,53,54,55,56,57,58,59,60,61,62]),(10,[4,5,9,10,63,64,65,66,67,68,69,70,71,72,73,74,75,76,77,78,79,80,81,82,83,84,85,86,87,88,89,90,91,92,93,94,95,96,97,98,99,100,101,102,103,104,105,106,107,108]),(14,[73,74,75,76,77,78,79,80,81,82,83,84,85,86,87,88,89,90,91,92,93,94,95,96,97,98,99,100,101,102,103,104,105,106])],take:=zAB [(3,[2])]}
def zAq.h47:FHint:={drop:=zAB [(0,[2]),(4,[10,11]),(5,[12,13,14]),(6,[16])],loopDrop:=zAB [(3,[5,9,10,11,12,13,14,16])],take:=zAB [(5,[2]),(7,[1])]}
def zAq.h48:FHint:={drop:=zAB [(0,[2,3]),(1,[11,12]),(2,[13]),(3,[4,15]),(5,[16]),(9,[24,25]),(11,[31,32,33]),(12,[34,35,36,37,38,39]),(13,[41,42]),(14,[9,10,43,44,45,46,47,48,49,50,51,52]),(15,[55,56]),(16,[9,10,57,58,59,60,61,62,63,64,65,66,67]),(17,[69]),(18,[70])],loopDrop:=zAB [(6,[7,8,9,10,20,21,22,23,24,25,26,27,28,29,30,31,32,33,34,35,36,37,38,39,40,41,42,43,44,45,46,47,48,49,50,51,52,54,55,56,57,58,59,60,61,62,63,64,65,66,67,69,70]),(10,[9,10,30,31,32,33,34,35,36,37,38,39,40,41,42,43,44,45,46,47,48,49,50,51,52,54,55,56,57,58,59,60,61,62,63,64,65,66,67,69])],take:=zAB [(3,[2]),(19,[1])]}
def zAq.h49:FHint:={drop:=zAB [(0,[2,3]),(1,[5,6]),(2,[7]),(3,[4,9]),(4,[0,10])],take:=zAB [(3,[2])]}
def zAq.h50:FHint:={drop:=zAB [(0,[2]),(1,[5,6]),(5,[8,9,10]),(6,[12,13]),(7,[14,15,16,17]),(9,[19,20,21,22,23,24]),(10,[3,25])],loopDrop:=zAB [(5,[2,8,9,10,11,12,13,14,15,16,17,18,19,20,21,22,23,24])]}
def zAq.h51:FHint:={drop:=zAB [(0,[6]),(1,[11,12,13,14,15,16,17,18,19,20]),(2,[22,23]),(3,[24,25,26]),(5,[28,29,30]),(6,[32,33]),(7,[34,35,36,37]),(9,[2,39,40]),(12,[41,42,43]),(13,[45,46]),(14,[47,48]),(15,[50,51,52,53,54,55,56,57,58,59,60,61]),(16,[10,62,63,64,65,66,67,68]),(17,[0,1,2,8,69,70,71,72,73,74,75,76,77,78,79,80,81,82,83])],loopDrop:=zAB [(1,[11,12,13,14,15,16,17,18,19,20,21,22,23]),(5,[6,28,29,30,31,32,33,34,35,36,37,38]),(12,[10,41,42,43,44,45,46,47,48,49,50,51,52,53,54,55,56,57,58,59,60,61,62,63,64,65,66,67,68])]}
def zAq.h52:FHint:={drop:=zAB [(0,[4]),(1,[0,1,5,6,7])]}
def zAq.h53:FHint:={drop:=zAB [(0,[2]),(1,[5,6]),(2,[8]),(3,[9,10,11]),(5,[12,13,14]),(6,[16,17]),(7,[18,19,20,21,22,23]),(8,[3,24])],loopDrop:=zAB [(5,[12,13,14,15,16,17,18,19,20,21,22,23])],take:=zAB [(8,[1])]}
def zAq.h54:FHint:={drop:=zAB [(0,[2]),(1,[5,6]),(2,[8]),(3,[9,10,11]),(5,[12,13,14]),(6,[16,17]),(7,[18,19,20,21,22,23]),(8,[3,24])],loopDrop:=zAB [(5,[12,13,14,15,16,17,18,19,20,21,22,23])],take:=zAB [(8,[1])]}
def zAq.h55:FHint:={drop:=zAB [(0,[0,4,5]),(1,[9,10,13]),(2,[14]),(3,[7,16]),(4,[1,6,17,18,19,20,21])],take:=zAB [(3,[2])]}
def zAq.h56:FHint:={drop:=zAB [(0,[0,4,5]),(1,[10,11,14]),(2,[15]),(3,[7,17]),(4,[1,6,18,19,20]),(5,[21,22,23])],take:=zAB [(3,[2])]}
def zAq.h57:FHint:={drop:=zAB [(0,[0,4]),(1,[1,6,7,8,9,10]),(2,[11,12,13,14,15,16,17,18,19,20,21])]}
def zAq.h58:FHint:={drop:=zAB [(0,[0,2]),(1,[7,8,9,10,11,12,13,14,15,16]),(3,[18,19,20,21,22,23,24,25,26,27,28,29,30,31,32,33]),(5,[35,36,37,38]),(9,[44,45]),(10,[47,48,49,50]),(12,[52,53,54,55,56,57]),(14,[58,59,60]),(16,[64]),(17,[5,65,66,67,68,69,70,71,72,73,74,75]),(19,[77]),(20,[78])],loopDrop:=zAB [(8,[2,4,5,43,44,45,46,47,48,49,50,51,52,53,54,55,56,57,58,59,60,61,62,63,64,65,66,67,68,69,70,71,72,73,74,75,76,77,78]),(15,[2,5,63,64,65,66,67,68,69,70,71,72,73,74,75,76,77])]}
def zAq.h59:FHint:={drop:=zAB [(0,[0,2]),(1,[8,9,10,11,12,13,14,15]),(3,[17,18,19,20,21,22,23,24,25,26,27,28]),(6,[30,31,32,33]),(7,[35,36]),(8,[37,38,39,40,41,42,43,44,45,46,47,48,49,50,51]),(11,[53,54,55,56]),(12,[58,59]),(14,[66,67]),(17,[69,70,71]),(18,[73,74]),(19,[75,76,77,78,79,80,81]),(22,[83,84,85]),(23,[87,88]),(24,[89,90,91,92,93,94,95,96,97])],loopDrop:=zAB [(6,[2,30,31,32,33,34,35,36,37,38,39,40,41,42,43,44,45,46,47,48,49,50,51,52]),(11,[2,5,6,7,53,54,55,56,57,58,59,60,61,62,63,64,65,66,67,68,69,70,71,72,73,74,75,76,77,78,79,80,81,82,83,84,85,86,87,88,89,90,91,92,93,94,95,96,97,98]),(17,[2,69,70,71,72,73,74,75,76,77,78,79,80,81,82]),(22,[2,83,84,85,86,87,88,89,90,91,92,93,94,95,96,97,98])]}
def zAq.h60:FHint:={drop:=zAB [(0,[0,4,5]),(1,[9,12]),(2,[14,15]),(3,[7,16]),(4,[18,19,20,21]),(6,[1,6,22,23,24,25,26,27,28])],take:=zAB [(3,[2])]}
def zAq.h61:FHint:={drop:=zAB [(0,[0,4,5]),(1,[7,8]),(2,[9]),(3,[6,11]),(4,[12,13,14,15,16]),(6,[1,18,19,20])],take:=zAB [(3,[2])]}
def zAq.h62:FHint:={drop:=zAB [(0,[0,4,5]),(1,[9,10,11]),(2,[12]),(3,[6,14]),(6,[15,16,17]),(7,[19,20]),(8,[21,22,23,24,25,26])],loopDrop:=zAB [(6,[15,16,17,18,19,20,21,22,23,24,25,26])],take:=zAB [(3,[2]),(9,[1])]}
def zAq.h63:FHint:={drop:=zAB [(0,[0,4,5]),(1,[1,9,10,13]),(2,[14]),(3,[7,16]),(4,[6,17,18,19,20,21])],take:=zAB [(3,[2])]}
def zAq.h64:FHint:={drop:=zAB [(0,[0,6,7,8]),(1,[1,17,18,21]),(2,[22]),(3,[10,24]),(4,[25,26,27,28]),(7,[30,31,32]),(8,[34,35]),(9,[36,37,38,39]),(14,[41,42,43]),(15,[45,46]),(16,[47,48,49,50,51,52,53,54,55,56,57,58,59]),(17,[60,61,62]),(18,[15,64,65,66,67,68,69,70,71]),(19,[13,73])],loopDrop:=zAB [(7,[6,7,8,30,31,32,33,34,35,36,37,38,39,40]),(14,[15,41,42,43,44,45,46,47,48,49,50,51,52,53,54,55,56,57,58,59,60,61,62,64,65,66,67,68,69,70,71])],take:=zAB [(3,[3]),(19,[2,3])]}
def zAq.h65:FHint:={drop:=zAB [(0,[4]),(1,[0,1,5,6,7,8])]}
def zAq.h66:FHint:={drop:=zAB [(0,[2]),(1,[0,3,4])]}
def zAq.h67:FHint:={drop:=zAB [(0,[6]),(1,[8,9,10,11,12,13]),(2,[14,15]),(4,[18,19]),(5,[1,2,20,21,22,23,24,25]),(6,[7,27,28,29,30,31])],take:=zAB [(3,[1]),(7,[1])],mode:=[1,0,0]}
def zAq.h68:FHint:={drop:=zAB [(0,[2]),(1,[3]),(3,[0,5,6])],intr:=1}
def zAq.h69:FHint:={drop:=zAB [(0,[0,4,5]),(1,[11,14]),(2,[16,17]),(3,[7,18]),(4,[20,21,22,23,24]),(8,[29,30,31]),(9,[8,9,32,33,34,35]),(11,[37]),(12,[1,6,38,39,40])],loopDrop:=zAB [(7,[4,5,8,9,28,29,30,31,32,33,34,35,36,37])],take:=zAB [(3,[2])]}
def zAq.h70:FHint:={drop:=zAB [(0,[0,4,5]),(1,[10,11]),(2,[12]),(3,[6,14]),(5,[15,16,17]),(6,[19,20]),(7,[21,22,23,24,25,26,27,28]),(10,[30,31,32]),(11,[34,35]),(13,[36,37]),(14,[39,40]),(15,[41,42,43,44,45,46,47,48]),(17,[1,50,51,52])],loopDrop:=zAB [(5,[4,5,15,16,17,18,19,20,21,22,23,24,25,26,27,28,29]),(10,[4,5,9,30,31,32,33,34,35,36,37,38,39,40,41,42,43,44,45,46,47,48,49]),(13,[4,5,36,37,38,39,40,41,42,43,44,45,46,47,48,49])],take:=zAB [(3,[2])]}
def zAq.h71:FHint:={drop:=zAB [(0,[0,2,3,4]),(1,[14,17]),(2,[18]),(3,[6,20]),(6,[21,22,23]),(8,[27]),(10,[28,29]),(12,[33]),(13,[34,35,36,37]),(14,[11,39,40,41]),(15,[43]),(16,[44,45,46]),(17,[47,48,49,50,51,52,53,54,55,56,57,58,59,60,61,62,63,64,65,66,67,68,69,70,71,72,73]),(18,[12,76]),(19,[77]),(20,[8,79])],loopDrop:=zAB [(7,[9,10,11,12,26,27,28,29,30,31,32,33,34,35,36,37,38,39,40,41,43,44,45,46,47,48,49,50,51,52,53,54,55,56,57,58,59,60,61,62,63,64,65,66,67,68,69,70,71,72,73,74,75,76,77]),(11,[11,32,33,34,35,36,37,38,39,40,41,43])],take:=zAB [(3,[3]),(14,[2]),(18,[2,3]),(20,[2,3])]}
def zAq.h72:FHint:={drop:=zAB [(0,[0,2,3,4]),(1,[11,12]),(2,[13]),(3,[5,15]),(4,[16,17,18]),(8,[20,21,22]),(9,[24,25]),(10,[26,27,28,29,30,31]),(11,[32,33,34,35,36,37,38,39,40,41,42,43,44,45,46,47,48]),(12,[10,54]),(13,[8,56])],loopDrop:=zAB [(8,[10,20,21,22,23,24,25,26,27,28,29,30,31,32,33,34,35,36,37,38,39,40,41,42,43,44,45,46,47,48,49,50,51,52,53,54])],take:=zAB [(3,[3]),(12,[6]),(13,[2,3])],frz:=true}
def zAq.h73:FHint:={drop:=zAB [(0,[2]),(1,[4,5,6]),(2,[7]),(3,[9,10]),(4,[11,12,13,14,15,16,17,18,19])],loopDrop:=zAB [(2,[2,7,8,9,10,11,12,13,14,15,16,17,18,19,20])]}
def zAq.h74:FHint:={drop:=zAB [(0,[4]),(2,[1,8]),(4,[12]),(5,[13,14,15]),(6,[16,17,18]),(7,[6,7,20,21,22,23,24,25,26,27,28,29,30,31,32,33]),(8,[34])],loopDrop:=zAB [(3,[6,7,11,12,13,14,15,16,17,18,20,21,22,23,24,25,26,27,28,29,30,31,32,33,34])],take:=zAB [(9,[1])],mode:=[1,0]}
def zAq.h75:FHint:={drop:=zAB [(1,[1,2,3,4,5,6,7,8,9,10])]}
def zAq.h76:FHint:={drop:=zAB [(0,[4]),(1,[0,1,5,6,7])]}
def zAq.h77:FHint:={drop:=zAB [(0,[4]),(1,[0,1,5,6,7])]}
def zAq.h78:FHint:={drop:=zAB [(0,[6]),(1,[0,1,2,7,8,9,10,11,12,13,14])]}
def zAq.h79:FHint:={drop:=zAB [(0,[1,4]),(1,[0,5,6,7,8])]}
def zAq.h80:FHint:={drop:=zAB [(0,[2]),(1,[0,3,4])]}
def zAq.h81:FHint:={drop:=zAB [(0,[2]),(4,[10,11]),(5,[5,12,13,14]),(6,[15]),(7,[3,16])],loopDrop:=zAB [(3,[5,9,10,11,12,13,14,15])],take:=zAB [(7,[1])]}
def zAq.h82:FHint:={drop:=zAB [(0,[0,1,4,5,6,7,8])],mode:=[1,0]}
def zAq.h83:FHint:={drop:=zAB [(0,[7]),(1,[0,1,2,3,4,8,9,10,11,12,13,14,15,16,17,18,19,20,21,22,23,24])]}
def zAq.h84:FHint:={drop:=zAB [(0,[6]),(1,[0,1,2,7,8,9,10,11,12,13,14])]}
def zAq.h85:FHint:={drop:=zAB [(0,[4]),(1,[6,7,8,9]),(3,[11]),(5,[15]),(6,[5,16,17,18,19,20,21,22,23]),(8,[25])],loopDrop:=zAB [(4,[4,5,14,15,16,17,18,19,20,21,22,23,24,25])]}
def zAq.h86:FHint:={drop:=zAB [(0,[2]),(1,[4,5,6,7,8,9,10,11,12]),(2,[14,15,16,17,18,19,20,21,22,23,24]),(3,[25,26,27,28,29]),(4,[30,31,32,33,34]),(5,[36,37,38,39,40,41,42,43,44,45,46,47,48,49]),(6,[0,50,51,52,53,54,55,56]),(7,[3,57,58,59,60,61,62])],mode:=[1]}
def zAq.h87:FHint:={drop:=zAB [(0,[4]),(1,[0,1,5,6,7,8])]}
def zAq.h88:FHint:={drop:=zAB [(0,[0,4,5]),(1,[11,14]),(2,[16,17]),(3,[7,18]),(4,[20,21,22,23,24,25]),(6,[27,28,29,30,31]),(10,[36,37,38]),(11,[8,9,39,40,41,42]),(13,[44])],loopDrop:=zAB [(9,[4,5,8,9,35,36,37,38,39,40,41,42,43,44])],take:=zAB [(3,[2]),(14,[1])],frz:=true}
def zAq.h89:FHint:={drop:=zAB [(0,[2]),(1,[0,3,4])]}
def zAq.h90:FHint:={drop:=zAB [(4,[12,13,14]),(5,[6,7,15,16,17,18,19,20,21,22,23,24,25,26]),(6,[27]),(7,[28])],loopDrop:=zAB [(3,[6,7,11,12,13,14,15,16,17,18,19,20,21,22,23,24,25,26,27])],take:=zAB [(7,[1])]}
def zAq.h91:FHint:={drop:=zAB [(0,[2]),(1,[4,5]),(2,[0,7,8,9])],take:=zAB [(3,[1])]}
def zAq.h92:FHint:={drop:=zAB [(0,[2]),(1,[0,3])]}
def zAq.h93:FHint:={drop:=zAB [(0,[0,1,4]),(1,[7,8,9,10,11])],mode:=[0,1]}
def zAq.h94:FHint:={drop:=zAB [(0,[0,4]),(1,[8,9]),(2,[10]),(3,[5,12]),(4,[13,14,15,16,17]),(7,[19,20,21]),(8,[23,24]),(9,[25,26,27,28,29,30,31]),(12,[33,34,35]),(13,[37,38]),(14,[39,40,41,42,43,44,45])],loopDrop:=zAB [(7,[4,19,20,21,22,23,24,25,26,27,28,29,30,31,32]),(12,[4,33,34,35,36,37,38,39,40,41,42,43,44,45,46])],take:=zAB [(3,[1])]}
def zAq.h95:FHint:={drop:=zAB [(0,[0,6]),(1,[2]),(3,[15,16,17]),(4,[19,20]),(5,[21,22,23,24,25])],loopDrop:=zAB [(3,[6,15,16,17,18,19,20,21,22,23,24,25,26])]}
def zAq.h96:FHint:={drop:=zAB [(0,[0,6]),(3,[9,10,11]),(4,[13,14]),(5,[15,16,17,18,19]),(6,[21,22,23,24,25]),(7,[7,26])],loopDrop:=zAB [(3,[9,10,11,12,13,14,15,16,17,18,19,20,21,22,23,24,25])],take:=zAB [(7,[1])]}
def zAq.h97:FHint:={drop:=zAB [(0,[6]),(1,[0,8,9]),(2,[1,2,11,12,13,14])],take:=zAB [(2,[4]),(3,[1])]}
def zAq.h98:FHint:={drop:=zAB [(0,[6]),(1,[0,1,2,7,8,9,10,11,12,13,14,15,16,17])]}
def zAq.h99:FHint:={drop:=zAB [(0,[1,4]),(1,[6]),(3,[10]),(4,[11,12,13,14,15]),(5,[5,17]),(6,[18])],loopDrop:=zAB [(2,[4,5,9,10,11,12,13,14,15,16,17,18])],take:=zAB [(5,[1])]}
def zAq.h100:FHint:={drop:=zAB [(0,[1,4]),(1,[6]),(3,[10]),(4,[11,12,13,14,15]),(5,[5,17]),(6,[18])],loopDrop:=zAB [(2,[4,5,9,10,11,12,13,14,15,16,17,18])],take:=zAB [(5,[1])]}
def zAq.h101:FHint:={drop:=zAB [(0,[0,2,3]),(1,[8,9]),(2,[10]),(3,[4,12]),(4,[13,14]),(7,[21,22]),(8,[23,24,25,26,27,28,29,30,31,32,33,34,35,36,37,38,39,40,41,42]),(9,[43])],loopDrop:=zAB [(6,[7,20,21,22,23,24,25,26,27,28,29,30,31,32,33,34,35,36,37,38,39,40,41,42,43])],take:=zAB [(3,[2]),(10,[1])],frz:=true}
def zAq.h102:FHint:={drop:=zAB [(0,[0,1,4,5]),(1,[13]),(3,[14]),(6,[15,16,17]),(7,[18,19,20,21,22,23,24,25]),(8,[32]),(9,[11,37,38,39,40,41,42]),(10,[12,43,44,45,47,48,49,50]),(11,[52])],loopDrop:=zAB [(7,[11,12,18,19,20,21,22,23,24,25,26,27,28,29,30,31,32,33,34,35,36,37,38,39,40,41,42,43,44,45,47,48,49,50])],take:=zAB [(10,[2]),(11,[2])]}
def zAq.h103:FHint:={drop:=zAB [(0,[1,4]),(1,[0,5,6,7,8,9,10,11])]}
def zAq.h104:FHint:={drop:=zAB [(0,[0,4]),(1,[10,11,12,13]),(4,[16,17,18]),(5,[1]),(7,[26,27,28]),(8,[30,31]),(10,[32,33,34]),(11,[36,37]),(12,[38,39,40,41,42,43,44,45,46,47,48,49])],loopDrop:=zAB [(7,[9,26,27,28,29,30,31,32,33,34,35,36,37,38,39,40,41,42,43,44,45,46,47,48,49]),(10,[32,33,34,35,36,37,38,39,40,41,42,43,44,45,46,47,48,49])],take:=zAB [(13,[1])],frz:=true}
def zAq.h105:FHint:={drop:=zAB [(0,[2]),(1,[5,6,7]),(3,[8,9,10]),(4,[12,13]),(5,[14,15,16,17,18,19]),(6,[3,20])],loopDrop:=zAB [(3,[8,9,10,11,12,13,14,15,16,17,18,19])],take:=zAB [(6,[1])]}
def zAq.h106:FHint:={drop:=zAB [(0,[2]),(1,[5,6,7]),(3,[8,9,10]),(4,[12,13]),(5,[14,15,16,17,18,19]),(6,[3,20])],loopDrop:=zAB [(3,[8,9,10,11,12,13,14,15,16,17,18,19])],take:=zAB [(6,[1])]}
def zAq.h107:FHint:={drop:=zAB [(0,[1,4]),(1,[0,5,6,7,8,9,10,11,12,13,14,15])]}
def zAq.h108:FHint:={drop:=zAB [(0,[2]),(1,[4,5,6]),(3,[8,9,10]),(5,[0,12,13,14])]}
def zAq.h109:FHint:={drop:=zAB [(0,[2]),(1,[3]),(3,[0,5,6])],intr:=1}
def zAq.h110:FHint:={drop:=zAB [(0,[2]),(1,[0,3,4])]}
def zAq.h111:FHint:={drop:=zAB [(0,[0,2]),(3,[6]),(4,[7,8])]}
def zAq.h112:FHint:={drop:=zAB [(0,[4]),(1,[6,7,8,9]),(3,[11]),(5,[15]),(6,[5,16,17,18,19,20,21,22,23]),(8,[25])],loopDrop:=zAB [(4,[4,5,14,15,16,17,18,19,20,21,22,23,24,25])]}
def zAq.h113:FHint:={drop:=zAB [(0,[1,4]),(1,[0,5,6,7,8])]}
def zAq.h114:FHint:={drop:=zAB [(0,[0,2]),(1,[3,4,5,6,7,8,9,10])]}
def zAq.h115:FHint:={drop:=zAB [(0,[0,4]),(1,[1,5,6,7,8,9])]}
def zAq.h116:FHint:={drop:=zAB [(0,[4]),(1,[0,1,5,6,7,8,9,10,11,12,13])]}
def zAq.h117:FHint:={drop:=zAB [(0,[0,4]),(1,[1,6,7,8,9,10]),(2,[11,12,13,14,15,16,17,18,19,20,21,22,23,24])]}
def zAq.h118:FHint:={drop:=zAB [(0,[4]),(1,[6]),(3,[10]),(4,[11,12,13,14,15]),(5,[5,17]),(6,[18])],loopDrop:=zAB [(2,[4,5,9,10,11,12,13,14,15,16,17,18])],take:=zAB [(5,[1])],mode:=[0,1]}
def zAq.h119:FHint:={drop:=zAB [(0,[4]),(5,[18,19]),(6,[20,21,22,23,24,25,26,27,28]),(7,[8]),(9,[42,43]),(10,[10,44,45]),(11,[46]),(12,[47]),(16,[51]),(17,[13]),(18,[53,54]),(19,[55]),(20,[56]),(22,[5,11,58,59,60,61,62,63,64])],loopDrop:=zAB [(4,[8,10,17,18,19,20,21,22,23,24,25,26,27,28,30,31,32,33,34,35,36,37,38,39,40,41,42,43,44,45,46,47]),(8,[10,41,42,43,44,45,46]),(15,[13,50,51,52,53,54,55])]}
def zAq.h120:FHint:={drop:=zAB [(0,[0,4]),(3,[12,13,14]),(4,[16,17]),(5,[18,19,20,21,22,23,24,25]),(7,[26,27,28]),(8,[30,31]),(11,[32,33,34]),(12,[36,37]),(13,[38,39,40,41,42,43,44,45,46,47]),(14,[9]),(15,[49,50]),(17,[51,52,53,54,55,56,57,58]),(18,[60,61]),(19,[11,62])],loopDrop:=zAB [(3,[12,13,14,15,16,17,18,19,20,21,22,23,24,25]),(7,[9,10,26,27,28,29,30,31,32,33,34,35,36,37,38,39,40,41,42,43,44,45,46,47,48,49,50]),(11,[32,33,34,35,36,37,38,39,40,41,42,43,44,45,46,47]),(17,[51,52,53,54,55,56,57,58,59,60,61])],take:=zAB [(19,[1])]}
def zAq.h121:FHint:={drop:=zAB [(0,[4]),(3,[13,14,15]),(4,[16,17,18]),(6,[5,20,21,22,23]),(7,[6,7,24,25,26]),(8,[27]),(9,[8,29]),(10,[30]),(11,[0,1,31,32,33,34])],loopDrop:=zAB [(2,[4,5,6,7,8,12,13,14,15,16,17,18,19,20,21,22,23,24,25,26,27,28,29,30])],take:=zAB [(9,[1])]}
def zAq.h122:FHint:={drop:=zAB [(0,[4]),(2,[0,10]),(3,[11,12]),(4,[14,15]),(5,[16,17,18]),(7,[20,21,22]),(8,[24,25]),(9,[26,27,28,29,30,31,32,33,34])],loopDrop:=zAB [(3,[7,8,11,12,13,14,15,16,17,18,19,20,21,22,23,24,25,26,27,28,29,30,31,32,33,34]),(7,[20,21,22,23,24,25,26,27,28,29,30,31,32,33,34])],take:=zAB [(2,[1]),(10,[1])],frz:=true}
def zAq.h123:FHint:={drop:=zAB [(0,[4]),(1,[0,1,5,6,7,8,9,10,11,12,13,14,15,16])]}
def zAq.h124:FHint:={drop:=zAB [(0,[4]),(1,[6,7,8,9]),(3,[11]),(5,[15]),(6,[5,16,17,18,19,20,21,22,23]),(8,[25])],loopDrop:=zAB [(4,[4,5,14,15,16,17,18,19,20,21,22,23,24,25])]}
def zAq.h125:FHint:={drop:=zAB [(0,[6]),(1,[10,11,12,13]),(5,[19]),(6,[7]),(7,[8,9,26,27,28,29]),(9,[31])],loopDrop:=zAB [(4,[6,7,8,9,18,19,20,21,22,23,24,25,26,27,28,29,30,31])]}
def zAq.h126:FHint:={drop:=zAB [(0,[3]),(1,[0,1,4,5,6,7])]}
def zAq.h127:FHint:={drop:=zAB [(1,[10]),(2,[11,12]),(3,[7,14,15,16,17,18]),(4,[19]),(5,[20,21,22]),(6,[7,23,24,25,26,27]),(7,[28,29]),(8,[31,32]),(9,[33,34]),(10,[7,36,37,38,39,40,41,42,43]),(11,[44]),(12,[45,46,47,48]),(13,[49,50,51]),(14,[52,53]),(15,[7,9,55,56,57,58,59,60]),(16,[61,62])],loopDrop:=zAB [(2,[11,12,13,14,15,16,17,18,19,20,21,22]),(7,[7,8,9,28,29,30,31,32,33,34,35,36,37,38,39,40,41,42,43,44,45,46,47,48,49,50,51,52,53,54,55,56,57,58,59,60,61,62]),(9,[33,34,35,36,37,38,39,40,41,42,43,44,45,46,47,48])],mode:=[1,0,0]}
def zAq.h128:FHint:={drop:=zAB [(0,[4]),(1,[6]),(3,[10]),(4,[11,12,13,14,15]),(5,[5,17]),(6,[18])],loopDrop:=zAB [(2,[4,5,9,10,11,12,13,14,15,16,17,18])],take:=zAB [(5,[1])]}
def zAq.h129:FHint:={drop:=zAB [(0,[0,4]),(3,[8,9,10,11])],take:=zAB [(3,[2]),(4,[1])],mode:=[2,0]}
def zAq.h130:FHint:={drop:=zAB [(2,[13,14,15]),(3,[16,17,18,19]),(5,[23]),(6,[8,24,25,26,27,28,29,30,31,32,33,34,35,36,37,38,39,40,41,42,43,44,45,46,47,48,49,50,51,52,53,54,55,56]),(7,[58]),(8,[59])],loopDrop:=zAB [(1,[6,7,8,12,13,14,15,16,17,18,19,20,21,22,23,24,25,26,27,28,29,30,31,32,33,34,35,36,37,38,39,40,41,42,43,44,45,46,47,48,49,50,51,52,53,54,55,56,57,58,59]),(4,[8,22,23,24,25,26,27,28,29,30,31,32,33,34,35,36,37,38,39,40,41,42,43,44,45,46,47,48,49,50,51,52,53,54,55,56,57,58])]}
def zAq.h131:FHint:={drop:=zAB [(0,[0,6]),(1,[13,14,15,16,17,18,19,20]),(2,[2,22,23,24,25,26]),(3,[27,28,29,30,31,32]),(4,[8]),(5,[7,34]),(7,[40]),(9,[48,49]),(10,[11,50,51,52,53,54,55]),(11,[56,57,58,59,60,61]),(12,[12,63]),(13,[64]),(14,[3,65,66,67]),(15,[9,68])],loopDrop:=zAB [(8,[11,12,47,48,49,50,51,52,53,54,55,56,57,58,59,60,61,62,63,64])],take:=zAB [(5,[1]),(12,[1]),(15,[1])],mode:=[0,1,1,1,1]}
def zAq.h132:FHint:={drop:=zAB [(0,[1]),(1,[0,2,7,8,9,10,11,12,13,14,15,16,17,18,19,20,21]),(2,[22,23,24,25]),(3,[26])],take:=zAB [(3,[1])]}
def zAq.h133:FHint:={drop:=zAB [(0,[6]),(1,[0,1,2,3,4,7,8,9,10,11,12,13,14])],mode:=[0,1,1,1,1]}
def zAq.h134:FHint:={drop:=zAB [(0,[2]),(1,[0,3,4])]}
def zAq.h135:FHint:={drop:=zAB [(0,[10,11,12,13,14,15,16,17,18,19]),(1,[0,2,21,22,23,24]),(2,[25,26,27]),(3,[29]),(5,[33]),(6,[34,35,36,37,38,39,40,41,42,43]),(7,[44,45,46,47]),(8,[6,48,49,50,51,52,53,54,55,56,57,58,59,60,61]),(9,[62]),(10,[63,64,65,66,67]),(11,[0,2,68,69,70,71]),(12,[3,72,73,74,75,76]),(13,[1,77,78,79]),(14,[7,80,81,82,83,84,85,86]),(19,[9,94,95,96,97,98]),(20,[99])],loopDrop:=zAB [(4,[6,32,33,34,35,36,37,38,39,40,41,42,43,44,45,46,47,48,49,50,51,52,53,54,55,56,57,58,59,60,61,62]),(17,[9,91,92,93,94,95,96,97,98,99])],mode:=[0,1,1,1,1]}
def zAq.h136:FHint:={drop:=zAB [(0,[1,4]),(1,[0,5,6,7,8])]}
def zAq.h137:FHint:={drop:=zAB [(0,[3]),(4,[11,12]),(5,[6,13,14,15,16,17,18]),(6,[19]),(7,[4,20,21])],loopDrop:=zAB [(3,[6,10,11,12,13,14,15,16,17,18,19])]}
def zAq.h138:FHint:={drop:=zAB [(0,[4]),(1,[0,1,5,6,7,8])]}
def zAq.h139:FHint:={drop:=zAB [(0,[0,3]),(1,[1,4,5,6,7])]}
def zAq.h140:FHint:={drop:=zAB [(0,[4]),(1,[7,8]),(2,[9,10]),(3,[5]),(4,[6]),(7,[6]),(9,[14,15]),(11,[0,1,17,18])]}
def zAq.h141:FHint:={drop:=zAB [(0,[2]),(1,[0,3,4,5])]}
def zAq.h142:FHint:={drop:=zAB [(0,[10,11]),(1,[12,13]),(2,[15,16]),(3,[17]),(4,[18,19,20,21,22,23,24,25,26,27,28,29,30,31,32,33]),(5,[35,36]),(6,[37,38,39,40,41,42,43,44,45,46,47,48,49,50,51,52])],loopDrop:=zAB [(1,[9,12,13,14,15,16,17,18,19,20,21,22,23,24,25,26,27,28,29,30,31,32,33,34,35,36,37,38,39,40,41,42,43,44,45,46,47,48,49,50,51,52]),(4,[18,19,20,21,22,23,24,25,26,27,28,29,30,31,32,33,34,35,36,37,38,39,40,41,42,43,44,45,46,47,48,49,50,51,52])],mode:=[1,0,0,0]}
def zAq.h143:FHint:={drop:=zAB [(0,[25,26,27]),(1,[2,29]),(2,[3,30]),(3,[31,32]),(4,[34,35,36,37,38,39]),(5,[40,41,42,43,44,45,46,47,48,49]),(6,[12,51,52]),(7,[12,53]),(8,[1,54]),(9,[55,56,57]),(10,[59,60]),(11,[61,62,63,64,65,66,67,68,69,70,71,72,73,74,75,76]),(12,[77,78,79]),(13,[1,81]),(14,[82]),(15,[83,84]),(16,[86,87,88,89,90,91]),(17,[92,93,94,95,96,97,98,99,100,101,102]),(18,[16,104,105]),(19,[16,106]),(20,[2,107]),(21,[108,109]),(22,[111,112]),(23,[113,114,115,116,117,118,119,120,121,122,123,124,125,126,127,128]),(24,[129,130,131,132,133,134]),(25,[135,136,137]),(26,[20,21]),(27,[138,139]),(28,[141,142,143]),(29,[144]),(30,[145]),(31,[146]),(32,[147,148]),(33,[149,150]),(34,[152,153,154,155,156,157]),(35,[158,159,160,161,162,163,164,165,166,167,168,169,170]),(36,[23,172,173]),(37,[23,174]),(38,[19,175,176,177]),(39,[178,179,180,181,182,183,184]),(40,[2,186,187,188,189,190,191]),(41,[192,193,194,195,196,197,198]),(42,[1,20,200,201,202,203,204,205]),(43,[206,207,208,209,210,211,212]),(44,[0,3,4,18,24,214,215,216,217,218,219])],loopDrop:=zAB [(3,[12,31,32,33,34,35,36,37,38,39,40,41,42,43,44,45,46,47,48,49,50,51,52,53]),(9,[55,56,57,58,59,60,61,62,63,64,65,66,67,68,69,70,71,72,73,74,75,76]),(15,[16,83,84,85,86,87,88,89,90,91,92,93,94,95,96,97,98,99,100,101,102,103,104,105,106]),(21,[108,109,110,111,112,113,114,115,116,117,118,119,120,121,122,123,124,125,126,127,128]),(33,[23,149,150,151,152,153,154,155,156,157,158,159,160,161,162,163,164,165,166,167,168,169,170,171,172,173,174])],take:=zAB [(1,[1]),(2,[1]),(7,[1]),(8,[1]),(13,[1]),(19,[1]),(20,[1]),(37,[1])]}
def zAq.h144:FHint:={drop:=zAB [(0,[4]),(1,[0,1,5,6,7,8])]}
def zAq.h145:FHint:={drop:=zAB [(0,[3]),(1,[0,1,4,5,6,7])]}
def zAq.h146:FHint:={drop:=zAB [(0,[4]),(1,[6]),(3,[10]),(4,[11,12,13,14,15]),(5,[5,17]),(6,[18])],loopDrop:=zAB [(2,[4,5,9,10,11,12,13,14,15,16,17,18])],take:=zAB [(5,[1])]}
def zAq.h147:FHint:={drop:=zAB [(0,[1,12,13,14]),(1,[3,15,16,17]),(2,[18,19]),(3,[21,22]),(4,[24,25,26,27,28,29,30,31]),(5,[32,33,34]),(6,[35,36,37,38,39,40,41,42,43,44,45,46]),(7,[47,48,49]),(8,[0,2,4,10,50,51,52,53,54,55,56,57])],loopDrop:=zAB [(2,[18,19,20,21,22,23,24,25,26,27,28,29,30,31,32,33,34,35,36,37,38,39,40,41,42,43,44,45,46,47,48,49])]}
def zAq.h148:FHint:={drop:=zAB [(0,[4]),(1,[6]),(3,[10]),(4,[11,12,13,14,15]),(5,[5,17]),(6,[18])],loopDrop:=zAB [(2,[4,5,9,10,11,12,13,14,15,16,17,18])],take:=zAB [(5,[1])]}
def zAq.h149:FHint:={drop:=zAB [(1,[11,12]),(2,[14,15]),(3,[16,17,18,19,20,21,22,23,24,25,26,27,28,29,30,31,32,33,34,35,36,37])],loopDrop:=zAB [(1,[11,12,13,14,15,16,17,18,19,20,21,22,23,24,25,26,27,28,29,30,31,32,33,34,35,36,37])]}
def zAq:zBk:=fun f=>zU0 [(3,zAq.h3),(4,zAq.h4),(5,zAq.h5),(6,zAq.h6),(7,zAq.h7),(8,zAq.h8),(9,zAq.h9),(10,zAq.h10),(11,zAq.h11),(12,zAq.h12),(13,zAq.h13),(14,zAq.h14),(15,zAq.h15),(16,zAq.h16),(17,zAq.h17),(18,zAq.h18),(19,zAq.h19),(20,zAq.h20),(21,zAq.h21),(22,zAq.h22),(23,zAq.h23),(24,zAq.h24),(25,zAq.h25),(26,zAq.h26),(27,zAq.h27),(28,zAq.h28),(29,zAq.h29),(30,zAq.h30),(31,zAq.h31),(32,zAq.h32),(33,zAq.h33),(34,zAq.h34),(35,zAq.h35),(36,zAq.h36),(37,zAq.h37),(38,zAq.h38),(39,zAq.h39),(40,zAq.h40),(41,zAq.h41),(42,zAq.h42),(43,zAq.h43),(44,zAq.h44),(45,zAq.h45),(46,zAq.h46),(47,zAq.h47),(48,zAq.h48),(49,zAq.h49),(50,zAq.h50),(51,zAq.h51),(52,zAq.h52),(53,zAq.h53),(54,zAq.h54),(55,zAq.h55),(56,zAq.h56),(57,zAq.h57),(58,zAq.h58),(59,zAq.h59),(60,zAq.h60),(61,zAq.h61),(62,zAq.h62),(63,zAq.h63),(64,zAq.h64),(65,zAq.h65),(66,zAq.h66),(67,zAq.h67),(68,zAq.h68),(69,zAq.h69),(70,zAq.h70),(71,zAq.h71),(72,zAq.h72),(73,zAq.h73),(74,zAq.h74),(75,zAq.h75),(76,zAq.h76),(77,zAq.h77),(78,zAq.h78),(79,zAq.h79),(80,zAq.h80),(81,zAq.h81),(82,zAq.h82),(83,zAq.h83),(84,zAq.h84),(85,zAq.h85),(86,zAq.h86),(87,zAq.h87),(88,zAq.h88),(89,zAq.h89),(90,zAq.h90),(91,zAq.h91),(92,zAq.h92),(93,zAq.h93),(94,zAq.h94),(95,zAq.h95),(96,zAq.h96),(97,zAq.h97),(98,zAq.h98),(99,zAq.h99),(100,zAq.h100),(101,zAq.h101),(102,zAq.h102),(103,zAq.h103),(104,zAq.h104),(105,zAq.h105),(106,zAq.h106),(107,zAq.h107),(108,zAq.h108),(109,zAq.h109),(110,zAq.h110),(111,zAq.h111),(112,zAq.h112),(113,zAq.h113),(114,zAq.h114),(115,zAq.h115),(116,zAq.h116),(117,zAq.h117),(118,zAq.h118),(119,zAq.h119),(120,zAq.h120),(121,zAq.h121),(122,zAq.h122),(123,zAq.h123),(124,zAq.h124),(125,zAq.h125),(126,zAq.h126),(127,zAq.h127),(128,zAq.h128),(129,zAq.h129),(130,zAq.h130),(131,zAq.h131),(132,zAq.h132),(133,zAq.h133),(134,zAq.h134),(135,zAq.h135),(136,zAq.h136),(137,zAq.h137),(138,zAq.h138),(139,zAq.h139),(140,zAq.h140),(141,zAq.h141),(142,zAq.h142),(143,zAq.h143),(144,zAq.h144),(145,zAq.h145),(146,zAq.h146),(147,zAq.h147),(148,zAq.h148),(149,zAq.h149)] f
end Go.Eng
namespace Go.Eng
open Go
abbrev Al:=PV→Value→Prop
def zCj:Al:=fun _ _=>False
def zEQ (w:World) (b:Nat) (c:Array Value):Prop:=∃ e,w.heap[b]? = some (.cells c e (0,0))
def zIL (w:World) (b:Nat) (c:Array Value):Prop:=∃ e fz,w.heap[b]? = some (.cells c e fz)
def seg (c:Array Value) (o n:Nat):List Value:=(c.toList.drop o).take n
def zCh:Value→Bool
 | .agg _=>true
 | _=>false
def flat (us:List Value):List Value:=us.flatMap fun u=>u.cells.toList
mutual
def Rep (w:World) (Φ:Nat→Prop) (A:Al):PV→Value→List Nat→Prop
 | .bad,_,L=>L=[]
 | .und,v,L=>v=undef∧L=[]
 | .int k n,v,L=>v = .int k n∧L=[]
 | .bool b,v,L=>v = .bool b∧L=[]
 | .nilp,v,L=>v = .pointer none∧L=[]
 | .nilf,v,L=>v = .nilFunc∧L=[]
 | .nilm,v,L=>v = .map none∧L=[]
 | .nn,v,L=>L=[]∧∃ a n,v = .slice (some a) 0 n
 | .nils _,v,L=>v = .slice none 0 0∧L=[]
 | .agg cs,v,L=>∃ vs:Array Value,v = .agg vs∧zA1 w Φ A cs vs.toList L
 | .tup cs,v,L=>∃ vs:Array Value,v = .tuple vs∧zA1 w Φ A cs vs.toList L
 | .sl xs,v,L=>L=[]∧((xs=[]∧∃ a n,v = .slice a 0 n∧(a=none→n=0))∨∃ a n c us sz,v = .slice (some a) xs.length n∧a.spot=none∧xs.length≤n∧Φ a.block∧zIL w a.block c ∧
   (∀ x∈xs,x.cells.length=sz)∧((∀ u∈us,u.cells.size=sz)∧us.map zCh=xs.map PV.isAgg)∧seg c a.off (xs.length*sz)=flat us∧zA1 w Φ zCj xs us [])
 | .own sz xs,v,L=>(xs=[]∧L=[]∧v = .slice none 0 0)∨∃ a n c us L',L=a.block::L'∧v = .slice (some a) xs.length n∧a.spot=none∧xs.length≤n∧zEQ w a.block c∧a.off+n*sz≤c.size ∧
   (∀ x∈xs,x.cells.length=sz)∧((∀ u∈us,u.cells.size=sz)∧us.map zCh=xs.map PV.isAgg)∧seg c a.off (xs.length*sz)=flat us∧zA1 w Φ zCj xs us L'
 | .ref q,v,L=>L=[]∧∃ a c u,v = .pointer (some a)∧a.spot=none∧Φ a.block∧zIL w a.block c∧seg c a.off q.cells.length=u.cells.toList∧(u.cells.size=q.cells.length∧zCh u=q.isAgg)∧Rep w Φ A q u []
 | .box q,v,L=>∃ a c u L',L=a.block::L'∧v = .pointer (some a)∧a.spot=none∧zEQ w a.block c∧seg c a.off q.cells.length=u.cells.toList∧(u.cells.size=q.cells.length∧zCh u=q.isAgg)∧Rep w Φ A q u L'
 | .map es,v,L=>L=[]∧∃ b ents,v = .map (some b)∧Φ b∧w.heap[b]? = some (.map ents es.length)∧zD8 w Φ es ents.toList 0
 | .omap es,v,L=>∃ b ents,L=[b]∧v = .map (some b)∧w.heap[b]? = some (.map ents es.length)∧zD8 w Φ es ents.toList 0
 | .func f first caps,v,L=>L=[]∧∃ fs cs:Array Value,v = .func (.func f) fs cs∧zA1 w Φ A first fs.toList []∧zA1 w Φ A caps cs.toList []
 | .addr r pre i c sh,v,L=>L=[]∧A (.addr r pre i c sh) v
 | .bor r pre z lo n,v,L=>L=[]∧A (.bor r pre z lo n) v
 | .bsl r pre i c sz ag n,v,L=>L=[]∧A (.bsl r pre i c sz ag n) v
 | .bmap r pre,v,L=>L=[]∧A (.bmap r pre) v
 | .lock q,v,L=>Rep w Φ A q v L
 | .yld h,v,L=>L=[]∧v = .func (.yield h) #[] #[]
 | .log xs k,v,L=>L=[]∧A (.log xs k) v
def zA1 (w:World) (Φ:Nat→Prop) (A:Al):List PV→List Value→List Nat→Prop
 | [],vs,L=>vs=[]∧L=[]
 | p::ps,vs,L=>∃ v vs' L1 L2,vs=v::vs'∧L=L1++L2∧Rep w Φ A p v L1∧zA1 w Φ A ps vs' L2
def zD8 (w:World) (Φ:Nat→Prop):List (PV×PV)→List MapEntry→Nat→Prop
 | [],es,_=>es=[]
 | (k,p)::ps,es,i=>∃ e es',es=e::es'∧e.born=i∧Rep w Φ zCj k e.key []∧Rep w Φ zCj p e.val []∧zD8 w Φ ps es' (i+1)
end
section
variable {w w':World} {Φ Φ':Nat→Prop}
theorem zHv {f:PV→PV} (hf:∀ p,(f p).isAgg=p.isAgg) (p:PV):(p.mapW f).cells.length=p.cells.length:=by
 have one:∀ p:PV,p.isAgg=false→p.cells.length=1:=by intro p h;cases p<;>simp_all [PV.isAgg,PV.cells]
 have len:∀ ps:List PV,(zCF f ps).length=ps.length:=by
  intro ps;induction ps with
  | nil=>rfl
  | cons p ps ih=>simp [zCF,ih]
 cases p with
 | agg cs=>simp [PV.mapW,PV.cells,len]
 | addr r pre i c sh=>rw [PV.mapW,one _ (by rw [hf];rfl),one _ rfl]
 | bor r pre z lo n=>rw [PV.mapW,one _ (by rw [hf];rfl),one _ rfl]
 | bsl r pre i c z ag n=>rw [PV.mapW,one _ (by rw [hf];rfl),one _ rfl]
 | bmap r pre=>rw [PV.mapW,one _ (by rw [hf];rfl),one _ rfl]
 | log xs k=>rw [PV.mapW,one _ (by rw [hf];rfl),one _ rfl]
 | _=>rfl
theorem zFN {f:PV→PV} (hf:∀ p,(f p).isAgg=p.isAgg) (p:PV):(p.mapW f).isAgg=p.isAgg:=by
 cases p<;>first | rfl | exact hf _
mutual
theorem Rep.map {A A':Al} {f:PV→PV} (hf:∀ p,(f p).isAgg=p.isAgg) (hΦ:∀ b,Φ b→Φ' b∧w'.heap[b]? = w.heap[b]?) (hA:∀ a v,a.isWay=true→A a v→Rep w' Φ' A' (f a) v []) :
  ∀ (p:PV) (v:Value) (L:List Nat),(∀ b∈L,w'.heap[b]? = w.heap[b]?)→Rep w Φ A p v L→Rep w' Φ' A' (p.mapW f) v L
 | .bad,_,_,_,h=>by simpa [Rep,PV.mapW] using h
 | .und,_,_,_,h=>by simpa [Rep,PV.mapW] using h
 | .int ..,_,_,_,h=>by simpa [Rep,PV.mapW] using h
 | .bool _,_,_,_,h=>by simpa [Rep,PV.mapW] using h
 | .nilp,_,_,_,h=>by simpa [Rep,PV.mapW] using h
 | .nilf,_,_,_,h=>by simpa [Rep,PV.mapW] using h
 | .nilm,_,_,_,h=>by simpa [Rep,PV.mapW] using h
 | .nn,_,_,_,h=>by simpa [Rep,PV.mapW] using h
 | .nils _,_,_,_,h=>by simpa [Rep,PV.mapW] using h
 | .agg cs,v,L,hw,h=>by
  obtain ⟨vs,rfl,h⟩:=h
  exact ⟨vs,rfl,zA1.map hf hΦ hA cs _ L hw h⟩
 | .tup cs,v,L,hw,h=>by
  obtain ⟨vs,rfl,h⟩:=h
  exact ⟨vs,rfl,zA1.map hf hΦ hA cs _ L hw h⟩
 | .sl xs,v,L,hw,h=>by
  obtain ⟨rfl,h | ⟨a,n,c,us,sz,h1,h2,h3,h4,⟨e,fz,h5⟩,h6,h7,h8,h9⟩⟩:=h
  ·exact ⟨rfl,.inl h⟩
  ·have:=zA1.same (A:=zCj) hΦ xs us [] (by simp) h9
   exact ⟨rfl,.inr ⟨a,n,c,us,sz,h1,h2,h3,(hΦ _ h4).1,⟨e,fz,(hΦ _ h4).2.trans h5⟩,h6,h7,h8,this⟩⟩
 | .own sz xs,v,L,hw,h=>by
  obtain h | ⟨a,n,c,us,L',rfl,h1,h2,h3,⟨e,h5⟩,h6,h7,h8,h9,h10⟩:=h
  ·exact .inl h
  ·have:=zA1.same (A:=zCj) hΦ xs us L' (fun b hb=>hw b (by simp [hb])) h10
   exact .inr ⟨a,n,c,us,L',rfl,h1,h2,h3,⟨e,(hw _ (by simp)).trans h5⟩,h6,h7,h8,h9,this⟩
 | .ref q,v,L,hw,h=>by
  obtain ⟨rfl,a,c,u,h1,h2,h3,⟨e,fz,h4⟩,h5,h6,h7⟩:=h
  have hc:(q.mapW f).cells.length=q.cells.length:=zHv hf q
  exact ⟨rfl,a,c,u,h1,h2,(hΦ _ h3).1,⟨e,fz,(hΦ _ h3).2.trans h4⟩,by rw [hc];exact h5,by rw [hc,zFN hf];exact h6,Rep.map hf hΦ hA q u [] (by simp) h7⟩
 | .box q,v,L,hw,h=>by
  obtain ⟨a,c,u,L',rfl,h1,h2,⟨e,h4⟩,h5,h6,h7⟩:=h
  have hc:(q.mapW f).cells.length=q.cells.length:=zHv hf q
  exact ⟨a,c,u,L',rfl,h1,h2,⟨e,(hw _ (by simp)).trans h4⟩,by rw [hc];exact h5,by rw [hc,zFN hf];exact h6,Rep.map hf hΦ hA q u L' (fun b hb=>hw b (by simp [hb])) h7⟩
 | .map es,v,L,hw,h=>by
  obtain ⟨rfl,b,ents,h1,h2,h3,h4⟩:=h
  exact ⟨rfl,b,ents,h1,(hΦ _ h2).1,(hΦ _ h2).2.trans h3,zD8.same hΦ es _ _ h4⟩
 | .omap es,v,L,hw,h=>by
  obtain ⟨b,ents,rfl,h1,h3,h4⟩:=h
  exact ⟨b,ents,rfl,h1,(hw _ (by simp)).trans h3,zD8.same hΦ es _ _ h4⟩
 | .func g a b,v,L,hw,h=>by
  obtain ⟨rfl,fs,cs,h1,h2,h3⟩:=h
  exact ⟨rfl,fs,cs,h1,zA1.map hf hΦ hA a _ [] (by simp) h2,zA1.map hf hΦ hA b _ [] (by simp) h3⟩
 | .addr ..,v,L,hw,h=>by obtain ⟨rfl,h⟩:=h;exact hA _ _ rfl h
 | .bor ..,v,L,hw,h=>by obtain ⟨rfl,h⟩:=h;exact hA _ _ rfl h
 | .bsl ..,v,L,hw,h=>by obtain ⟨rfl,h⟩:=h;exact hA _ _ rfl h
 | .bmap ..,v,L,hw,h=>by obtain ⟨rfl,h⟩:=h;exact hA _ _ rfl h
 | .lock q,v,L,hw,h=>Rep.map hf hΦ hA q v L hw h
 | .yld _,v,L,hw,h=>h
 | .log ..,v,L,hw,h=>by obtain ⟨rfl,h⟩:=h;exact hA _ _ rfl h
theorem zA1.map {A A':Al} {f:PV→PV} (hf:∀ p,(f p).isAgg=p.isAgg) (hΦ:∀ b,Φ b→Φ' b∧w'.heap[b]? = w.heap[b]?) (hA:∀ a v,a.isWay=true→A a v→Rep w' Φ' A' (f a) v []) :
  ∀ (ps:List PV) (vs:List Value) (L:List Nat),(∀ b∈L,w'.heap[b]? = w.heap[b]?)→zA1 w Φ A ps vs L→zA1 w' Φ' A' (zCF f ps) vs L
 | [],_,_,_,h=>h
 | p::ps,vs,L,hw,h=>by
  obtain ⟨v,vs',L1,L2,rfl,rfl,h1,h2⟩:=h
  exact ⟨v,vs',L1,L2,rfl,rfl,Rep.map hf hΦ hA p v L1 (fun b hb=>hw b (by simp [hb])) h1,zA1.map hf hΦ hA ps vs' L2 (fun b hb=>hw b (by simp [hb])) h2⟩
theorem Rep.same {A:Al} (hΦ:∀ b,Φ b→Φ' b∧w'.heap[b]? = w.heap[b]?) :
  ∀ (p:PV) (v:Value) (L:List Nat),(∀ b∈L,w'.heap[b]? = w.heap[b]?)→Rep w Φ zCj p v L→Rep w' Φ' A p v L
 | .bad,_,_,_,h=>h
 | .und,_,_,_,h=>h
 | .int ..,_,_,_,h=>h
 | .bool _,_,_,_,h=>h
 | .nilp,_,_,_,h=>h
 | .nilf,_,_,_,h=>h
 | .nilm,_,_,_,h=>h
 | .nn,_,_,_,h=>h
 | .nils _,_,_,_,h=>h
 | .agg cs,v,L,hw,h=>by
  obtain ⟨vs,rfl,h⟩:=h
  exact ⟨vs,rfl,zA1.same hΦ cs _ L hw h⟩
 | .tup cs,v,L,hw,h=>by
  obtain ⟨vs,rfl,h⟩:=h
  exact ⟨vs,rfl,zA1.same hΦ cs _ L hw h⟩
 | .sl xs,v,L,hw,h=>by
  obtain ⟨rfl,h | ⟨a,n,c,us,sz,h1,h2,h3,h4,⟨e,fz,h5⟩,h6,h7,h8,h9⟩⟩:=h
  ·exact ⟨rfl,.inl h⟩
  ·have:=zA1.same (A:=zCj) hΦ xs us [] (by simp) h9
   exact ⟨rfl,.inr ⟨a,n,c,us,sz,h1,h2,h3,(hΦ _ h4).1,⟨e,fz,(hΦ _ h4).2.trans h5⟩,h6,h7,h8,this⟩⟩
 | .own sz xs,v,L,hw,h=>by
  obtain h | ⟨a,n,c,us,L',rfl,h1,h2,h3,⟨e,h5⟩,h6,h7,h8,h9,h10⟩:=h
  ·exact .inl h
  ·have:=zA1.same (A:=zCj) hΦ xs us L' (fun b hb=>hw b (by simp [hb])) h10
   exact .inr ⟨a,n,c,us,L',rfl,h1,h2,h3,⟨e,(hw _ (by simp)).trans h5⟩,h6,h7,h8,h9,this⟩
 | .ref q,v,L,hw,h=>by
  obtain ⟨rfl,a,c,u,h1,h2,h3,⟨e,fz,h4⟩,h5,h6,h7⟩:=h
  exact ⟨rfl,a,c,u,h1,h2,(hΦ _ h3).1,⟨e,fz,(hΦ _ h3).2.trans h4⟩,h5,h6,Rep.same hΦ q u [] (by simp) h7⟩
 | .box q,v,L,hw,h=>by
  obtain ⟨a,c,u,L',rfl,h1,h2,⟨e,h4⟩,h5,h6,h7⟩:=h
  exact ⟨a,c,u,L',rfl,h1,h2,⟨e,(hw _ (by simp)).trans h4⟩,h5,h6,Rep.same hΦ q u L' (fun b hb=>hw b (by simp [hb])) h7⟩
 | .map es,v,L,hw,h=>by
  obtain ⟨rfl,b,ents,h1,h2,h3,h4⟩:=h
  exact ⟨rfl,b,ents,h1,(hΦ _ h2).1,(hΦ _ h2).2.trans h3,zD8.same hΦ es _ _ h4⟩
 | .omap es,v,L,hw,h=>by
  obtain ⟨b,ents,rfl,h1,h3,h4⟩:=h
  exact ⟨b,ents,rfl,h1,(hw _ (by simp)).trans h3,zD8.same hΦ es _ _ h4⟩
 | .func g a b,v,L,hw,h=>by
  obtain ⟨rfl,fs,cs,h1,h2,h3⟩:=h
  exact ⟨rfl,fs,cs,h1,zA1.same hΦ a _ [] (by simp) h2,zA1.same hΦ b _ [] (by simp) h3⟩
 | .addr ..,v,L,hw,h=>h.2.elim
 | .bor ..,v,L,hw,h=>h.2.elim
 | .bsl ..,v,L,hw,h=>h.2.elim
 | .bmap ..,v,L,hw,h=>h.2.elim
 | .lock q,v,L,hw,h=>Rep.same hΦ q v L hw h
 | .yld _,v,L,hw,h=>h
 | .log ..,v,L,hw,h=>h.2.elim
theorem zA1.same {A:Al} (hΦ:∀ b,Φ b→Φ' b∧w'.heap[b]? = w.heap[b]?) :
  ∀ (ps:List PV) (vs:List Value) (L:List Nat),(∀ b∈L,w'.heap[b]? = w.heap[b]?)→zA1 w Φ zCj ps vs L→zA1 w' Φ' A ps vs L
 | [],_,_,_,h=>h
 | p::ps,vs,L,hw,h=>by
  obtain ⟨v,vs',L1,L2,rfl,rfl,h1,h2⟩:=h
  exact ⟨v,vs',L1,L2,rfl,rfl,Rep.same hΦ p v L1 (fun b hb=>hw b (by simp [hb])) h1,zA1.same hΦ ps vs' L2 (fun b hb=>hw b (by simp [hb])) h2⟩
theorem zD8.same (hΦ:∀ b,Φ b→Φ' b∧w'.heap[b]? = w.heap[b]?):∀ (ps:List (PV×PV)) (es:List MapEntry) (i:Nat),zD8 w Φ ps es i→zD8 w' Φ' ps es i
 | [],_,_,h=>h
 | (k,p)::ps,es,i,h=>by
  obtain ⟨e,es',rfl,h0,h1,h2,h3⟩:=h
  exact ⟨e,es',rfl,h0,Rep.same hΦ k _ [] (by simp) h1,Rep.same hΦ p _ [] (by simp) h2,zD8.same hΦ ps es' (i+1) h3⟩
end
end
mutual
theorem zBg:∀ p:PV,p.mapW (fun x=>x)=p
 | .agg cs=>by rw [PV.mapW,zFM]
 | .tup cs=>by rw [PV.mapW,zFM]
 | .func g a b=>by rw [PV.mapW,zFM,zFM]
 | .ref q=>by rw [PV.mapW,zBg]
 | .box q=>by rw [PV.mapW,zBg]
 | .lock q=>by rw [PV.mapW,zBg]
 | .addr .. => rfl
 | .bor .. => rfl
 | .bsl .. => rfl
 | .bmap .. => rfl
 | .yld .. => rfl
 | .log .. => rfl
 | .bad=>rfl
 | .und=>rfl
 | .int .. => rfl
 | .bool .. => rfl
 | .nilp=>rfl
 | .nilf=>rfl
 | .nilm=>rfl
 | .nn=>rfl
 | .nils _=>rfl
 | .sl _=>rfl
 | .own .. => rfl
 | .map _=>rfl
 | .omap _=>rfl
theorem zFM:∀ ps:List PV,zCF (fun x=>x) ps=ps
 | []=>rfl
 | p::ps=>by rw [zCF,zBg,zFM]
end
def zDf (w w':World) (Φ Φ':Nat→Prop):Prop:=∀ b,Φ b→Φ' b∧w'.heap[b]? = w.heap[b]?
theorem zCR {w:World} {Φ:Nat→Prop} {A:Al} {a:PV} {v:Value} (hw:a.isWay=true) (h:A a v):Rep w Φ A a v []:=by
 cases a<;>first | exact ⟨rfl,h⟩ | exact absurd hw (by simp [PV.isWay])
section
variable {w w':World} {Φ Φ':Nat→Prop} {A A':Al}
theorem Rep.mono (hΦ:zDf w w' Φ Φ') (hA:∀ a v,a.isWay=true→A a v→A' a v) {p:PV} {v:Value} {L:List Nat} (hw:∀ b∈L,w'.heap[b]? = w.heap[b]?) (h:Rep w Φ A p v L):Rep w' Φ' A' p v L:=by
 have:=Rep.map (f:=fun x=>x) (fun _=>rfl) hΦ (fun a v hw h=>zCR hw (hA a v hw h)) p v L hw h
 rwa [zBg] at this
theorem zA1.mono (hΦ:zDf w w' Φ Φ') (hA:∀ a v,a.isWay=true→A a v→A' a v) {p:List PV} {v:List Value} {L:List Nat} (hw:∀ b∈L,w'.heap[b]? = w.heap[b]?) (h:zA1 w Φ A p v L):zA1 w' Φ' A' p v L:=by
 have:=zA1.map (f:=fun x=>x) (fun _=>rfl) hΦ (fun a v hw h=>zCR hw (hA a v hw h)) p v L hw h
 rwa [zFM] at this
theorem zDf.refl:zDf w w Φ Φ:=fun _ h=>⟨h,rfl⟩
theorem zA1.split:∀ {ps:List PV} {vs:List Value} {L:List Nat},zA1 w Φ A ps vs L→∀ {i:Nat} {p:PV},ps[i]? = some p →
  ∃ v La Li Lb,vs[i]? = some v∧L=La++Li++Lb∧Rep w Φ A p v Li ∧
   (∀ w' Φ' (A':Al) p' Li',(∀ a v,a.isWay=true→A a v→A' a v)→zDf w w' Φ Φ'→(∀ b∈La++Lb,w'.heap[b]? = w.heap[b]?)→Rep w' Φ' A' p' v Li'→zA1 w' Φ' A' (ps.set i p') vs (La++Li'++Lb)) ∧
   ∀ j p2,j≠i→ps[j]? = some p2→∃ v2 L2,vs[j]? = some v2∧Rep w Φ A p2 v2 L2∧∀ b∈L2,b∈La++Lb
 | [],_,_,_,_,_,hp=>by simp at hp
 | q :: ps,vs,L,h,0,p,hp=>by
  obtain ⟨v,vs',L1,L2,rfl,rfl,h1,h2⟩:=h
  simp at hp;subst hp
  refine ⟨v,[],L1,L2,rfl,by simp,h1,?_,?_⟩
  ·intro w' Φ' A' p' Li' hA hs hb hr
   exact ⟨v,vs',Li',L2,rfl,by simp,hr,h2.mono hs hA (by simpa using hb)⟩
  ·intro j p2 hj uo
   cases j with
   | zero=>exact absurd rfl hj
   | succ j =>
    obtain ⟨v2,La,Li,Lb,kS,rfl,wq,_⟩:=h2.split (i:=j) (p:=p2) (by simpa using uo)
    exact ⟨v2,Li,by simpa using kS,wq,fun b hb=>by simp [hb]⟩
 | q :: ps,vs,L,h,i+1,p,hp=>by
  obtain ⟨v,vs',L1,L2,rfl,rfl,h1,h2⟩:=h
  obtain ⟨u,La,Li,Lb,hu,rfl,hr,hk,ho⟩:=h2.split (i:=i) (by simpa using hp)
  refine ⟨u,L1++La,Li,Lb,by simpa using hu,by simp,hr,?_,?_⟩
  rotate_left
  ·intro j p2 hj uo
   cases j with
   | zero=>simp at uo;subst uo;exact ⟨v,L1,rfl,h1,fun b hb=>by simp [hb]⟩
   | succ j =>
    obtain ⟨v2,L2,jT,jQ,vr⟩:=ho j p2 (by omega) (by simpa using uo)
    exact ⟨v2,L2,by simpa using jT,jQ,fun b hb=>by have:=vr b hb;simp at this ⊢;rcases this with h | h<;>simp [h]⟩
  intro w' Φ' A' p' Li' hA hs hb yq
  exact ⟨v,vs',L1,La++Li'++Lb,rfl,by simp,h1.mono hs hA (fun b h=>hb b (by simp [h])),hk w' Φ' A' p' Li' hA hs (fun b h=>hb b (by rcases List.mem_append.1 h with h | h<;>simp [h])) yq⟩
theorem zA1.length:∀ {ps:List PV} {vs:List Value} {L:List Nat},zA1 w Φ A ps vs L→vs.length=ps.length
 | [],_,_,h=>by simp [h.1]
 | _::_,_,_,h=>by
  obtain ⟨v,vs',L1,L2,rfl,rfl,h1,h2⟩:=h
  simp [h2.length]
end
def zAy (a:Addr) (k:Nat):Addr:=⟨a.block,a.off+k,none⟩
def kid (w:World):Value→PV→Nat→Nat→Option Value
 | .slice (some a) _ _,.own sz _,i,c=>w.cell? (zAy a (i*sz+c))
 | .pointer (some a),.box _,_,c=>w.cell? (zAy a c)
 | .agg vs,.agg _,_,c=>vs[c]?
 | _,_,_,_=>none
def zAR (w:World):Value→PV→zAT→Option (Value×PV)
 | v,p,[]=>some (v,p)
 | v, p, (i,c)::rest =>
  match zA0 p with
  | some xs=>match xs[i]? with
   | some x=>match x.cells[c]? with
    | some q=>match kid w v p i c with
     | some u=>zAR w u q rest
     | none=>none
    | none=>none
   | none=>none
  | none=>none
def zA7:Value→PV→Nat→Nat→Option Addr
 | .slice (some a) _ _,.own sz _,i,c=>some (zAy a (i*sz+c))
 | .pointer (some a),.box _,0,c=>some (zAy a c)
 | _,_,_,_=>none
def zBW (v nv:Value) (sz lo n:Nat):Prop :=
 match nv with
 | .slice none _ _=>v = .slice none 0 0∧n=0
 | .slice (some a) _ cap=>v = .slice (some (zAy a (lo*sz))) n (cap-lo)∧lo+n≤cap
 | _=>False
def zA6 (w:World) (rv:Nat→Value) (E:Nat→PV):Al
 | .addr r pre i c _,v=>r<zAd∧∃ a,v = .pointer (some a)∧a.spot=none∧∀ nv np,zAR w (rv r) (E r).unlock pre=some (nv,np)→∀ a',zA7 nv np i c=some a'→a=a'
 | .bor r pre z lo n,v=>r<zAd∧(∃ a cap,v = .slice a n cap∧n≤cap∧(a=none→cap=0)∧∀ b,a=some b→b.spot=none) ∧
   ∀ nv np,zAR w (rv r) (E r).unlock pre=some (nv,np)→np.heavy0=true→∃ sz xs,np = .own sz xs∧z=sz∧zBW v nv sz lo n
 | .bsl r pre i c _ _ n,v=>r<zAd∧∃ a cap,v = .slice (some a) n cap∧n≤cap∧a.spot=none ∧
   ∀ nv np,zAR w (rv r) (E r).unlock pre=some (nv,np)→∀ a',zA7 nv np i c=some a'→a=a'
 | .bmap r pre,v=>r<zAd∧(∃ b,v = .map (some b))∧∀ nv np,zAR w (rv r) (E r).unlock pre=some (nv,np)→∀ es,np = .omap es→v=nv
 | _,_=>False
def child (p:PV) (i c:Nat):Option PV:=(zA0 p).bind fun xs=>(xs[i]?).bind fun x=>x.cells[c]?
theorem zB5 (p:PV) (i c:Nat) (rest:zAT):zAz p ((i,c)::rest)=(child p i c).bind (zAz · rest):=by
 simp only [zAz,child];split
 ·rename_i xs h;rw [h];simp only [Option.bind_some];split
  ·rename_i x h;rw [h];simp only [Option.bind_some];split
   ·rename_i q h;rw [h];rfl
   ·rename_i h;rw [h];rfl
  ·rename_i h;rw [h];rfl
 ·rename_i h;rw [h];rfl
theorem zA4 (w:World) (v:Value) (p:PV) (i c:Nat) (rest:zAT):zAR w v p ((i,c)::rest)=(child p i c).bind fun q=>(kid w v p i c).bind fun u=>zAR w u q rest:=by
 simp only [zAR,child];split
 ·rename_i xs h;rw [h];simp only [Option.bind_some];split
  ·rename_i x h;rw [h];simp only [Option.bind_some];split
   ·rename_i q h;rw [h];simp only [Option.bind_some];split
    ·rename_i h;rw [h];rfl
    ·rename_i h;rw [h];rfl
   ·rename_i h;rw [h];rfl
  ·rename_i h;rw [h];rfl
 ·rename_i h;rw [h];rfl
def zBV (p:PV) (i c:Nat) (q':PV):Option PV:=(zA0 p).bind fun xs=>(xs[i]?).bind fun x=>zAJ p (xs.set i (zAK x c [q']))
theorem zBq (f:PV→Option PV) (p:PV) (i c:Nat) (rest:zAT):zAr f p ((i,c)::rest)=(child p i c).bind fun q=>(zAr f q rest).bind fun q'=>zBV p i c q':=by
 simp only [zAr,child,zBV];split
 ·rename_i xs h;rw [h];simp only [Option.bind_some];split
  ·rename_i x h;rw [h];simp only [Option.bind_some];split
   ·rename_i q h;rw [h];simp only [Option.bind_some];split
    ·rename_i h;rw [h];rfl
    ·rename_i h;rw [h];rfl
   ·rename_i h;rw [h];rfl
  ·rename_i h;rw [h];rfl
 ·rename_i h;rw [h];rfl
section
variable {w w':World} {Φ Φ':Nat→Prop} {A:Al}
theorem Rep.cell {p:PV} {v:Value} {L:List Nat} (h:Rep w Φ A p v L) {c:Nat} {q:PV} (hq:p.cells[c]? = some q) (hn:zCh v=p.isAgg) :
  ∃ u La Li Lb,v.cells.toList[c]? = some u∧L=La++Li++Lb∧Rep w Φ A q u Li ∧
   (∀ w' Φ' (A':Al) q' Li',(∀ a v,a.isWay=true→A a v→A' a v)→zDf w w' Φ Φ'→(∀ b∈La++Lb,w'.heap[b]? = w.heap[b]?)→q'.isAgg=q.isAgg→Rep w' Φ' A' q' u Li'→Rep w' Φ' A' (zAK p c [q']) v (La++Li'++Lb)∧(zAK p c [q']).cells.length=p.cells.length∧(zAK p c [q']).isAgg=p.isAgg) ∧
   ∀ c2 q2,c2≠c→p.cells[c2]? = some q2→∃ u2 L2,v.cells.toList[c2]? = some u2∧Rep w Φ A q2 u2 L2∧∀ b∈L2,b∈La++Lb:=by
 cases hp:p.isAgg with
 | true =>
  cases p<;>simp [PV.isAgg] at hp
  rename_i cs
  obtain ⟨vs,rfl,h⟩:=h
  obtain ⟨u,La,Li,Lb,hu,rfl,hr,hk,ho⟩:=h.split hq
  have hc:c<cs.length:=(List.getElem?_eq_some_iff.1 hq).1
  refine ⟨u,La,Li,Lb,hu,rfl,hr,fun w' Φ' A' q' Li' hA hs hb _ yq=>?_,fun c2 q2 hI h2=>ho c2 q2 hI h2⟩
  have he:cs.take c++[q']++cs.drop (c+1)=cs.set c q':=by
   rw [List.set_eq_take_append_cons_drop,if_pos hc];simp
  refine ⟨⟨vs,rfl,?_⟩,?_,rfl⟩
  ·show zA1 w' Φ' A' (cs.take c++[q']++cs.drop (c+1)) _ _
   rw [he];exact hk w' Φ' A' q' Li' hA hs hb yq
  ·show (cs.take c++[q']++cs.drop (c+1)).length=cs.length
   rw [he];simp
 | false =>
  have jU:p.cells=[p]:=by cases p<;>first | rfl | simp [PV.isAgg] at hp
  have hv:v.cells=#[v]:=by rw [hp] at hn;cases v<;>first | rfl | simp [zCh] at hn
  rw [jU] at hq
  have hc:c=0:=by
   have:=(List.getElem?_eq_some_iff.1 hq).1;simp at this;exact this
  subst hc;simp at hq;subst hq
  refine ⟨v,[],L,[],by simp [hv],by simp,h,fun w' Φ' A' q' Li' hA hs hb j9 yq=>?_,fun c2 q2 hI h2=>?_⟩
  rotate_left
  ·rw [jU] at h2
   have:=(List.getElem?_eq_some_iff.1 h2).1;simp at this;omega
  replace j9:q'.isAgg=false:=j9.trans hp
  have he:zAK p 0 [q']=q':=by cases p<;>first | rfl | simp [PV.isAgg] at hp
  rw [he]
  refine ⟨by simpa using yq,?_,j9⟩
  rw [jU];cases q'<;>first | rfl | simp [PV.isAgg] at j9
end
theorem zEg {α β:Type} {f:α→β}:∀ {xs:List α} {i:Nat} {x y:α},xs[i]? = some x→f y=f x→(xs.set i y).map f=xs.map f
 | [],_,_,_,h,_=>by simp at h
 | z::xs,0,x,y,h,e=>by simp at h;subst h;simp [e]
 | z::xs,i+1,x,y,h,e=>by
  have:=zEg (xs:=xs) (i:=i) (by simpa using h) e
  simpa using this
theorem zDQ {sz:Nat}:∀ {us:List Value},(∀ u∈us,u.cells.size=sz)→∀ {i c:Nat} {x u:Value},us[i]? = some x→x.cells.toList[c]? = some u→(flat us)[i*sz+c]? = some u
 | [],_,_,_,_,_,h,_=>by simp at h
 | y::us,hs,0,c,x,u,h,hc=>by
  simp at h;subst h
  have:c<y.cells.toList.length:=(List.getElem?_eq_some_iff.1 hc).1
  simp only [flat,List.flatMap_cons,Nat.zero_mul,Nat.zero_add]
  rw [List.getElem?_append_left this];exact hc
 | y::us,hs,i+1,c,x,u,h,hc=>by
  have ih:=zDQ (us:=us) (fun u hu=>hs u (by simp [hu])) (i:=i) (by simpa using h) hc
  have hy:y.cells.toList.length=sz:=by simpa using hs y (by simp)
  simp only [flat,List.flatMap_cons]
  rw [List.getElem?_append_right (by rw [hy,Nat.succ_mul];omega),hy]
  rw [show (i+1)*sz+c-sz=i*sz+c by rw [Nat.succ_mul];omega]
  exact ih
theorem zDo {c:Array Value} {o n k:Nat} {u:Value} (h:(seg c o n)[k]? = some u):c[o+k]? = some u:=by
 simp only [seg,List.getElem?_take,List.getElem?_drop] at h
 split at h
 ·simpa using h
 ·cases h
theorem zC6 {w:World} {b:Nat} {c:Array Value} (h:zIL w b c) (k:Nat):w.cell? ⟨b,k,none⟩=c[k]?:=by
 obtain ⟨e,fz,h⟩:=h
 simp [World.cell?,h]
theorem zEQ.any {w:World} {b:Nat} {c:Array Value} (h:zEQ w b c):zIL w b c:=by
 obtain ⟨e,h⟩:=h;exact ⟨e,_,h⟩
def zGp (A:Al):PV→Al
 | .own .. => zCj
 | _=>A
theorem zJY {A A':Al} {p:PV} (hA:∀ a v,a.isWay=true→A a v→A' a v):∀ a v,a.isWay=true→zGp A p a v→zGp A' p a v:=by
 intro a v hw h
 cases p<;>first | exact hA a v hw h | exact h.elim
section
variable {w w':World} {Φ Φ':Nat→Prop} {A:Al}
theorem Rep.child {p:PV} {v:Value} {L:List Nat} (h:Rep w Φ A p v L) {i c:Nat} {q:PV} (hq:child p i c=some q) :
  ∃ u La Li Lb,kid w v p i c=some u∧L=La++Li++Lb∧Rep w Φ (zGp A p) q u Li ∧
   (∀ w' Φ' (A':Al) q' Li' p',(∀ a v,a.isWay=true→A a v→A' a v)→zDf w w' Φ Φ'→(∀ b∈La++Lb,w'.heap[b]? = w.heap[b]?)→q'.isAgg=q.isAgg→Rep w' Φ' (zGp A' p) q' u Li'→zBV p i c q'=some p'→Rep w' Φ' A' p' v (La++Li'++Lb)) ∧
   (∀ w',(∀ b∈La++Lb,w'.heap[b]? = w.heap[b]?)→∀ q' p',zBV p i c q'=some p'→∀ i2 c2,kid w' v p' i2 c2=kid w v p i2 c2) ∧
   ∀ i2 c2 q2,(i2,c2)≠(i,c)→Eng.child p i2 c2=some q2→∃ u2 L2,kid w v p i2 c2=some u2∧Rep w Φ (zGp A p) q2 u2 L2∧∀ b∈L2,b∈La++Lb:=by
 cases p<;>simp only [Eng.child,zA0,Option.bind_none,Option.bind_some] at hq<;>try cases hq
 case agg cs =>
  obtain ⟨vs,rfl,h⟩:=h
  have hi:i=0:=by
   cases i with
   | zero=>rfl
   | succ i=>simp at hq
  subst hi;simp [PV.cells] at hq
  obtain ⟨u,La,Li,Lb,hu,rfl,hr,hk,ho⟩:=h.split (i:=c) (p:=q) (by simpa using hq)
  refine ⟨u,La,Li,Lb,by simpa [kid] using hu,rfl,hr,fun w' Φ' A' q' Li' p' hA hs hb _ yq hp=>?_,?_,?_⟩
  rotate_left
  ·intro w' hb q' p' hp i2 c2
   simp only [zBV,zA0,zAJ,zAK,Option.bind_some,List.getElem?_cons_zero,List.set_cons_zero] at hp
   cases hp;rfl
  ·intro i2 c2 q2 hI h2
   have vL:i2=0:=by
    cases i2 with
    | zero=>rfl
    | succ i=>simp [Eng.child,zA0] at h2
   subst vL
   simp [Eng.child,zA0,PV.cells] at h2
   obtain ⟨u2,L2,h3,h4,h5⟩:=ho c2 q2 (fun e=>hI (by rw [e])) h2
   exact ⟨u2,L2,by simpa [kid] using h3,h4,h5⟩
  have hc:c<cs.length:=(List.getElem?_eq_some_iff.1 hq).1
  have he:cs.take c++[q']++cs.drop (c+1)=cs.set c q':=by
   rw [List.set_eq_take_append_cons_drop,if_pos hc];simp
  simp only [zBV,zA0,zAJ,zAK,Option.bind_some,List.getElem?_cons_zero,List.set_cons_zero,List.length_singleton,he] at hp
  cases hp
  exact ⟨vs,rfl,hk w' Φ' A' q' Li' hA hs hb yq⟩
 case box q0 =>
  obtain ⟨a,r,u0,L',rfl,h1,h2,h4,h5,⟨h6,uS⟩,h7⟩:=h
  have hi:i=0:=by
   cases i with
   | zero=>rfl
   | succ i=>simp at hq
  subst hi;simp at hq
  obtain ⟨u,La,Li,Lb,hu,rfl,hr,hk,ho⟩:=h7.cell hq uS
  have jk:∀ c2 u2,u0.cells.toList[c2]? = some u2→kid w v (.box q0) 0 c2=some u2:=by
   intro c2 u2 h
   subst h1
   have:=zDo (c:=r) (o:=a.off) (n:=q0.cells.length) (k:=c2) (u:=u2) (by rw [h5];exact h)
   simp only [kid,zAy]
   rw [zC6 h4.any];exact this
  refine ⟨u,a.block::La,Li,Lb,?_,by simp,hr,fun w' Φ' A' q' Li' p' hA hs hb j9 yq hp=>?_,?_,?_⟩
  rotate_left 2
  ·intro w' hb q' p' hp i2 c2
   simp only [zBV,zA0,zAJ,Option.bind_some,List.getElem?_cons_zero,List.set_cons_zero] at hp
   cases hp;subst h1
   simp only [kid,World.cell?,zAy]
   rw [hb a.block (by simp)]
  ·intro i2 c2 q2 hI h2
   have vL:i2=0:=by
    cases i2 with
    | zero=>rfl
    | succ i=>simp [Eng.child,zA0] at h2
   subst vL
   simp [Eng.child,zA0] at h2
   obtain ⟨u2,L2,h3,qY,gu⟩:=ho c2 q2 (fun e=>hI (by rw [e])) h2
   exact ⟨u2,L2,jk c2 u2 h3,qY,fun b hb=>by have:=gu b hb;simp at this ⊢;rcases this with h | h<;>simp [h]⟩
  ·subst h1
   have:c<q0.cells.length:=(List.getElem?_eq_some_iff.1 hq).1
   have:=zDo (c:=r) (o:=a.off) (n:=q0.cells.length) (k:=c) (u:=u) (by rw [h5];exact hu)
   simp only [kid,zAy]
   rw [zC6 h4.any];exact this
  ·obtain ⟨hx,hl,hg⟩:=hk w' Φ' A' q' Li' hA hs (fun b h=>hb b (by simp at h ⊢;rcases h with h | h<;>simp [h])) j9 yq
   simp only [zBV,zA0,zAJ,Option.bind_some,List.getElem?_cons_zero,List.set_cons_zero] at hp
   cases hp
   obtain ⟨e,h4⟩:=h4
   refine ⟨a,r,u0,La++Li'++Lb,by simp,h1,h2,⟨e,?_⟩,by rw [hl];exact h5,⟨by rw [hl];exact h6,by rw [hg];exact uS⟩,hx⟩
   rw [hb a.block (by simp)];exact h4
 case own sz xs =>
  obtain ⟨h1,h2,h3⟩ | ⟨a,n,r,us,L',rfl,h1,h2,h3,h4,h5,h6,⟨h7,km⟩,h8,h9⟩:=h
  ·subst h1;simp at hq
  ·cases hx:xs[i]? with
   | none=>rw [hx] at hq;simp at hq
   | some x =>
    rw [hx] at hq;simp at hq
    obtain ⟨ux,La,Li,Lb,hu,rfl,hr,hk,ho⟩:=h9.split hx
    have hg:zCh ux=x.isAgg:=by
     have h1:(us.map zCh)[i]? = some (zCh ux):=by simp [hu]
     have h2:(xs.map PV.isAgg)[i]? = some x.isAgg:=by simp [hx]
     rw [km] at h1;rw [h1] at h2;simpa using h2
    obtain ⟨u,La',Li',Lb',hu',rfl,yq,vt,ho'⟩:=hr.cell hq hg
    have jk:∀ i2 c2 x2 u2,us[i2]? = some x2→x2.cells.toList[c2]? = some u2→kid w v (.own sz xs) i2 c2=some u2:=by
     intro i2 c2 x2 u2 jG wM
     subst h1
     have hf:=zDQ h7 jG wM
     rw [← h8] at hf
     have:=zDo hf
     simp only [kid,zAy]
     rw [zC6 h4.any];exact this
    refine ⟨u,a.block::(La++La'),Li',Lb'++Lb,?_,by simp,yq,fun w' Φ' A' q' Lj p' hA hs hb j9 hrq hp=>?_,?_,?_⟩
    rotate_left 2
    ·intro w' hb q' p' hp i2 c2
     simp only [zBV,zA0,zAJ,Option.bind_some,hx] at hp
     cases hp;subst h1
     simp only [kid,World.cell?,zAy]
     rw [hb a.block (by simp)]
    ·intro i2 c2 q2 hI h2
     simp only [Eng.child,zA0,Option.bind_some] at h2
     cases jG:xs[i2]? with
     | none=>rw [jG] at h2;cases h2
     | some x2 =>
      rw [jG] at h2;simp only [Option.bind_some] at h2
      by_cases kJ:i2=i
      ·subst kJ
       rw [hx] at jG;cases jG
       obtain ⟨u2,L2,h3,qY,gu⟩:=ho' c2 q2 (fun e=>hI (by rw [e])) h2
       exact ⟨u2,L2,jk _ _ _ _ hu h3,qY,fun b hb=>by have:=gu b hb;simp at this ⊢;rcases this with h | h<;>simp [h]⟩
      ·obtain ⟨ux2,L2,h3,qY,gu⟩:=ho i2 x2 kJ jG
       have wt:zCh ux2=x2.isAgg:=by
        have h1:(us.map zCh)[i2]? = some (zCh ux2):=by simp [h3]
        have h2:(xs.map PV.isAgg)[i2]? = some x2.isAgg:=by simp [jG]
        rw [km] at h1;rw [h1] at h2;simpa using h2
       obtain ⟨u2,Ma,Mi,Mb,uS,rfl,h7'',_⟩:=qY.cell h2 wt
       exact ⟨u2,Mi,jk _ _ _ _ h3 uS,h7'',fun b hb=>by have:=gu b (by simp [hb]);simp at this ⊢;rcases this with h | h<;>simp [h]⟩
    ·subst h1
     have hf:=zDQ h7 hu hu'
     rw [← h8] at hf
     have:=zDo hf
     simp only [kid,zAy]
     rw [zC6 h4.any];exact this
    ·obtain ⟨kx,hl,gQ⟩:=vt w' Φ' zCj q' Lj (fun _ _ _ h=>h) hs (fun b h=>hb b (by simp at h ⊢;rcases h with h | h<;>simp [h])) j9 hrq
     have hk:=hk w' Φ' zCj _ _ (fun _ _ _ h=>h) hs (fun b h=>hb b (by simp at h ⊢;rcases h with h | h<;>simp [h])) kx
     simp only [zBV,zA0,zAJ,Option.bind_some,hx] at hp
     cases hp
     obtain ⟨e,h4⟩:=h4
     refine .inr ⟨a,n,r,us,La++(La'++Lj++Lb')++Lb,by simp,by simpa using h1,h2,by simpa using h3,⟨e,?_⟩,h5,?_,⟨h7,?_⟩,by simpa using h8,hk⟩
     ·rw [hb a.block (by simp)];exact h4
     ·intro y hy
      rcases List.mem_or_eq_of_mem_set hy with hy | hy
      ·exact h6 y hy
      ·rw [hy,hl];exact h6 x (List.mem_of_getElem? hx)
     ·rw [km,zEg hx gQ]
end
def zH9:Al→PV→zAT→Al
 | A,_,[]=>A
 | A,p,(i,c)::rest=>match child p i c with
  | some q=>zH9 (zGp A p) q rest
  | none=>zCj
theorem zDN {p:PV} {i c:Nat} {q' p':PV} (h:zBV p i c q'=some p'):p'.isAgg=p.isAgg:=by
 simp only [zBV] at h
 cases p<;>simp only [zA0,Option.bind_none,Option.bind_some] at h<;>try cases h
 case own sz xs =>
  cases hx:xs[i]?<;>rw [hx] at h<;>simp [zAJ] at h
  subst h;rfl
 case box q =>
  cases i with
  | zero=>simp [zAJ] at h;subst h;rfl
  | succ i=>simp at h
 case agg cs =>
  cases i with
  | zero=>simp [zAJ,zAK] at h;subst h;rfl
  | succ i=>simp at h
def zCd:PV→PV→Prop
 | .own sz _,.own sz' _=>sz=sz'
 | .box _,.box _=>True
 | .omap _,.omap _=>True
 | _,_=>False
theorem zCd.refl {p:PV} (h:p.heavy0=true):zCd p p:=by
 cases p<;>simp_all [PV.heavy0,zCd]
theorem zMi {x q q':PV} {c:Nat} (hq:x.cells[c]? = some q) (hg:q'.isAgg=q.isAgg):(zAK x c [q']).cells=x.cells.set c q':=by
 cases hx:x.isAgg with
 | true =>
  cases x<;>simp [PV.isAgg] at hx
  rename_i cs
  have hc:c<cs.length:=(List.getElem?_eq_some_iff.1 hq).1
  show cs.take c++[q']++cs.drop (c+1)=cs.set c q'
  rw [List.set_eq_take_append_cons_drop,if_pos hc];simp
 | false =>
  have jU:x.cells=[x]:=by cases x<;>first | rfl | simp [PV.isAgg] at hx
  rw [jU] at hq ⊢
  have hc:c=0:=by have:=(List.getElem?_eq_some_iff.1 hq).1;simp at this;exact this
  subst hc;simp at hq;subst hq
  have he:zAK x 0 [q']=q':=by cases x<;>first | rfl | simp [PV.isAgg] at hx
  rw [he]
  rw [hx] at hg
  cases q'<;>first | rfl | simp [PV.isAgg] at hg
theorem zPU {p q q' p':PV} {i c:Nat} (hc:Eng.child p i c=some q) (hg:q'.isAgg=q.isAgg) (hp:zBV p i c q'=some p') :
  Eng.child p' i c=some q'∧∀ i2 c2,(i2,c2)≠(i,c)→Eng.child p' i2 c2=Eng.child p i2 c2:=by
 simp only [Eng.child] at hc
 simp only [zBV] at hp
 cases hh:zA0 p with
 | none=>rw [hh] at hc;cases hc
 | some xs =>
  rw [hh] at hc hp;simp only [Option.bind_some] at hc hp
  cases hx:xs[i]? with
  | none=>rw [hx] at hc;cases hc
  | some x =>
   rw [hx] at hc hp;simp only [Option.bind_some] at hc hp
   have yU:=zMi hc hg
   have hi:i<xs.length:=(List.getElem?_eq_some_iff.1 hx).1
   have yL:c<x.cells.length:=(List.getElem?_eq_some_iff.1 hc).1
   have qZ:zA0 p'=some (xs.set i (zAK x c [q'])):=by
    cases p<;>simp only [zA0] at hh<;>try cases hh
    case agg cs =>
     have jl:i=0:=by simpa using hi
     subst jl
     simp only [List.getElem?_cons_zero,Option.some.injEq] at hx;subst hx
     simp only [zAK,List.set_cons_zero,zAJ,Option.some.injEq] at hp ⊢
     subst hp;rfl
    case own sz =>
     simp only [zAJ,Option.some.injEq] at hp
     subst hp;rfl
    case box q0 =>
     have jl:i=0:=by simpa using hi
     subst jl
     simp only [List.set_cons_zero,zAJ,Option.some.injEq] at hp ⊢
     subst hp;rfl
   refine ⟨?_,fun i2 c2 hI=>?_⟩
   ·simp only [Eng.child,qZ,Option.bind_some,List.getElem?_set_self hi,yU,List.getElem?_set_self yL]
   ·simp only [Eng.child,qZ,hh,Option.bind_some]
    by_cases kJ:i2=i
    ·subst kJ
     rw [List.getElem?_set_self hi,hx];simp only [Option.bind_some,yU]
     rw [List.getElem?_set_ne (by intro e;exact hI (by rw [e]))]
    ·rw [List.getElem?_set_ne (by omega)]
section
variable {w w':World} {Φ Φ':Nat→Prop}
theorem zEM {A:Al}:∀ {pre:zAT} {p:PV} {v:Value} {L:List Nat},Rep w Φ A p v L→(∀ b∈L,w'.heap[b]? = w.heap[b]?)→zAR w' v p pre=zAR w v p pre
 | [],_,_,_,_,_=>rfl
 | (i, c)::rest,p,v,L,h,hb=>by
  rw [zA4,zA4]
  cases hc:Eng.child p i c with
  | none=>rfl
  | some q =>
   simp only [Option.bind_some]
   obtain ⟨u,La,Li,Lb,hk,rfl,hr,_⟩:=h.child hc
   have vt:kid w' v p i c=kid w v p i c:=by
    cases p<;>first | (simp [Eng.child,zA0] at hc;done) | skip
    ·obtain ⟨vs,rfl,_⟩:=h;rfl
    ·obtain ⟨h1,h2,h3⟩ | ⟨a,n,r,us,L',h0,h1,h2,_⟩:=h
     ·subst h1;simp [Eng.child,zA0] at hc
     ·subst h1;simp only [kid]
      exact World.cell?_of_block (w:=w) (hb _ (by rw [h0];simp [zAy]))
    ·obtain ⟨a,r,u0,L',h0,h1,_⟩:=h
     subst h1;simp only [kid]
     exact World.cell?_of_block (w:=w) (hb _ (by rw [h0];simp [zAy]))
   rw [vt,hk];simp only [Option.bind_some]
   exact zEM hr fun b h=>hb b (by simp [h])
theorem zKC {p p' q':PV} {i c:Nat} (hp:zBV p i c q'=some p') (hh:p'.heavy0=true):zCd p p':=by
 simp only [zBV] at hp
 cases p<;>simp only [zA0,Option.bind_none,Option.bind_some] at hp<;>try cases hp
 case own sz xs =>
  cases hx:xs[i]?<;>rw [hx] at hp<;>simp [zAJ] at hp
  subst hp;rfl
 case box q =>
  cases i with
  | zero=>simp [zAJ] at hp;subst hp;trivial
  | succ i=>simp at hp
 case agg cs =>
  cases i with
  | zero=>simp [zAJ,zAK] at hp;subst hp;cases hh
  | succ i=>simp at hp
theorem Rep.zip : ∀ (pre:zAT) {A:Al} {p:PV} {v:Value} {L:List Nat} {q:PV},Rep w Φ A p v L→zAz p pre=some q →
  ∃ nv La Li Lb,zAR w v p pre=some (nv,q)∧L=La++Li++Lb∧Rep w Φ (zH9 A p pre) q nv Li ∧
   (∀ w' Φ' (A':Al) q' Li' p',(∀ a v,a.isWay=true→A a v→A' a v)→zDf w w' Φ Φ'→(∀ b∈La++Lb,w'.heap[b]? = w.heap[b]?)→(pre≠[]→q'.isAgg=q.isAgg)→Rep w' Φ' (zH9 A' p pre) q' nv Li' →
    zAr (fun _=>some q') p pre=some p'→Rep w' Φ' A' p' v (La++Li'++Lb)) ∧
   ∀ w' q' p',(∀ b∈La++Lb,w'.heap[b]? = w.heap[b]?)→(pre≠[]→q'.isAgg=q.isAgg)→zAr (fun _=>some q') p pre=some p' →
    ∀ pth nv2 np2,zAR w' v p' pth=some (nv2,np2)→np2.heavy0=true →
     (∃ rest,pth=pre++rest∧zAR w' nv q' rest=some (nv2,np2))∨∃ np0,zAR w v p pth=some (nv2,np0)∧zCd np0 np2
 | [],A,p,v,L,q,h,hq=>by
  simp only [zAz] at hq;cases hq
  refine ⟨v,[],L,[],rfl,by simp,h,fun w' Φ' A' q' Li' p' hA hs hb _ hr hp=>?_,fun w' q' p' hb _ hp pth nv2 np2 hf hh=>?_⟩
  ·simp only [zAr] at hp;cases hp
   simpa [zH9] using hr
  ·simp only [zAr] at hp;cases hp
   exact .inl ⟨pth,rfl,hf⟩
 | (i, c) :: rest,A,p,v,L,q,h,hq=>by
  rw [zB5] at hq
  cases hc:Eng.child p i c with
  | none=>rw [hc] at hq;cases hq
  | some q1 =>
   rw [hc] at hq;simp only [Option.bind_some] at hq
   obtain ⟨u,La,Li,Lb,hu,rfl,hr,hk,jk,uq⟩:=h.child hc
   obtain ⟨nv,Ma,Mi,Mb,hf,rfl,wq,ky,kz⟩:=Rep.zip rest hr hq
   have yj:∀ q' q1',zAr (fun _=>some q') q1 rest=some q1'→q'.isAgg=q.isAgg→q1'.isAgg=q1.isAgg:=by
    intro q' q1' hm j9
    cases rest with
    | nil =>
     simp only [zAr] at hm;cases hm
     simp only [zAz] at hq;cases hq
     exact j9
    | cons x rest =>
     obtain ⟨i2,c2⟩:=x
     rw [zBq] at hm
     cases yy:Eng.child q1 i2 c2 with
     | none=>rw [yy] at hm;cases hm
     | some q2 =>
      rw [yy] at hm;simp only [Option.bind_some] at hm
      cases vQ:zAr (fun _=>some q') q2 rest with
      | none=>rw [vQ] at hm;cases hm
      | some q2'=>rw [vQ] at hm;exact zDN (by simpa using hm)
   refine ⟨nv,La++Ma,Mi,Mb++Lb,?_,by simp,?_,fun w' Φ' A' q' Li' p' hA hs hb j9 yq hp=>?_,fun w' q' p' hb j9 hp pth nv2 np2 jf hh=>?_⟩
   rotate_left 3
   ·rw [zBq,hc] at hp;simp only [Option.bind_some] at hp
    cases hm:zAr (fun _=>some q') q1 rest with
    | none=>rw [hm] at hp;cases hp
    | some q1' =>
     rw [hm] at hp;simp only [Option.bind_some] at hp
     have yT:∀ b∈La++Lb,w'.heap[b]? = w.heap[b]?:=fun b h=>hb b (by simp at h ⊢;rcases h with h | h<;>simp [h])
     have jN:∀ b∈Ma++Mb,w'.heap[b]? = w.heap[b]?:=fun b h=>hb b (by simp at h ⊢;rcases h with h | h<;>simp [h])
     have hg:q1'.isAgg=q1.isAgg:=yj q' q1' hm (j9 (by simp))
     obtain ⟨ya,hoc⟩:=zPU hc hg hp
     cases pth with
     | nil =>
      simp only [zAR,Option.some.injEq,Prod.mk.injEq] at jf
      obtain ⟨rfl,rfl⟩:=jf
      exact .inr ⟨p,rfl,zKC hp hh⟩
     | cons x pth =>
      obtain ⟨i2,c2⟩:=x
      rw [zA4] at jf
      by_cases yr:(i2,c2)=(i,c)
      ·cases yr
       rw [ya] at jf;simp only [Option.bind_some] at jf
       rw [jk w' yT q1' p' hp,hu] at jf;simp only [Option.bind_some] at jf
       rcases kz w' q' q1' jN (fun _=>j9 (by simp)) hm pth nv2 np2 jf hh with ⟨rst,rfl,h3⟩ | ⟨np0,h3,h4⟩
       ·exact .inl ⟨rst,rfl,h3⟩
       ·refine .inr ⟨np0,?_,h4⟩
        rw [zA4,hc];simp only [Option.bind_some];rw [hu];exact h3
      ·rw [hoc i2 c2 yr] at jf
       cases yy:Eng.child p i2 c2 with
       | none=>rw [yy] at jf;cases jf
       | some q2 =>
        rw [yy] at jf;simp only [Option.bind_some] at jf
        obtain ⟨u2,L2,h3,h4,h5⟩:=uq i2 c2 q2 yr yy
        rw [jk w' yT q1' p' hp,h3] at jf;simp only [Option.bind_some] at jf
        rw [zEM h4 fun b yE=>yT b (h5 b yE)] at jf
        refine .inr ⟨np2,?_,zCd.refl hh⟩
        rw [zA4,yy];simp only [Option.bind_some];rw [h3];exact jf
   ·rw [zA4,hc];simp only [Option.bind_some];rw [hu];simpa using hf
   ·simpa only [zH9,hc] using wq
   ·rw [zBq,hc] at hp;simp only [Option.bind_some] at hp
    cases hm:zAr (fun _=>some q') q1 rest with
    | none=>rw [hm] at hp;cases hp
    | some q1' =>
     rw [hm] at hp;simp only [Option.bind_some] at hp
     simp only [zH9,hc] at yq
     have h2:=ky w' Φ' (zGp A' p) q' Li' q1' (zJY hA) hs (fun b h=>hb b (by simp at h ⊢;rcases h with h | h<;>simp [h])) (fun _=>j9 (by simp)) yq hm
     have hg:q1'.isAgg=q1.isAgg:=yj q' q1' hm (j9 (by simp))
     have:=hk w' Φ' A' q1' _ p' hA hs (fun b h=>hb b (by simp at h ⊢;rcases h with h | h<;>simp [h])) hg h2 hp
     simpa using this
end
section
variable {w:World} {Φ:Nat→Prop} {rv:Nat→Value} {E:Nat→PV}
theorem zMr {r:Nat} {pre:zAT} {p:PV} {v:Value} {L:List Nat} (hr:r<zAd) (hf:zAR w (rv r) (E r).unlock pre=some (v,p))
  (h:Rep w Φ (zA6 w rv E) p v L):Rep w Φ (zA6 w rv E) (zGq r pre p) v []:=by
 cases p with
 | own sz xs =>
  refine ⟨rfl,hr,?_,?_⟩
  ·obtain ⟨h1,h2,h3⟩ | ⟨a,n,c,us,L',h0,h1,h2,h3,h4⟩:=h
   ·subst h1;exact ⟨none,0,h3,by simp,by simp,by simp⟩
   ·exact ⟨some a,n,h1,h3,by simp,fun b hb=>by cases hb;exact h2⟩
  ·intro nv np hn _
   rw [hf] at hn;cases hn
   refine ⟨sz,xs,rfl,rfl,?_⟩
   obtain ⟨h1,h2,h3⟩ | ⟨a,n,c,us,L',h0,h1,h2,h3,h4⟩:=h
   ·subst h1;subst h3;exact ⟨rfl,rfl⟩
   ·subst h1
    have:zAy a (0*sz)=a:=by cases a;simp_all [zAy]
    exact ⟨by rw [this];rfl,by simpa using h3⟩
 | box q =>
  obtain ⟨a,c,u,L',h0,h1,h2,h4⟩:=h
  refine ⟨rfl,hr,a,h1,h2,?_⟩
  intro nv np hn a' ha
  rw [hf] at hn;cases hn;subst h1
  have:zAy a 0=a:=by cases a;simp_all [zAy]
  simp only [zA7,this] at ha;cases ha;rfl
 | omap es =>
  obtain ⟨b,ents,h0,h1,h4⟩:=h
  refine ⟨rfl,hr,⟨b,h1⟩,?_⟩
  intro nv np hn es' he
  rw [hf] at hn;cases hn;rfl
 | agg cs=>rfl
 | tup cs=>rfl
 | lock q=>rfl
 | _=>simp_all [zGq,Rep]
end
end Go.Eng
namespace Go.Eng
open Go
theorem zDC {p q:PV} (h:zCd p q):p.heavy0=true:=by cases p<;>cases q<;>first | rfl | cases h
def zA8:PV→Nat×zAT
 | .addr r pre .. => (r,pre)
 | .bor r pre .. => (r,pre)
 | .bsl r pre .. => (r,pre)
 | .bmap r pre=>(r,pre)
 | _=>(0,[])
theorem zEj {nv:Value} {p q:PV} {i c:Nat} (h:zCd p q):zA7 nv p i c=zA7 nv q i c:=by
 cases p<;>cases q<;>simp only [zCd] at h
 ·subst h;cases nv with
  | slice a _ _=>cases a<;>rfl
  | pointer a=>cases a<;>rfl
  | _=>rfl
 ·cases nv with
  | pointer a=>cases a<;>cases i<;>rfl
  | slice a _ _=>cases a<;>rfl
  | _=>rfl
 ·cases nv with
  | pointer a=>cases a<;>cases i<;>rfl
  | slice a _ _=>cases a<;>rfl
  | _=>rfl
section
variable {w w':World} {Φ Φ':Nat→Prop} {rv rv':Nat→Value} {E E':Nat→PV}
theorem zA6.mono {a:PV} {v:Value} (h:zA6 w rv E a v)
  (hf:∀ nv np,zAR w' (rv' (zA8 a).1) (E' (zA8 a).1).unlock (zA8 a).2=some (nv,np)→np.heavy0=true →
   ∃ np0,zAR w (rv (zA8 a).1) (E (zA8 a).1).unlock (zA8 a).2=some (nv,np0)∧zCd np0 np):zA6 w' rv' E' a v:=by
 have key:∀ nv np i c a',zA7 nv np i c=some a'→np.heavy0=true:=by
  intro nv np i c a' h
  cases np<;>first | rfl | (simp [zA7] at h)
 have key2:∀ nv np np0 i c a',zA7 nv np i c=some a'→zCd np0 np→zA7 nv np0 i c=some a':=by
  intro nv np np0 i c a' h hl;rw [zEj hl];exact h
 cases a<;>simp only [zA6] at h ⊢
 case addr r pre i c sh =>
  obtain ⟨hr,a,h1,h2,h3⟩:=h
  refine ⟨hr,a,h1,h2,fun nv np hn a' ha=>?_⟩
  obtain ⟨np0,kA,hl⟩:=hf nv np hn (key _ _ _ _ _ ha)
  exact h3 nv np0 kA a' (key2 _ _ _ _ _ _ ha hl)
 case bor r pre z lo n =>
  obtain ⟨hr,h1,h3⟩:=h
  refine ⟨hr,h1,fun nv np hn hh=>?_⟩
  obtain ⟨np0,kA,hl⟩:=hf nv _ hn hh
  obtain ⟨sz,xs,he,hz,j8⟩:=h3 nv np0 kA (zDC hl)
  subst he
  cases np<;>simp only [zCd] at hl
  subst hl
  exact ⟨_,_,rfl,hz,j8⟩
 case bsl r pre i c sz ag n =>
  obtain ⟨hr,a,cap,h1,h2,jQ,h3⟩:=h
  refine ⟨hr,a,cap,h1,h2,jQ,fun nv np hn a' ha=>?_⟩
  obtain ⟨np0,kA,hl⟩:=hf nv np hn (key _ _ _ _ _ ha)
  exact h3 nv np0 kA a' (key2 _ _ _ _ _ _ ha hl)
 case bmap r pre =>
  obtain ⟨hr,h1,h3⟩:=h
  refine ⟨hr,h1,fun nv np hn es he=>?_⟩
  subst he
  obtain ⟨np0,kA,hl⟩:=hf nv _ hn rfl
  cases np0<;>simp only [zCd] at hl
  exact h3 nv _ kA _ rfl
theorem zEe:∀ {ps:List PV} {i:Nat} {p:PV},zCU ps=false→ps[i]? = some p→p.heavy=false
 | [],_,_,_,h=>by simp at h
 | q::ps,0,p,hh,h=>by
  simp at h;subst h
  simp only [zCU,Bool.or_eq_false_iff] at hh;exact hh.1
 | q::ps,i+1,p,hh,h=>by
  simp only [zCU,Bool.or_eq_false_iff] at hh
  exact zEe hh.2 (by simpa using h)
theorem zEc:∀ {pre:zAT} {p:PV} {v nv:Value} {np:PV},p.heavy=false→zAR w v p pre=some (nv,np)→np.heavy=false
 | [],p,v,nv,np,hp,h=>by simp only [zAR] at h;cases h;exact hp
 | (i, c)::rest,p,v,nv,np,hp,h=>by
  rw [zA4] at h
  cases hc:Eng.child p i c with
  | none=>rw [hc] at h;cases h
  | some q =>
   rw [hc] at h;simp only [Option.bind_some] at h
   cases hk:kid w v p i c with
   | none=>rw [hk] at h;cases h
   | some u =>
    rw [hk] at h;simp only [Option.bind_some] at h
    refine zEc ?_ h
    cases p<;>first | (simp [Eng.child,zA0] at hc;done) | (simp [PV.heavy] at hp;done) | skip
    rename_i cs
    cases i with
    | zero=>simp [Eng.child,zA0,PV.cells] at hc;exact zEe hp hc
    | succ i=>simp [Eng.child,zA0] at hc
theorem zFC {p:PV} (h:p.heavy0=true):p.heavy=true:=by
 cases p<;>simp_all [PV.heavy0,PV.heavy]
structure Conf (w0:World) (U Φ0:Nat→Prop) (w:World) (Φ:Nat→Prop) (rv:Nat→Value) (E:Nat→PV) (L:Nat→List Nat):Prop where
 rep:∀ s,Rep w Φ (zA6 w rv E) (E s) (rv s) (L s)
 nodup:∀ s,(L s).Nodup
 disj:∀ s s',s≠s'→∀ b∈L s,b∉L s'
 own:∀ s,∀ b∈L s,b<w.heap.size∧¬ Φ b∧(U b∨w0.heap.size≤b)
 frz:∀ b,Φ b→b<w.heap.size∧(Φ0 b∨U b∨w0.heap.size≤b)
 frz0:∀ b,Φ0 b→Φ b
 size:w0.heap.size≤w.heap.size
 kept:∀ b,b<w0.heap.size→¬ U b→w.heap[b]? = w0.heap[b]?
 os:w.os=w0.os
 tape:w.tape=w0.tape
 output:w.output=w0.output
def upd {α:Type} (f:Nat→α) (s:Nat) (x:α):Nat→α:=fun t=>if t=s then x else f t
theorem zAh {α:Type} {f:Nat→α} {s:Nat} {x:α}:upd f s x s=x:=if_pos rfl
theorem zAf {α:Type} {f:Nat→α} {s t:Nat} {x:α} (h:t≠s):upd f s x t=f t:=if_neg h
theorem zB4 {A:Al} {p:PV} {v:Value} {L:List Nat} (h:Rep w Φ A p v L):Rep w Φ A p.unlock v L:=by cases p<;>exact h
theorem zC9:∀ (a b:zAT) (v:Value) (p:PV),zAR w v p (a++b)=(zAR w v p a).bind fun x=>zAR w x.1 x.2 b
 | [],b,v,p=>rfl
 | (i,c)::a,b,v,p=>by
  rw [List.cons_append,zA4,zA4]
  cases Eng.child p i c with
  | none=>rfl
  | some q =>
   simp only [Option.bind_some]
   cases kid w v p i c with
   | none=>rfl
   | some u=>simp only [Option.bind_some];exact zC9 a b u q
theorem zJZ {v:Value} {p:PV} {i c:Nat}:zAR w v p [(i,c)]=(Eng.child p i c).bind fun q=>(kid w v p i c).bind fun u=>some (u,q):=by
 rw [zA4];rfl
theorem zA1.part {A:Al}:∀ {ps:List PV} {us:List Value} {L:List Nat},zA1 w Φ A ps us L→∀ c n,∃ L',zA1 w Φ A ((ps.drop c).take n) ((us.drop c).take n) L'
 | [],us,L,h,c,n=>by rw [h.1];exact ⟨[],by simp [zA1]⟩
 | p::ps,us,L,h,0,0=>⟨[],by simp [zA1]⟩
 | p::ps,us,L,h,0,n+1=>by
  obtain ⟨v,vs,L1,L2,rfl,rfl,h1,h2⟩:=h
  obtain ⟨L',h'⟩:=h2.part 0 n
  exact ⟨L1++L',v,_,L1,L',rfl,rfl,h1,by simpa using h'⟩
 | p::ps,us,L,h,c+1,n=>by
  obtain ⟨v,vs,L1,L2,rfl,rfl,h1,h2⟩:=h
  simpa using h2.part c n
theorem zGY {p:PV} {xs:List PV} (h:zBa p=some xs):zA0 p=some xs:=by cases p<;>first | exact h | cases h
theorem zBT {a:Addr} (h:a.spot=none) (j:Nat):a.add j=zAy a j:=by
 obtain ⟨b,o,sp⟩:=a
 simp only at h;subst h
 simp only [Addr.add,zAy]
 split
 ·rename_i hj;subst hj;rfl
 ·rfl
theorem zFR (a:Addr) (k j:Nat):(zAy a k).add j=zAy a (k+j):=by
 rw [zBT rfl];simp [zAy,Nat.add_assoc]
theorem zRW {nv:Value} {np:PV} {xs:List PV} {i c j:Nat} {ad:Addr} (h:zBa np=some xs) (ha:zA7 nv np i c=some ad):kid w nv np i (c+j)=w.cell? (ad.add j):=by
 cases np<;>simp only [zBa] at h<;>try cases h
 ·cases nv with
  | slice a _ _ =>
   cases a with
   | none=>cases ha
   | some a=>simp only [zA7] at ha;cases ha;rw [zFR];simp [kid,Nat.add_assoc]
  | pointer a=>cases a<;>cases ha
  | _=>cases ha
 ·cases nv with
  | pointer a =>
   cases a with
   | none=>cases i<;>cases ha
   | some a=>cases i<;>simp only [zA7] at ha<;>cases ha;rw [zFR];simp [kid,Nat.add_assoc]
  | slice a _ _=>cases a<;>cases ha
  | _=>cases ha
theorem zFL {A:Al} {p:PV} {a:PV} {v:Value} (h:zGp A p a v):A a v:=by
 cases p<;>first | exact h | exact h.elim
theorem zEr:∀ {pre:zAT} {A:Al} {p:PV} {a:PV} {v:Value},zH9 A p pre a v→A a v
 | [],_,_,_,_,h=>h
 | (i,c)::rest,A,p,a,v,h=>by
  simp only [zH9] at h
  cases hc:Eng.child p i c with
  | none=>rw [hc] at h;exact h.elim
  | some q=>rw [hc] at h;exact zFL (zEr h)
theorem Rep.cellsAll {A:Al} {p:PV} {v:Value} {L:List Nat} (h:Rep w Φ A p v L) (hn:zCh v=p.isAgg):zA1 w Φ A p.cells v.cells.toList L:=by
 cases hp:p.isAgg with
 | true =>
  cases p<;>simp [PV.isAgg] at hp
  obtain ⟨vs,rfl,h⟩:=h
  exact h
 | false =>
  have jU:p.cells=[p]:=by cases p<;>first | rfl | simp [PV.isAgg] at hp
  have hv:v.cells=#[v]:=by rw [hp] at hn;cases v<;>first | rfl | simp [zCh] at hn
  rw [jU,hv]
  exact ⟨v,[],L,[],rfl,by simp,h,rfl,rfl⟩
theorem zQj {A:Al} {np:PV} {nv:Value} {Li:List Nat} (h:Rep w Φ A np nv Li) {xs:List PV} (hx:zBa np=some xs) {i:Nat} {x:PV} (hi:xs[i]? = some x) (c:Nat) :
  ∃ ux ad Lx,(∀ b∈Lx,b∈Li)∧zA7 nv np i c=some ad∧ad.spot=none∧(∀ k u,ux.cells.toList[k]? = some u→∀ j,k=c+j→w.cell? (ad.add j)=some u)∧zCh ux=x.isAgg∧ux.cells.size=x.cells.length∧zA1 w Φ (zGp A np) x.cells ux.cells.toList Lx:=by
 cases np<;>simp only [zBa] at hx<;>try cases hx
 case own sz =>
  obtain ⟨h1,h2,h3⟩ | ⟨a,n,r,us,L',rfl,h1,h2,h3,h4,h5,h6,⟨h7,km⟩,h8,h9⟩:=h
  ·subst h1;simp at hi
  ·obtain ⟨ux,La,Lx,Lb,hu,rfl,hr,_,_⟩:=h9.split hi
   have hg:zCh ux=x.isAgg:=by
    have h1:(us.map zCh)[i]? = some (zCh ux):=by simp [hu]
    have h2:(xs.map PV.isAgg)[i]? = some x.isAgg:=by simp [hi]
    rw [km] at h1;rw [h1] at h2;simpa using h2
   subst h1
   refine ⟨ux,zAy a (i*sz+c),Lx,fun b hb=>by simp [hb],rfl,rfl,?_,hg,?_,hr.cellsAll hg⟩
   ·intro k u hk j hkj
    have hf:=zDQ h7 hu hk
    rw [← h8] at hf
    have:=zDo hf
    rw [zFR,show i*sz+c+j=i*sz+k by omega]
    simp only [zAy];rw [zC6 h4.any];exact this
   ·rw [h7 ux (List.mem_of_getElem? hu),h6 x (List.mem_of_getElem? hi)]
 case box q0 =>
  obtain ⟨a,r,u0,L',rfl,h1,h2,h4,h5,⟨h6,uS⟩,h7⟩:=h
  have jl:i=0:=by
   cases i with
   | zero=>rfl
   | succ i=>simp at hi
  subst jl;simp at hi;subst hi
  subst h1
  refine ⟨u0,zAy a c,L',fun b hb=>by simp [hb],rfl,rfl,?_,uS,h6,h7.cellsAll uS⟩
  intro k u hk j hkj
  have:=zDo (c:=r) (o:=a.off) (n:=q0.cells.length) (k:=k) (u:=u) (by rw [h5];exact hk)
  rw [zFR,← hkj]
  simp only [zAy];rw [zC6 h4.any];exact this
theorem zE0 {r i:Nat} {pre:zAT} (hr:r<zAd):∀ {ps:List PV} {us:List Value} {L:List Nat} {c:Nat},zA1 w Φ (zA6 w rv E) ps us L →
  (∀ j p u,ps[j]? = some p→us[j]? = some u→zAR w (rv r) (E r).unlock (pre++[(i,c+j)])=some (u,p))→zA1 w Φ (zA6 w rv E) (zBP r pre i c ps) us []
 | [],us,L,c,h,_=>⟨h.1,rfl⟩
 | p::ps,us,L,c,h,hf=>by
  obtain ⟨v,vs,L1,L2,rfl,rfl,h1,h2⟩:=h
  refine ⟨v,vs,[],[],rfl,rfl,zMr hr (hf 0 p v rfl rfl) h1,zE0 hr h2 fun j q u hq hu=>?_⟩
  have:=hf (j+1) q u (by simpa using hq) (by simpa using hu)
  rwa [show c+1+j=c+(j+1) by omega]
section
variable {w0:World} {U Φ0:Nat→Prop} {L:Nat→List Nat}
theorem Conf.view (h:Conf w0 U Φ0 w Φ rv E L) {s:Nat} (hs:s<zAd):Rep w Φ (zA6 w rv E) (view s (E s)) (rv s) []:=by
 have hr:=zB4 (h.rep s)
 have hv:Eng.view s (E s)=zRQ s (E s).unlock:=by cases E s<;>rfl
 rw [hv]
 have hf:zAR w (rv s) (E s).unlock []=some (rv s,(E s).unlock):=rfl
 have key:∀ p,(E s).unlock=p→Rep w Φ (zA6 w rv E) (zRQ s p) (rv s) []:=by
  intro p hp
  rw [hp] at hr hf
  cases p with
  | agg cs =>
   obtain ⟨vs,hv,hr⟩:=hr
   refine ⟨vs,hv,zE0 hs hr fun j p u hj hu=>?_⟩
   rw [zC9,hp,hf,hv]
   show (zAR w (.agg vs) (.agg cs) [(0,0+j)])=_
   rw [zJZ]
   have hu:vs[j]? = some u:=by simpa using hu
   simp [Eng.child,zA0,PV.cells,kid,hj,hu]
  | tup cs=>rfl
  | _=>exact zMr (pre:=[]) hs (by rw [hp];exact hf) hr
 exact key _ rfl
theorem Conf.cells (h:Conf w0 U Φ0 w Φ rv E L) {r:Nat} {pre:zAT} {i c n:Nat} {a:Bool} {qs:List PV} (hr:r<zAd) (hc:zAj r (E r) pre i c n=some (a,qs)) :
  ∃ nv np ad us,zAR w (rv r) (E r).unlock pre=some (nv,np)∧zA7 nv np i c=some ad∧ad.spot=none∧us.length=n∧(∀ j u,us[j]? = some u→w.cell? (ad.add j)=some u)∧zA1 w Φ (zA6 w rv E) qs us []:=by
 simp only [zAj] at hc
 cases hn:zAz (E r).unlock pre with
 | none=>rw [hn] at hc;cases hc
 | some np =>
  rw [hn] at hc;simp only at hc
  obtain ⟨nv,La,Li,Lb,hf,hL,hH,_,_⟩:=Rep.zip pre (zB4 (h.rep r)) hn
  cases hx:zBa np with
  | none=>rw [hx] at hc;cases hc
  | some xs =>
   rw [hx] at hc;simp only at hc
   cases hxi:xs[i]? with
   | none=>rw [hxi] at hc;cases hc
   | some x =>
    rw [hxi] at hc;simp only at hc
    by_cases yI:c+n≤x.cells.length
    ·rw [Nat.ble_eq_true_of_le yI] at hc
     simp only [cond_true,Option.some.injEq,Prod.mk.injEq] at hc
     obtain ⟨rfl,rfl⟩:=hc
     obtain ⟨ux,ad,Lx,hA,yz,yY,kT,wN,yC,uT⟩:=zQj hH hx hxi c
     have hO:ux.cells.toList.length=x.cells.length:=(uT.length)
     refine ⟨nv,np,ad,(ux.cells.toList.drop c).take n,hf,yz,yY,by simp at hO ⊢;omega,?_,?_⟩
     ·intro j u hj
      simp only [List.getElem?_take,List.getElem?_drop] at hj
      split at hj
      ·exact kT (c+j) u hj j rfl
      ·cases hj
     ·obtain ⟨L',yV⟩:=uT.part c n
      refine zE0 hr (yV.mono (A':=zA6 w rv E) zDf.refl (fun a v hw ha=>zEr (zFL ha)) (fun _ _=>rfl)) fun j p u hp hu=>?_
      simp only [List.getElem?_take,List.getElem?_drop] at hp hu
      split at hp
      ·rename_i hjn
       rw [if_pos hjn] at hu
       rw [zC9,hf];simp only [Option.bind_some];rw [zJZ]
       have ya:Eng.child np i (c+j)=some p:=by
        simp only [Eng.child]
        rw [zGY hx];simp [hxi,hp]
       rw [ya];simp only [Option.bind_some]
       rw [zRW hx yz (j:=j),kT (c+j) u hu j rfl];rfl
      ·cases hp
    ·have:Nat.ble (c+n) x.cells.length=false:=by
      cases hb:Nat.ble (c+n) x.cells.length with
      | false=>rfl
      | true=>exact absurd (Nat.le_of_ble_eq_true hb) yI
     rw [this] at hc;simp at hc
theorem Conf.put (h:Conf w0 U Φ0 w Φ rv E L) {s:Nat} {p:PV} {v:Value} (hp:p.heavy=false) (hr:Rep w Φ (zA6 w rv E) p v []) :
  Conf w0 U Φ0 w Φ (upd rv s v) (upd E s p) (upd L s []):=by
 have hA:∀ a u,a.isWay=true→zA6 w rv E a u→zA6 w (upd rv s v) (upd E s p) a u:=by
  intro a u _ ha
  refine ha.mono fun nv np hn hh=>?_
  by_cases hs:(zA8 a).1=s
  ·rw [hs,zAh,zAh] at hn
   have hu:p.unlock=p:=by cases p<;>first | rfl | simp [PV.heavy] at hp
   rw [hu] at hn
   have:=zEc hp hn
   rw [zFC hh] at this;cases this
  ·rw [zAf hs,zAf hs] at hn
   exact ⟨np,hn,zCd.refl hh⟩
 refine {h with rep:=?_,nodup:=?_,disj:=?_,own:=?_}
 ·intro t
  by_cases ht:t=s
  ·subst ht;rw [zAh,zAh,zAh];exact hr.mono zDf.refl hA (by simp)
  ·rw [zAf ht,zAf ht,zAf ht];exact (h.rep t).mono zDf.refl hA (fun _ _=>rfl)
 ·intro t
  by_cases ht:t=s
  ·subst ht;rw [zAh];simp
  ·rw [zAf ht];exact h.nodup t
 ·intro t t' hI b hb
  by_cases ht:t=s
  ·subst ht;rw [zAh] at hb;simp at hb
  ·rw [zAf ht] at hb
   by_cases gR:t'=s
   ·subst gR;rw [zAh];simp
   ·rw [zAf gR];exact h.disj t t' hI b hb
 ·intro t b hb
  by_cases ht:t=s
  ·subst ht;rw [zAh] at hb;simp at hb
  ·rw [zAf ht] at hb;exact h.own t b hb
end
end
def PV.dull:PV→Bool
 | .own .. | .box .. | .omap .. | .agg _ | .lock _=>false
 | _=>true
structure Tame (f:PV→PV):Prop where
 agg:∀ p,(f p).isAgg=p.isAgg
 dull:∀ p,p.isWay=true→(f p).dull=true
theorem zMR {p:PV} (h:p.dull=true):zA0 p=none:=by cases p<;>first | rfl | cases h
theorem zM6 {p:PV} (h:p.dull=true):p.heavy0=false:=by cases p<;>first | rfl | cases h
theorem zM3 {p:PV} (h:p.dull=true):p.unlock=p:=by cases p<;>first | rfl | cases h
theorem zGZ {f:PV→PV}:∀ (ps:List PV) (i:Nat),(zCF f ps)[i]? = (ps[i]?).map fun p=>p.mapW f
 | [],i=>by simp [zCF]
 | p::ps,0=>by simp [zCF]
 | p::ps,i+1=>by simp only [zCF,List.getElem?_cons_succ];exact zGZ ps i
theorem zOz {f:PV→PV} (hf:Tame f) (q:PV) (c:Nat):(q.mapW f).cells[c]? = (q.cells[c]?).map fun p=>p.mapW f:=by
 cases hq:q.isAgg with
 | true =>
  cases q<;>simp [PV.isAgg] at hq
  simp only [PV.mapW,PV.cells];exact zGZ _ _
 | false =>
  have h1:q.cells=[q]:=by cases q<;>first | rfl | simp [PV.isAgg] at hq
  have h2:(q.mapW f).isAgg=false:=by rw [zFN hf.agg];exact hq
  have h3:(q.mapW f).cells=[q.mapW f]:=by revert h2;cases q.mapW f<;>intro h2<;>first | rfl | simp [PV.isAgg] at h2
  rw [h1,h3];cases c<;>simp
theorem zFQ {f:PV→PV} {p:PV} (h:p.isWay=true):p.mapW f=f p:=by cases p<;>first | rfl | cases h
theorem zDn {f:PV→PV} (hf:Tame f) (p:PV):(p.mapW f).unlock=p.unlock.mapW f:=by
 cases hp:p.isWay with
 | true =>
  have h1:p.unlock=p:=by cases p<;>first | rfl | cases hp
  rw [h1,zFQ hp,zM3 (hf.dull p hp)]
 | false=>cases p<;>first | rfl | cases hp
section
variable {w w':World} {Φ Φ':Nat→Prop} {rv rv':Nat→Value} {E E':Nat→PV}
theorem zTY {v:Value} {p q:PV} {i c:Nat}:kid w v (.box p) i c=kid w v (.box q) i c:=by
 cases v with
 | pointer a=>cases a<;>rfl
 | slice a _ _=>cases a<;>rfl
 | _=>rfl
theorem zTA {v:Value} {p q:List PV} {i c:Nat}:kid w v (.agg p) i c=kid w v (.agg q) i c:=by
 cases v with
 | pointer a=>cases a<;>rfl
 | slice a _ _=>cases a<;>rfl
 | _=>rfl
theorem zCN {f:PV→PV} (hf:Tame f):∀ {pre:zAT} {p:PV} {v nv:Value} {np':PV},zAR w v (p.mapW f) pre=some (nv,np')→np'.heavy0=true →
  ∃ np,zAR w v p pre=some (nv,np)∧zCd np np'
 | [],p,v,nv,np',h,hh=>by
  simp only [zAR,Option.some.injEq,Prod.mk.injEq] at h
  obtain ⟨rfl,rfl⟩:=h
  refine ⟨p,rfl,?_⟩
  cases hp:p.isWay with
  | true=>rw [zFQ hp,zM6 (hf.dull p hp)] at hh;cases hh
  | false=>cases p<;>first | (cases hp;done) | (simp [PV.mapW,PV.heavy0] at hh;done) | simp [PV.mapW,zCd]
 | (i, c) :: rest,p,v,nv,np',h,hh=>by
  rw [zA4] at h
  cases hc:Eng.child (p.mapW f) i c with
  | none=>rw [hc] at h;cases h
  | some q' =>
   rw [hc] at h;simp only [Option.bind_some] at h
   cases hk:kid w v (p.mapW f) i c with
   | none=>rw [hk] at h;cases h
   | some u =>
    rw [hk] at h;simp only [Option.bind_some] at h
    have go:∀ q,Eng.child p i c=some q→kid w v p i c=some u→q'=q.mapW f→∃ np,zAR w v p ((i,c)::rest)=some (nv,np)∧zCd np np':=by
     intro q h1 h2 h3
     subst h3
     obtain ⟨np,hn,hl⟩:=zCN hf h hh
     exact ⟨np,by rw [zA4,h1];simp only [Option.bind_some];rw [h2];exact hn,hl⟩
    cases hp:p.isWay with
    | true =>
     rw [zFQ hp] at hc
     simp [Eng.child,zMR (hf.dull p hp)] at hc
    | false =>
     cases p<;>first | (cases hp;done) | (simp [PV.mapW,Eng.child,zA0] at hc;done) | skip
     case own sz xs=>exact ⟨np',by rw [zA4];simp only [PV.mapW] at hc hk;rw [hc];simp only [Option.bind_some];rw [hk];exact h,zCd.refl hh⟩
     case box q0 =>
      simp only [PV.mapW,Eng.child,zA0,Option.bind_some] at hc
      cases i with
      | succ i=>simp at hc
      | zero =>
       simp only [List.getElem?_cons_zero,Option.bind_some] at hc
       rw [zOz hf] at hc
       cases hq:q0.cells[c]? with
       | none=>rw [hq] at hc;cases hc
       | some q =>
        rw [hq] at hc;simp only [Option.map_some,Option.some.injEq] at hc
        exact go q (by simp [Eng.child,zA0,hq]) (by rw [← hk,PV.mapW];exact zTY) hc.symm
     case agg cs =>
      simp only [PV.mapW,Eng.child,zA0,Option.bind_some] at hc
      cases i with
      | succ i=>simp at hc
      | zero =>
       simp only [List.getElem?_cons_zero,Option.bind_some,PV.cells] at hc
       rw [zGZ] at hc
       cases hq:cs[c]? with
       | none=>rw [hq] at hc;cases hc
       | some q =>
        rw [hq] at hc;simp only [Option.map_some,Option.some.injEq] at hc
        exact go q (by simp [Eng.child,zA0,PV.cells,hq]) (by rw [← hk,PV.mapW];exact zTA) hc.symm
section
variable {w0:World} {U Φ0:Nat→Prop} {L L':Nat→List Nat}
theorem zCP {a:PV} {v:Value} (h:zA6 w rv E a v):(zA8 a).1<zAd:=by
 cases a<;>simp only [zA6] at h<;>first | exact h.1 | exact h.elim
theorem zCD (h:Conf w0 U Φ0 w Φ rv E L) {f:PV→PV} (hf:Tame f) {a:PV} {v:Value} (ha:zA6 w rv E a v) (hE:E' (zA8 a).1=(E (zA8 a).1).mapW f) (hv:rv' (zA8 a).1=rv (zA8 a).1)
  (hb:∀ b∈L (zA8 a).1,w'.heap[b]? = w.heap[b]?):zA6 w' rv' E' a v:=by
 refine ha.mono fun nv np hn hh=>?_
 rw [hE,hv,zDn hf] at hn
 obtain ⟨np0,kA,hl⟩:=zCN hf hn hh
 rw [zEM (zB4 (h.rep _)) hb] at kA
 exact ⟨np0,kA,hl⟩
theorem zLb {a:PV} {v:Value} (ha:zA6 w rv E a v) (hE:(E' (zA8 a).1).unlock.heavy=false):zA6 w' rv' E' a v:=by
 refine ha.mono fun nv np hn hh=>?_
 have:=zEc hE hn
 rw [zFC hh] at this;cases this
theorem Conf.step2 (h:Conf w0 U Φ0 w Φ rv E L) (σ:Nat→Option Nat) (f:PV→PV) (hf:Tame f)
  (hσ:∀ s s' t,σ s=some t→σ s'=some t→s=s')
  (hE:∀ s t,σ s=some t→E' s=(E t).mapW f∧rv' s=rv t∧L' s=L t)
  (hN:∀ s,σ s=none→Rep w' Φ (zA6 w' rv' E') (E' s) (rv' s) (L' s))
  (hA:∀ a v,a.isWay=true→zA6 w rv E a v→Rep w' Φ (zA6 w' rv' E') (f a) v [])
  (hd:∀ s,σ s=none→(L' s).Nodup) (vu:∀ s s',σ s=none→σ s'=none→s≠s'→∀ b∈L' s,b∉L' s')
  (ho:∀ s,σ s=none→∀ b∈L' s,(∃ t,b∈L t∧∀ s,σ s≠some t)∨(w.heap.size≤b∧b<w'.heap.size))
  (hw:w.heap.size≤w'.heap.size) (hk:∀ b,b<w.heap.size→(∀ t,b∈L t→∃ s,σ s=some t)→w'.heap[b]? = w.heap[b]?)
  (kn:w'.os=w.os∧w'.tape=w.tape∧w'.output=w.output):Conf w0 U Φ0 w' Φ rv' E' L':=by
 have gS:∀ s t,σ s=some t→∀ b∈L t,w'.heap[b]? = w.heap[b]?:=by
  intro s t hs b hb
  refine hk b (h.own t b hb).1 fun t' yE=>?_
  have:t'=t:=Classical.byContradiction fun hI=>h.disj t' t hI b yE hb
  exact ⟨s,this▸hs⟩
 have hΦ:zDf w w' Φ Φ:=fun b hb=>⟨hb,hk b (h.frz b hb).1 fun t kK=>absurd hb (h.own t b kK).2.1⟩
 have vR:∀ g,σ g=none→∀ b∈L' g,∀ t,b∈L t→∀ s,σ s≠some t:=by
  intro g hg b hb t kK s hs
  rcases ho g hg b hb with ⟨t',h1,h2⟩ | ⟨h1,h2⟩
  ·have:t'=t:=Classical.byContradiction fun hI=>h.disj t' t hI b h1 kK
   exact h2 s (this▸hs)
  ·have:=(h.own t b kK).1;omega
 refine ⟨?_,?_,?_,?_,?_,h.frz0,Nat.le_trans h.size hw,?_,kn.1.trans h.os,kn.2.1.trans h.tape,kn.2.2.trans h.output⟩
 ·intro s
  cases hs:σ s with
  | some t =>
   obtain ⟨h1,h2,h3⟩:=hE s t hs
   rw [h1,h2,h3]
   exact Rep.map hf.agg hΦ hA _ _ _ (gS s t hs) (h.rep t)
  | none=>exact hN s hs
 ·intro s
  cases hs:σ s with
  | some t=>rw [(hE s t hs).2.2];exact h.nodup t
  | none=>exact hd s hs
 ·intro s s' hI b hb yE
  cases hs:σ s with
  | some t =>
   rw [(hE s t hs).2.2] at hb
   cases jB:σ s' with
   | some t' =>
    rw [(hE s' t' jB).2.2] at yE
    have:t≠t':=fun e=>hI (hσ s s' t hs (e▸jB))
    exact h.disj t t' this b hb yE
   | none=>exact vR s' jB b yE t hb s hs
  | none =>
   cases jB:σ s' with
   | some t'=>rw [(hE s' t' jB).2.2] at yE;exact vR s hs b hb t' yE s' jB
   | none=>exact vu s s' hs jB hI b hb yE
 ·intro s b hb
  cases hs:σ s with
  | some t =>
   rw [(hE s t hs).2.2] at hb
   have:=h.own t b hb
   exact ⟨Nat.lt_of_lt_of_le this.1 hw,this.2⟩
  | none =>
   rcases ho s hs b hb with ⟨t,h1,_⟩ | ⟨h1,h2⟩
   ·have:=h.own t b h1
    exact ⟨Nat.lt_of_lt_of_le this.1 hw,this.2⟩
   ·exact ⟨h2,fun hp=>absurd (h.frz b hp).1 (by omega),.inr (Nat.le_trans h.size h1)⟩
 ·intro b hb
  have:=h.frz b hb
  exact ⟨Nat.lt_of_lt_of_le this.1 hw,this.2⟩
 ·intro b hb hu
  rw [hk b (Nat.lt_of_lt_of_le hb h.size) fun t kK=>?_]
  ·exact h.kept b hb hu
  ·rcases (h.own t b kK).2.2 with h1 | h1
   ·exact absurd h1 hu
   ·omega
theorem Conf.step (h:Conf w0 U Φ0 w Φ rv E L) (σ:Nat→Option Nat) (f:PV→PV) (g:Nat) (hf:Tame f)
  (hσ:∀ s s' t,σ s=some t→σ s'=some t→s=s')
  (hE:∀ s t,σ s=some t→E' s=(E t).mapW f∧rv' s=rv t∧L' s=L t)
  (hN:∀ s,σ s=none→Rep w' Φ (zA6 w' rv' E') (E' s) (rv' s) (L' s)∧(s≠g→L' s=[]))
  (hA:∀ a v,a.isWay=true→zA6 w rv E a v→Rep w' Φ (zA6 w' rv' E') (f a) v [])
  (hd:σ g=none→(L' g).Nodup) (ho:σ g=none→∀ b∈L' g,(∃ t,b∈L t∧∀ s,σ s≠some t)∨(w.heap.size≤b∧b<w'.heap.size))
  (hw:w.heap.size≤w'.heap.size) (hk:∀ b,b<w.heap.size→(∀ t,b∈L t→∃ s,σ s=some t)→w'.heap[b]? = w.heap[b]?)
  (kn:w'.os=w.os∧w'.tape=w.tape∧w'.output=w.output):Conf w0 U Φ0 w' Φ rv' E' L':=by
 refine h.step2 σ f hf hσ hE (fun s hs=>(hN s hs).1) hA (fun s hs=>?_) (fun s s' hs jB hI b hb yE=>?_) (fun s hs b hb=>?_) hw hk kn
 ·by_cases y5:s=g
  ·subst y5;exact hd hs
  ·rw [(hN s hs).2 y5];exact List.nodup_nil
 ·by_cases y5:s=g
  ·rw [(hN s' jB).2 (by rw [← y5];exact Ne.symm hI)] at yE;cases yE
  ·rw [(hN s hs).2 y5] at hb;cases hb
 ·by_cases y5:s=g
  ·subst y5;exact ho hs b hb
  ·rw [(hN s hs).2 y5] at hb;cases hb
theorem Conf.turn (h:Conf w0 U Φ0 w Φ rv E L) (σ:Nat→Option Nat) (f:PV→PV) (hf:Tame f)
  (hσ:∀ s s' t,σ s=some t→σ s'=some t→s=s')
  (hE:∀ s t,σ s=some t→E' s=(E t).mapW f∧rv' s=rv t∧L' s=L t)
  (hN:∀ s,σ s=none→E' s = .bad∧L' s=[])
  (hA:∀ a v,a.isWay=true→zA6 w rv E a v→Rep w Φ (zA6 w rv' E') (f a) v []):Conf w0 U Φ0 w Φ rv' E' L':=by
 refine h.step σ f 0 hf hσ hE (fun s hs=>?_) hA (fun hs=>?_) (fun hs=>?_) (Nat.le_refl _) (fun _ _ _=>rfl) ⟨rfl,rfl,rfl⟩
 ·obtain ⟨h1,h2⟩:=hN s hs
  rw [h1,h2];exact ⟨rfl,fun _=>rfl⟩
 ·rw [(hN _ hs).2];exact List.nodup_nil
 ·rw [(hN _ hs).2];simp
theorem zCc:Tame (fun x=>x):=⟨fun _=>rfl,fun p h=>by cases p<;>first | rfl | cases h⟩
theorem zDj {f:PV→PV} (h:∀ p,f p=p∨(p.isWay=true∧f p = .bad)):Tame f:=by
 refine ⟨fun p=>?_,fun p hp=>?_⟩
 ·rcases h p with h | ⟨h1,h2⟩
  ·rw [h]
  ·rw [h2];cases p<;>first | rfl | cases h1
 ·rcases h p with h | ⟨h1,h2⟩
  ·rw [h];cases p<;>first | rfl | cases hp
  ·rw [h2];rfl
theorem zGx (r:Nat) (pre:zAT) (p:PV):lose r pre p=p∨(p.isWay=true∧lose r pre p = .bad):=by
 cases p<;>first | exact .inl rfl | skip
 all_goals
  simp only [Eng.lose,PV.isWay,true_and]
  cases (Nat.beq _ r&&_)<;>simp
theorem zPb {r:Nat} {p:PV} {v:Value} (h:p.isWay=true) (hl:lose r [] p=p) (ha:zA6 w rv E p v):(zA8 p).1≠r:=by
 intro hr
 cases p<;>first | cases h | skip
 case log=>exact False.elim ha
 all_goals
  simp only [zA8] at hr;subst hr
  simp [Eng.lose] at hl
theorem Conf.take (h:Conf w0 U Φ0 w Φ rv E L) {s g:Nat} (hs:s<zAd) (hg:zAd≤g):Conf w0 U Φ0 w Φ (upd rv g (rv s)) (upd (upd E s .bad) g (E s)) (upd (upd L s []) g (L s)):=by
 have y5:s≠g:=by omega
 refine h.turn (fun t=>if t=g then some s else if t=s then none else some t) (fun x=>x) zCc ?_ ?_ ?_ ?_
 ·intro a b t ha hb
  split at ha<;>split at hb<;>simp_all<;>split at ha<;>simp_all
  all_goals (try split at hb)<;>simp_all
 ·intro a t ha
  split at ha
  ·rename_i e;cases ha;subst e;simp [zAh,zBg]
  ·rename_i e
   split at ha
   ·cases ha
   ·rename_i e2;cases ha;simp [zAf e,zAf e2,zBg]
 ·intro a ha
  split at ha
  ·cases ha
  ·rename_i e
   split at ha
   ·rename_i e2;subst e2;simp [zAf e,zAh]
   ·cases ha
 ·intro a v hw ha
  have hr:(zA8 a).1<zAd:=zCP ha
  refine zCR hw ?_
  by_cases jg:(zA8 a).1=s
  ·refine zLb ha ?_
   rw [zAf (by omega),jg,zAh];rfl
  ·refine zCD h zCc ha ?_ ?_ (fun _ _=>rfl)
   ·rw [zAf (by omega),zAf jg,zBg]
   ·rw [zAf (by omega)]
theorem Conf.lay (h:Conf w0 U Φ0 w Φ rv E L) {d g:Nat} (hd:d<zAd) (hg:zAd≤g):Conf w0 U Φ0 w Φ (upd rv d (rv g)) (upd (upd (fun s=>(E s).mapW (lose d [])) d ((E g).mapW (lose d []))) g .bad) (upd (upd L d (L g)) g []):=by
 have uU:d≠g:=by omega
 refine h.turn (fun t=>if t=g then none else if t=d then some g else some t) (lose d []) (zDj (zGx d [])) ?_ ?_ ?_ ?_
 ·intro a b t ha hb
  split at ha<;>split at hb<;>simp_all<;>split at ha<;>simp_all
  all_goals (try split at hb)<;>simp_all
 ·intro a t ha
  split at ha
  ·cases ha
  ·rename_i e
   split at ha
   ·rename_i e2;cases ha;subst e2;simp [zAf e,zAh]
   ·rename_i e2;cases ha;simp [zAf e,zAf e2]
 ·intro a ha
  split at ha
  ·rename_i e;subst e;simp [zAh]
  ·split at ha<;>cases ha
 ·intro a v hw ha
  have hr:(zA8 a).1<zAd:=zCP ha
  rcases zGx d [] a with hl | ⟨_,hl⟩
  ·rw [hl]
   have hI:=zPb hw hl ha
   refine zCR hw (zCD h (zDj (zGx d [])) ha ?_ ?_ (fun _ _=>rfl))
   ·rw [zAf (by omega),zAf hI]
   ·rw [zAf hI]
  ·rw [hl];rfl
theorem Conf.lose (h:Conf w0 U Φ0 w Φ rv E L) {f:PV→PV} (hf:∀ p,f p=p∨(p.isWay=true∧f p = .bad)):Conf w0 U Φ0 w Φ rv (fun s=>(E s).mapW f) L:=by
 refine h.turn some f (zDj hf) (fun a b t ha hb=>by cases ha;cases hb;rfl) (fun a t ha=>by cases ha;exact ⟨rfl,rfl,rfl⟩) (fun a ha=>by cases ha) fun a v hw ha=>?_
 rcases hf a with hl | ⟨_,hl⟩
 ·rw [hl];exact zCR hw (zCD h (zDj hf) ha rfl rfl (fun _ _=>rfl))
 ·rw [hl];rfl
theorem Conf.drop (h:Conf w0 U Φ0 w Φ rv E L) (D:Nat→Bool):Conf w0 U Φ0 w Φ rv (fun s=>if D s then .bad else E s) (fun s=>if D s then [] else L s):=by
 refine h.turn (fun s=>if D s then none else some s) (fun x=>x) zCc ?_ ?_ ?_ ?_
 ·intro a b t ha hb;split at ha<;>split at hb<;>simp_all
 ·intro a t ha;split at ha
  ·cases ha
  ·rename_i e;cases ha;simp [e,zBg]
 ·intro a ha;split at ha
  ·rename_i e;simp [e]
  ·cases ha
 ·intro a v hw ha
  refine zCR hw ?_
  by_cases hd:D (zA8 a).1=true
  ·exact zLb ha (by simp [hd];rfl)
  ·exact zCD h zCc ha (by simp [hd,zBg]) rfl (fun _ _=>rfl)
theorem Conf.hold (h:Conf w0 U Φ0 w Φ rv E L) {g:Nat} (hg:zAd≤g) {p:PV} {v:Value} (hr:Rep w Φ (zA6 w rv E) p v []) :
  Conf w0 U Φ0 w Φ (upd rv g v) (upd E g p) (upd L g []):=by
 have hA:∀ a u,a.isWay=true→zA6 w rv E a u→zA6 w (upd rv g v) (upd E g p) a u:=by
  intro a u _ ha
  have:=zCP ha
  exact zCD h zCc ha (by rw [zAf (by omega),zBg]) (by rw [zAf (by omega)]) (fun _ _=>rfl)
 refine h.step (fun s=>if s=g then none else some s) (fun x=>x) g zCc ?_ ?_ ?_ (fun a u hw ha=>zCR hw (hA a u hw ha)) (fun _=>?_) (fun _=>?_) (Nat.le_refl _) (fun _ _ _=>rfl) ⟨rfl,rfl,rfl⟩
 ·intro a b t ha hb;split at ha<;>split at hb<;>simp_all
 ·intro a t ha;split at ha
  ·cases ha
  ·rename_i e;cases ha;simp [zAf e,zBg]
 ·intro a ha;split at ha
  ·rename_i e;subst e
   rw [zAh,zAh,zAh]
   exact ⟨hr.mono zDf.refl hA (by simp),fun h=>absurd rfl h⟩
  ·cases ha
 ·rw [zAh];exact List.nodup_nil
 ·rw [zAh];simp
theorem Conf.make (h:Conf w0 U Φ0 w Φ rv E L) {w':World} (G:Nat→Bool) (hG:∀ s,G s=true→zAd≤s) {g:Nat} (hg:zAd≤g) {p:PV} {v:Value} {Lp:List Nat}
  (hr:∀ A:Al,(∀ a u,a.isWay=true→zA6 w rv E a u→A a u)→Rep w' Φ A p v Lp) (hd:Lp.Nodup)
  (ho:∀ b∈Lp,(∃ t,b∈L t∧G t=true)∨(w.heap.size≤b∧b<w'.heap.size))
  (hw:w.heap.size≤w'.heap.size) (hk:∀ b,b<w.heap.size→(∀ t,b∈L t→G t=false)→w'.heap[b]? = w.heap[b]?)
  (kn:w'.os=w.os∧w'.tape=w.tape∧w'.output=w.output) :
  Conf w0 U Φ0 w' Φ (upd rv g v) (upd (fun s=>if G s then .bad else E s) g p) (upd (fun s=>if G s then [] else L s) g Lp):=by
 have hA:∀ a u,a.isWay=true→zA6 w rv E a u→zA6 w' (upd rv g v) (upd (fun s=>if G s then .bad else E s) g p) a u:=by
  intro a u _ ha
  have yK:=zCP ha
  have hI:(zA8 a).1≠g:=by omega
  have hGn:G (zA8 a).1=false:=by
   cases hb:G (zA8 a).1 with
   | false=>rfl
   | true=>have:=hG _ hb;omega
  refine zCD h zCc ha (by rw [zAf hI];simp [hGn,zBg]) (by rw [zAf hI]) fun b hb=>hk b (h.own _ b hb).1 fun t ht=>?_
  have:t=(zA8 a).1:=Classical.byContradiction fun hn=>h.disj t _ hn b ht hb
  rw [this];exact hGn
 refine h.step (fun s=>if s=g then none else if G s then none else some s) (fun x=>x) g zCc ?_ ?_ ?_ (fun a u hw ha=>zCR hw (hA a u hw ha)) (fun _=>?_) (fun _=>?_) hw ?_ kn
 ·intro a b t ha hb
  split at ha<;>split at hb<;>simp_all
 ·intro a t ha
  split at ha
  ·cases ha
  ·rename_i e
   split at ha
   ·cases ha
   ·rename_i e2;cases ha;simp [zAf e,zBg,e2]
 ·intro a ha
  split at ha
  ·rename_i e;subst e
   rw [zAh,zAh,zAh]
   exact ⟨hr _ hA,fun h=>absurd rfl h⟩
  ·rename_i e
   split at ha
   ·rename_i e2
    rw [zAf e,zAf e,zAf e]
    exact ⟨by simp [e2,Rep],fun _=>by simp [e2]⟩
   ·cases ha
 ·rw [zAh];exact hd
 ·rw [zAh]
  intro b hb
  rcases ho b hb with ⟨t,h1,h2⟩ | h1
  ·refine .inl ⟨t,h1,fun s hs=>?_⟩
   split at hs
   ·cases hs
   ·split at hs
    ·cases hs
    ·rename_i e2;cases hs;exact e2 h2
  ·exact .inr h1
 ·intro b hb hc
  refine hk b hb fun t ht=>?_
  obtain ⟨s,hs⟩:=hc t ht
  split at hs
  ·cases hs
  ·split at hs
   ·cases hs
   ·rename_i e2;cases hs;simpa using e2
theorem zCd.trans {p q r:PV} (h1:zCd p q) (h2:zCd q r):zCd p r:=by
 cases p<;>cases q<;>simp only [zCd] at h1<;>cases r<;>simp_all [zCd]
theorem zL9 {A A':Al} (hA:∀ a v,a.isWay=true→A a v→A' a v):∀ {pre:zAT} {p:PV},∀ a v,a.isWay=true→zH9 A p pre a v→zH9 A' p pre a v
 | [],p,a,v,hw,h=>hA a v hw h
 | (i,c)::rest,p,a,v,hw,h=>by
  simp only [zH9] at h ⊢
  cases hc:Eng.child p i c with
  | none=>rw [hc] at h;exact h.elim
  | some q =>
   rw [hc] at h
   exact zL9 (zJY hA) a v hw h
def stays (f:PV→PV) (A:Al):Al:=fun a v=>A a v∧f a=a
theorem Conf.stays (h:Conf w0 U Φ0 w Φ rv E L) {f:PV→PV} (hf:∀ p,f p=p∨(p.isWay=true∧f p = .bad)) (s:Nat):Rep w Φ (stays f (zA6 w rv E)) ((E s).mapW f) (rv s) (L s):=by
 refine Rep.map (zDj hf).agg zDf.refl (fun a v hw ha=>?_) _ _ _ (fun _ _=>rfl) (h.rep s)
 rcases hf a with hl | ⟨_,hl⟩
 ·rw [hl];exact zCR hw ⟨ha,hl⟩
 ·rw [hl];rfl
theorem Conf.mod (h:Conf w0 U Φ0 w Φ rv E L) {r:Nat} (hr:r<zAd) {f:PV→PV} (hf:∀ p,f p=p∨(p.isWay=true∧f p = .bad)) {pre:zAT} {q:PV}
  (jH:((E r).mapW f).unlock=(E r).mapW f) (hn:zAz ((E r).mapW f) pre=some q) :
  ∃ nv Li,zAR w (rv r) ((E r).mapW f) pre=some (nv,q)∧Rep w Φ (zH9 (Eng.stays f (zA6 w rv E)) ((E r).mapW f) pre) q nv Li∧Li.Nodup∧(∀ b∈Li,b∈L r) ∧
   ∀ (G:Nat→Bool) (w':World) (q' root':PV) (Li':List Nat),(∀ s,G s=true→zAd≤s)→(pre≠[]→q'.isAgg=q.isAgg)→zAr (fun _=>some q') ((E r).mapW f) pre=some root'→root'.unlock=root' →
    (∀ A:Al,(∀ a u,a.isWay=true→Eng.stays f (zA6 w rv E) a u→A a u)→Rep w' Φ (zH9 A ((E r).mapW f) pre) q' nv Li')→Li'.Nodup →
    (∀ b∈Li',b∈Li∨(∃ t,b∈L t∧G t=true)∨(w.heap.size≤b∧b<w'.heap.size))→w.heap.size≤w'.heap.size →
    (∀ b,b<w.heap.size→b∉Li→(∀ t,b∈L t→G t=false)→w'.heap[b]? = w.heap[b]?) →
    (∀ rest nv2 np2,zAR w' nv q' rest=some (nv2,np2)→np2.heavy0=true→(∀ a,a.isWay=true→zA8 a=(r,pre++rest)→f a≠a)∨∃ np0,zAR w nv q rest=some (nv2,np0)∧zCd np0 np2) →
    (w'.os=w.os∧w'.tape=w.tape∧w'.output=w.output) →
    ∃ L',(∀ s,s≠r→L' s=if G s then [] else L s)∧Conf w0 U Φ0 w' Φ rv (fun s=>if s=r then root' else if G s then .bad else (E s).mapW f) L':=by
 have hs:=h.stays hf r
 obtain ⟨nv,La,Li,Lb,uV,hL,hH,vS,kz⟩:=Rep.zip pre hs hn
 have yQ:=h.nodup r
 rw [hL] at yQ
 have gv:∀ b∈La++Lb,b∉Li:=by
  intro b hb uW
  simp only [List.nodup_append] at yQ
  rcases List.mem_append.1 hb with hb | hb
  ·exact yQ.1.2.2 b hb b uW rfl
  ·exact yQ.2.2 b (by simp [uW]) b hb rfl
 refine ⟨nv,Li,uV,hH,?_,fun b hb=>by rw [hL];simp [hb],?_⟩
 ·simp only [List.nodup_append] at yQ;exact yQ.1.2.1
 intro G w' q' root' Li' hG yj hm yF hR hd ho hw hk kL kn
 have hkL:∀ t,G t=false→∀ b∈L t,b∉Li→w'.heap[b]? = w.heap[b]?:=by
  intro t ht b hb uW
  refine hk b (h.own t b hb).1 uW fun t' gR=>?_
  have:t'=t:=Classical.byContradiction fun hI=>h.disj t' t hI b gR hb
  rw [this];exact ht
 have hGr:G r=false:=by
  cases hb:G r with
  | false=>rfl
  | true=>have:=hG _ hb;omega
 have gw:∀ b∈La++Lb,w'.heap[b]? = w.heap[b]?:=by
  intro b hb
  exact hkL r hGr b (by rw [hL];simp at hb ⊢;rcases hb with h | h<;>simp [h]) (gv b hb)
 have hLiL:∀ t,t≠r→∀ b∈L t,b∉Li:=by
  intro t hI b hb uW
  exact h.disj t r hI b hb (by rw [hL];simp [uW])
 have hA : ∀ a u,a.isWay=true→zA6 w rv E a u→f a=a→zA6 w' rv (fun s=>if s=r then root' else if G s then .bad else (E s).mapW f) a u:=by
  intro a u uX ha hfa
  have yK:=zCP ha
  by_cases js:(zA8 a).1=r
  ·refine ha.mono fun nv2 np2 jW hh=>?_
   simp only [js,if_true] at jW ⊢
   rw [yF] at jW
   have back:∀ np0,zAR w (rv r) ((E r).mapW f) (zA8 a).2=some (nv2,np0)→zCd np0 np2→∃ np0,zAR w (rv r) (E r).unlock (zA8 a).2=some (nv2,np0)∧zCd np0 np2:=by
    intro np0 h1 h2
    rw [← jH,zDn (zDj hf)] at h1
    obtain ⟨np1,h3,h4⟩:=zCN (zDj hf) h1 (zDC h2)
    exact ⟨np1,h3,h4.trans h2⟩
   rcases kz w' q' root' gw yj hm _ nv2 np2 jW hh with ⟨rest,h1,h2⟩ | ⟨np0,h1,h2⟩
   ·rcases kL rest nv2 np2 h2 hh with h3 | ⟨np0,h3,h4⟩
    ·exact absurd hfa (h3 a uX (Prod.ext js h1))
    ·refine back np0 ?_ h4
     rw [h1,zC9,uV];exact h3
   ·exact back np0 h1 h2
  ·have hGa:G (zA8 a).1=false:=by
    cases hb:G (zA8 a).1 with
    | false=>rfl
    | true=>have:=hG _ hb;omega
   exact zCD h (zDj hf) ha (by simp [js,hGa]) rfl fun b hb=>hkL _ hGa b hb (hLiL _ js b hb)
 have hA':∀ a u,a.isWay=true→zA6 w rv E a u→Rep w' Φ (zA6 w' rv (fun s=>if s=r then root' else if G s then .bad else (E s).mapW f)) (f a) u []:=by
  intro a u uX ha
  rcases hf a with hl | ⟨_,hl⟩
  ·rw [hl];exact zCR uX (hA a u uX ha hl)
  ·rw [hl];rfl
 have hΦ:zDf w w' Φ Φ:=fun b hb=>⟨hb,hk b (h.frz b hb).1 (fun uW=>(h.own r b (by rw [hL];simp [uW])).2.1 hb) fun t kK=>absurd hb (h.own t b kK).2.1⟩
 refine ⟨fun s=>if s=r then La++Li'++Lb else if G s then [] else L s,fun s yW=>by simp [yW],?_⟩
 refine h.step (fun s=>if s=r then none else if G s then none else some s) f r (zDj hf) ?_ ?_ ?_ hA' (fun _=>?_) (fun _=>?_) hw ?_ kn
 ·intro a b t ha hb
  split at ha<;>split at hb<;>simp_all
 ·intro a t ha
  split at ha
  ·cases ha
  ·rename_i e
   split at ha
   ·cases ha
   ·rename_i e2;cases ha;simp [e,e2]
 ·intro a ha
  by_cases e:a=r
  ·subst e
   simp only [if_true]
   exact ⟨vS w' Φ _ q' Li' root' (fun a u uX ha=>hA a u uX ha.1 ha.2) hΦ gw yj (hR _ fun a u uX ha=>hA a u uX ha.1 ha.2) hm,fun h=>absurd rfl h⟩
  ·simp only [e,if_false] at ha ⊢
   split at ha
   ·rename_i e2;exact ⟨by simp [e2,Rep],fun _=>by simp [e2]⟩
   ·cases ha
 ·simp only [if_true]
  simp only [List.nodup_append] at yQ ⊢
  have hx:∀ b∈Li',b∈La++Lb→False:=by
   intro b hb jN
   have vw:b∈L r:=by rw [hL];simp at jN ⊢;rcases jN with h | h<;>simp [h]
   rcases ho b hb with h1 | ⟨t,h1,h2⟩ | h1
   ·exact gv b jN h1
   ·have:t≠r:=fun e=>by rw [e,hGr] at h2;cases h2
    exact h.disj t r this b h1 vw
   ·have:=(h.own r b vw).1;omega
  refine ⟨⟨yQ.1.1,hd,fun a ha b hb e=>hx b hb (by subst e;simp [ha])⟩,yQ.2.1,fun a ha b hb e=>?_⟩
  subst e
  rcases List.mem_append.1 ha with ha | ha
  ·exact yQ.2.2 a (by simp [ha]) a hb rfl
  ·exact hx a ha (by simp [hb])
 ·simp only [if_true]
  intro b hb
  have yX:∀ t,t=r∨G t=true→∀ s,(if s=r then none else if G s then none else some s)≠some t:=by
   intro t ht s hs
   split at hs
   ·cases hs
   ·rename_i e
    split at hs
    ·cases hs
    ·rename_i e2;cases hs
     rcases ht with h | h
     ·exact e h
     ·exact e2 h
  rcases List.mem_append.1 hb with hb | hb
  ·rcases List.mem_append.1 hb with hb | hb
   ·exact .inl ⟨r,by rw [hL];simp [hb],yX r (.inl rfl)⟩
   ·rcases ho b hb with h1 | ⟨t,h1,h2⟩ | h1
    ·exact .inl ⟨r,by rw [hL];simp [h1],yX r (.inl rfl)⟩
    ·exact .inl ⟨t,h1,yX t (.inr h2)⟩
    ·exact .inr h1
  ·exact .inl ⟨r,by rw [hL];simp [hb],yX r (.inl rfl)⟩
 ·intro b hb hc
  have jm:b∉L r:=by
   intro vw
   obtain ⟨s,hs⟩:=hc r vw
   split at hs
   ·cases hs
   ·rename_i e
    split at hs
    ·cases hs
    ·cases hs;exact e rfl
  refine hk b hb (fun uW=>jm (by rw [hL];simp [uW])) fun t ht=>?_
  obtain ⟨s,hs⟩:=hc t ht
  split at hs
  ·cases hs
  ·split at hs
   ·cases hs
   ·rename_i e2;cases hs;simpa using e2
theorem Conf.takeNode (h:Conf w0 U Φ0 w Φ rv E L) {r g:Nat} (hr:r<zAd) (hg:zAd≤g) {pre:zAT} {q root':PV} (jH:(E r).unlock=E r) (hn:zAz (E r) pre=some q) (yj:q.isAgg=false)
  (hm:zAr (fun _=>some .bad) (E r) pre=some root') (yF:root'.unlock=root') :
  ∃ nv Li,zAR w (rv r) (E r) pre=some (nv,q)∧Rep w Φ (zA6 w rv E) q nv Li∧Li.Nodup∧(∀ b∈Li,b∈L r)∧∀ (p':PV) (v':Value) (Lg:List Nat),Rep w Φ (zA6 w rv E) p' v' Lg→Lg.Nodup→(∀ b∈Lg,b∈Li∨b∈L g) →
   ∃ L',Conf w0 U Φ0 w Φ (upd rv g v') (upd (upd E r root') g p') L'∧∀ s,s≠r→s≠g→L' s=L s:=by
 have jn:r≠g:=by omega
 obtain ⟨nv,La,Li,Lb,uV,hL,hH,vS,kz⟩:=Rep.zip pre (h.rep r) hn
 have yQ:=h.nodup r
 rw [hL] at yQ
 simp only [List.nodup_append] at yQ
 have yV:∀ b,b∈La++Lb→b∈L r:=fun b hb=>by rw [hL];simp at hb ⊢;rcases hb with h | h<;>simp [h]
 have wu:∀ b∈Li,b∈L r:=fun b hb=>by rw [hL];simp [hb]
 have ur:∀ b∈Li,b∉La++Lb:=by
  intro b hb jN
  rcases List.mem_append.1 jN with h2 | h2
  ·exact yQ.1.2.2 b h2 b hb rfl
  ·exact yQ.2.2 b (by simp [hb]) b h2 rfl
 refine ⟨nv,Li,uV,hH.mono zDf.refl (fun _ _ _ h=>zEr h) (fun _ _=>rfl),yQ.1.2.1,wu,fun p' v' Lg jI hLg gx=>?_⟩
 have wv:∀ b∈Lg,b∉La++Lb:=by
  intro b hb jN
  rcases gx b hb with h1 | h1
  ·exact ur b h1 jN
  ·exact h.disj r g jn b (yV b jN) h1
 have hA:∀ a u,a.isWay=true→zA6 w rv E a u→zA6 w (upd rv g v') (upd (upd E r root') g p') a u:=by
  intro a u uX ha
  have yK:=zCP ha
  by_cases js:(zA8 a).1=r
  ·refine ha.mono fun nv2 np2 jW hh=>?_
   rw [js] at jW ⊢
   rw [zAf jn,zAf jn,zAh,yF] at jW
   rcases kz w .bad root' (fun _ _=>rfl) (fun _=>yj.symm) hm _ nv2 np2 jW hh with ⟨rest,h1,h2⟩ | ⟨np0,h1,h2⟩
   ·cases rest with
    | nil=>simp only [zAR,Option.some.injEq,Prod.mk.injEq] at h2;rw [← h2.2] at hh;cases hh
    | cons x rest=>obtain ⟨i,c⟩:=x;rw [zA4] at h2;simp [Eng.child,zA0] at h2
   ·rw [jH];exact ⟨np0,h1,h2⟩
  ·exact zCD h zCc ha (by rw [zAf (by omega),zAf js,zBg]) (by rw [zAf (by omega)]) (fun _ _=>rfl)
 refine ⟨upd (upd L r (La++Lb)) g Lg,?_,fun s h1 h2=>by rw [zAf h2,zAf h1]⟩
 refine h.step2 (fun s=>if s=r then none else if s=g then none else some s) (fun x=>x) zCc ?_ ?_ ?_ (fun a u uX ha=>zCR uX (hA a u uX ha)) ?_ ?_ ?_ (Nat.le_refl _) (fun _ _ _=>rfl) ⟨rfl,rfl,rfl⟩
 ·intro a b t ha hb
  split at ha<;>split at hb<;>simp_all
 ·intro a t ha
  split at ha
  ·cases ha
  ·rename_i e1
   split at ha
   ·cases ha
   ·rename_i e2;cases ha;simp [zAf e1,zAf e2,zBg]
 ·intro a ha
  by_cases e1:a=r
  ·subst e1
   rw [zAf jn,zAf jn,zAf jn,zAh,zAh]
   have:=vS w Φ (zA6 w (upd rv g v') (upd (upd E a root') g p')) .bad [] root' hA zDf.refl (fun _ _=>rfl) (fun _=>yj.symm) rfl hm
   simpa using this
  ·have e2:a=g:=by
    rw [if_neg e1] at ha
    by_cases e2:a=g
    ·exact e2
    ·rw [if_neg e2] at ha;cases ha
   subst e2
   rw [zAh,zAh,zAh]
   exact jI.mono zDf.refl (fun a u hw h=>hA a u hw h) (fun _ _=>rfl)
 ·intro a ha
  by_cases e1:a=r
  ·subst e1
   rw [zAf jn,zAh,List.nodup_append]
   exact ⟨yQ.1.1,yQ.2.1,fun x hx y hy e=>yQ.2.2 x (by simp [hx]) y hy e⟩
  ·rw [if_neg e1] at ha
   by_cases e2:a=g
   ·subst e2;rw [zAh];exact hLg
   ·rw [if_neg e2] at ha;cases ha
 ·intro s s' hs jB hI b hb yE
  have uY:s=r∨s=g:=by by_cases e1:s=r;exact .inl e1;rw [if_neg e1] at hs;by_cases e2:s=g;exact .inr e2;rw [if_neg e2] at hs;cases hs
  have hs2':s'=r∨s'=g:=by by_cases e1:s'=r;exact .inl e1;rw [if_neg e1] at jB;by_cases e2:s'=g;exact .inr e2;rw [if_neg e2] at jB;cases jB
  rcases uY with rfl | rfl<;>rcases hs2' with rfl | rfl
  ·exact hI rfl
  ·rw [zAf jn,zAh] at hb;rw [zAh] at yE;exact wv b yE hb
  ·rw [zAh] at hb;rw [zAf jn,zAh] at yE;exact wv b hb yE
  ·exact hI rfl
 ·intro s hs b hb
  have uY:s=r∨s=g:=by by_cases e1:s=r;exact .inl e1;rw [if_neg e1] at hs;by_cases e2:s=g;exact .inr e2;rw [if_neg e2] at hs;cases hs
  have jm:∀ t,t=r∨t=g→∀ x,(if x=r then none else if x=g then none else some x)≠some t:=by
   intro t ht x hx
   split at hx
   ·cases hx
   ·rename_i e1
    split at hx
    ·cases hx
    ·rename_i e2;cases hx;rcases ht with h | h<;>contradiction
  rcases uY with rfl | rfl
  ·rw [zAf jn,zAh] at hb;exact .inl ⟨s,yV b hb,jm s (.inl rfl)⟩
  ·rw [zAh] at hb
   rcases gx b hb with h1 | h1
   ·exact .inl ⟨r,wu b h1,jm r (.inl rfl)⟩
   ·exact .inl ⟨s,h1,jm s (.inr rfl)⟩
end
end
end Go.Eng
namespace Go.Eng
open Go
theorem zBm:∀ ps:List PV,(zAx ps).length=ps.length
 | []=>rfl
 | p::ps=>by simp [zAx,zBm ps]
theorem zIJ:∀ (ps:List PV) (i:Nat),(zAx ps)[i]? = (ps[i]?).map zAZ
 | [],i=>by simp [zAx]
 | p::ps,0=>by simp [zAx]
 | p::ps,i+1=>by simp only [zAx,List.getElem?_cons_succ];exact zIJ ps i
theorem zCu:∀ ps:List PV,zAx ps=ps.map zAZ
 | []=>rfl
 | p::ps=>by simp [zAx,zCu ps]
theorem zC0 (p:PV):(zAZ p).isAgg=p.isAgg:=by cases p<;>rfl
theorem zLQ (p:PV):(zAZ p).cells=zAx p.cells:=by cases p<;>rfl
theorem zC1 (p:PV):(zAZ p).cells.length=p.cells.length:=by rw [zLQ,zBm]
theorem zG6 (ps:List PV):(zAx ps).map PV.isAgg=ps.map PV.isAgg:=by
 rw [zCu,List.map_map];exact List.map_congr_left fun p _=>zC0 p
section
variable {w:World} {Φ Φ':Nat→Prop}
mutual
theorem zDU {A:Al} (hΦ:∀ b,Φ b→Φ' b):∀ (p:PV) (v:Value) (L:List Nat),(∀ b∈L,Φ' b)→Rep w Φ A p v L→Rep w Φ' A (zAZ p) v []
 | .own sz xs,v,L,hL,h=>by
  obtain ⟨h1,h2,h3⟩ | ⟨a,n,c,us,L',rfl,h1,h2,h3,h4,h5,h6,h7,h8,h9⟩:=h
  ·subst h1;exact ⟨rfl,.inl ⟨rfl,none,0,h3,fun _=>rfl⟩⟩
  ·refine ⟨rfl,.inr ⟨a,n,c,us,sz,by rw [zBm];exact h1,h2,by rw [zBm];exact h3,hL _ (by simp),h4.any,?_,⟨h7.1,by rw [zG6];exact h7.2⟩,by rw [zBm];exact h8,?_⟩⟩
   ·intro x hx
    rw [zCu] at hx
    obtain ⟨y,hy,rfl⟩:=List.mem_map.1 hx
    rw [zC1];exact h6 y hy
   ·exact zDm hΦ xs us L' (fun b hb=>hL b (by simp [hb])) h9
 | .box q,v,L,hL,h=>by
  obtain ⟨a,c,u,L',rfl,h1,h2,h4,h5,h6,h7⟩:=h
  exact ⟨rfl,a,c,u,h1,h2,hL _ (by simp),h4.any,by rw [zC1];exact h5,by rw [zC1,zC0];exact h6,zDU hΦ q u L' (fun b hb=>hL b (by simp [hb])) h7⟩
 | .omap es,v,L,hL,h=>by
  obtain ⟨b,ents,rfl,h1,h3,h4⟩:=h
  exact ⟨rfl,b,ents,h1,hL _ (by simp),h3,zD8.same (fun b hb=>⟨hΦ b hb,rfl⟩) es _ _ h4⟩
 | .agg cs,v,L,hL,h=>by
  obtain ⟨vs,rfl,h⟩:=h
  exact ⟨vs,rfl,zDm hΦ cs _ L hL h⟩
 | .tup _,_,_,_,_=>rfl
 | .lock _,_,_,_,_=>rfl
 | .bad,_,_,_,_=>rfl
 | .und,_,_,_,h=>⟨h.1,rfl⟩
 | .int ..,_,_,_,h=>⟨h.1,rfl⟩
 | .bool _,_,_,_,h=>⟨h.1,rfl⟩
 | .nilp,_,_,_,h=>⟨h.1,rfl⟩
 | .nilf,_,_,_,h=>⟨h.1,rfl⟩
 | .nilm,_,_,_,h=>⟨h.1,rfl⟩
 | .nn,_,_,_,h=>⟨rfl,h.2⟩
 | .nils _,_,_,_,h=>⟨h.1,rfl⟩
 | .sl xs,v,L,_,h=>by have h0:=h.1;subst h0;exact h.mono (fun b hb=>⟨hΦ b hb,rfl⟩) (fun _ _ _ h=>h) (fun _ _=>rfl)
 | .ref q,v,L,_,h=>by have h0:=h.1;subst h0;exact h.mono (fun b hb=>⟨hΦ b hb,rfl⟩) (fun _ _ _ h=>h) (fun _ _=>rfl)
 | .map es,v,L,_,h=>by have h0:=h.1;subst h0;exact h.mono (fun b hb=>⟨hΦ b hb,rfl⟩) (fun _ _ _ h=>h) (fun _ _=>rfl)
 | .func _ _ _,v,L,_,h=>by have h0:=h.1;subst h0;exact h.mono (fun b hb=>⟨hΦ b hb,rfl⟩) (fun _ _ _ h=>h) (fun _ _=>rfl)
 | .addr ..,_,_,_,h=>⟨rfl,h.2⟩
 | .bor ..,_,_,_,h=>⟨rfl,h.2⟩
 | .bsl ..,_,_,_,h=>⟨rfl,h.2⟩
 | .bmap ..,_,_,_,h=>⟨rfl,h.2⟩
 | .yld _,_,_,_,h=>⟨rfl,h.2⟩
 | .log ..,_,_,_,h=>⟨rfl,h.2⟩
theorem zDm {A:Al} (hΦ:∀ b,Φ b→Φ' b):∀ (ps:List PV) (vs:List Value) (L:List Nat),(∀ b∈L,Φ' b)→zA1 w Φ A ps vs L→zA1 w Φ' A (zAx ps) vs []
 | [],_,_,_,h=>⟨h.1,rfl⟩
 | p::ps,vs,L,hL,h=>by
  obtain ⟨v,vs',L1,L2,rfl,rfl,h1,h2⟩:=h
  exact ⟨v,vs',[],[],rfl,rfl,zDU hΦ p v L1 (fun b hb=>hL b (by simp [hb])) h1,zDm hΦ ps vs' L2 (fun b hb=>hL b (by simp [hb])) h2⟩
end
theorem zHJ:∀ {pre:zAT} {p:PV} {v nv:Value} {np:PV},zAR w v (zAZ p) pre=some (nv,np)→np.heavy0=false
 | [],p,v,nv,np,h=>by
  simp only [zAR,Option.some.injEq,Prod.mk.injEq] at h
  obtain ⟨_,rfl⟩:=h
  cases p<;>rfl
 | (i, c)::rest,p,v,nv,np,h=>by
  rw [zA4] at h
  cases hc:Eng.child (zAZ p) i c with
  | none=>rw [hc] at h;cases h
  | some q =>
   rw [hc] at h;simp only [Option.bind_some] at h
   cases hk:kid w v (zAZ p) i c with
   | none=>rw [hk] at h;cases h
   | some u =>
    rw [hk] at h;simp only [Option.bind_some] at h
    cases p<;>first | (simp [Eng.child,zA0,zAZ] at hc;done) | skip
    rename_i cs
    cases i with
    | succ i=>simp [Eng.child,zA0,zAZ] at hc
    | zero =>
     simp only [Eng.child,zA0,zAZ,Option.bind_some,List.getElem?_cons_zero,PV.cells] at hc
     rw [zIJ] at hc
     cases hq:cs[c]? with
     | none=>rw [hq] at hc;cases hc
     | some q0=>rw [hq] at hc;simp only [Option.map_some,Option.some.injEq] at hc;subst hc;exact zHJ h
end
theorem zHq {c:Array Value} {o n:Nat} {l:List Value} (hl:l.length=n) (h:∀ k u,l[k]? = some u→c[o+k]? = some u):seg c o n=l:=by
 apply List.ext_getElem?
 intro k
 simp only [seg,List.getElem?_take,List.getElem?_drop]
 by_cases hk:k<n
 ·rw [if_pos hk]
  have : ∃ u, l[k]? = some u := ⟨l[k]'(by omega), by simp [hl, hk]⟩
  obtain ⟨u,hu⟩:=this
  rw [hu,Array.getElem?_toList];exact h k u hu
 ·rw [if_neg hk,List.getElem?_eq_none (by omega)]
section
variable {w:World} {Φ:Nat→Prop}
theorem zK9 {A:Al} {np:PV} {nv:Value} {Li:List Nat} (h:Rep w Φ A np nv Li) {xs:List PV} (hx:zBa np=some xs) {i:Nat} {x:PV} (hi:xs[i]? = some x) :
  ∃ ux row ad Lx,ad.block∈Li∧ad.spot=none∧zEQ w ad.block row∧(∀ b∈Lx,b∈Li)∧(∀ c,zA7 nv np i c=some (zAy ad c)) ∧
   (∀ c n,c+n≤x.cells.length→seg row (ad.off+c) n=(ux.cells.toList.drop c).take n)∧zCh ux=x.isAgg∧ux.cells.size=x.cells.length∧Rep w Φ (zGp A np) x ux Lx:=by
 cases np<;>simp only [zBa] at hx<;>try cases hx
 case own sz =>
  obtain ⟨h1,h2,h3⟩ | ⟨a,n,r,us,L',rfl,h1,h2,h3,h4,h5,h6,⟨h7,km⟩,h8,h9⟩:=h
  ·subst h1;simp at hi
  ·obtain ⟨ux,La,Lx,Lb,hu,rfl,hr,_,_⟩:=h9.split hi
   have hg:zCh ux=x.isAgg:=by
    have h1:(us.map zCh)[i]? = some (zCh ux):=by simp [hu]
    have h2:(xs.map PV.isAgg)[i]? = some x.isAgg:=by simp [hi]
    rw [km] at h1;rw [h1] at h2;simpa using h2
   have yC:ux.cells.size=x.cells.length:=by rw [h7 ux (List.mem_of_getElem? hu),h6 x (List.mem_of_getElem? hi)]
   subst h1
   refine ⟨ux,r,zAy a (i*sz),Lx,by simp [zAy],rfl,h4,fun b hb=>by simp [hb],fun c=>by simp [zA7,zAy,Nat.add_assoc],?_,hg,yC,hr⟩
   intro c m hcm
   refine zHq (by simp;omega) fun k u hk=>?_
   simp only [List.getElem?_take,List.getElem?_drop] at hk
   split at hk
   ·have hf:=zDQ h7 hu hk
    rw [← h8] at hf
    have:=zDo hf
    simp only [zAy]
    rw [show a.off+i*sz+c+k=a.off+(i*sz+(c+k)) by omega];exact this
   ·cases hk
 case box q0 =>
  obtain ⟨a,r,u0,L',rfl,h1,h2,h4,h5,⟨h6,uS⟩,h7⟩:=h
  have jl:i=0:=by
   cases i with
   | zero=>rfl
   | succ i=>simp at hi
  subst jl;simp at hi;subst hi
  subst h1
  refine ⟨u0,r,a,L',by simp,h2,h4,fun b hb=>by simp [hb],fun c=>rfl,?_,uS,h6,h7⟩
  intro c m hcm
  refine zHq (by simp;omega) fun k u hk=>?_
  simp only [List.getElem?_take,List.getElem?_drop] at hk
  split at hk
  ·have:=zDo (c:=r) (o:=a.off) (n:=q0.cells.length) (k:=c+k) (u:=u) (by rw [h5];exact hk)
   rw [Nat.add_assoc];exact this
  ·cases hk
end
theorem zCH (u:Value) (us:List Value):flat (u::us)=u.cells.toList++flat us:=rfl
theorem zJo {sz:Nat}:∀ {us:List Value},(∀ u∈us,u.cells.size=sz)→∀ lo,(flat us).drop (lo*sz)=flat (us.drop lo)
 | [],_,lo=>by simp [flat]
 | u::us,h,0=>by simp
 | u::us,h,lo+1=>by
  have hu:u.cells.toList.length=sz:=by simpa using h u (by simp)
  rw [zCH,Nat.succ_mul,Nat.add_comm,← List.drop_drop,List.drop_left' hu]
  exact zJo (fun u hu=>h u (by simp [hu])) lo
theorem zIB {sz:Nat}:∀ {us:List Value},(∀ u∈us,u.cells.size=sz)→∀ n,(flat us).take (n*sz)=flat (us.take n)
 | [],_,n=>by simp [flat]
 | u::us,h,0=>by simp [flat]
 | u::us,h,n+1=>by
  have hu:u.cells.toList.length=sz:=by simpa using h u (by simp)
  rw [List.take_succ_cons,zCH,zCH,Nat.succ_mul,Nat.add_comm,List.take_append,List.take_of_length_le (by omega),hu]
  congr 1
  rw [show sz+n*sz-sz=n*sz by omega]
  exact zIB (fun u hu=>h u (by simp [hu])) n
theorem zBn {sz:Nat}:∀ {us:List Value},(∀ u∈us,u.cells.size=sz)→(flat us).length=us.length*sz
 | [],_=>by simp [flat]
 | u::us,h=>by
  have hu:u.cells.toList.length=sz:=by simpa using h u (by simp)
  rw [zCH,List.length_append,hu,zBn (fun u hu=>h u (by simp [hu])),List.length_cons,Nat.succ_mul,Nat.add_comm]
theorem zIk {c:Array Value} {o sz m:Nat} {us:List Value} (hs:∀ u∈us,u.cells.size=sz) (hm:us.length=m) (h:seg c o (m*sz)=flat us) {lo n:Nat} (hn:lo+n≤m) :
  seg c (o+lo*sz) (n*sz)=flat ((us.drop lo).take n):=by
 have h1:seg c (o+lo*sz) (n*sz)=(((seg c o (m*sz)).drop (lo*sz)).take (n*sz)):=by
  apply List.ext_getElem?
  intro k
  simp only [seg,List.getElem?_take,List.getElem?_drop]
  by_cases hk:k<n*sz
  ·have:lo*sz+n*sz≤m*sz:=by rw [← Nat.add_mul];exact Nat.mul_le_mul_right _ hn
   rw [if_pos hk,if_pos hk,if_pos (by omega),Nat.add_assoc]
  ·rw [if_neg hk,if_neg hk]
 rw [h1,h,zJo hs,zIB (fun u hu=>hs u (List.mem_of_mem_drop hu))]
theorem zA1.map_isAgg {us:List Value} {xs:List PV} (h:us.map zCh=xs.map PV.isAgg) (lo n:Nat):((us.drop lo).take n).map zCh=((xs.drop lo).take n).map PV.isAgg:=by
 rw [List.map_take,List.map_drop,h,List.map_take,List.map_drop]
section
variable {w:World} {Φ Φ':Nat→Prop} {rv:Nat→Value} {E E':Nat→PV}
theorem zBS {A:Al} {ps:List PV} {us:List Value} (h:zA1 w Φ A ps us []) (c n:Nat):zA1 w Φ A ((ps.drop c).take n) ((us.drop c).take n) []:=by
 have key:∀ (ps:List PV) (us:List Value) (c n:Nat),zA1 w Φ A ps us []→zA1 w Φ A ((ps.drop c).take n) ((us.drop c).take n) []:=by
  intro ps
  induction ps with
  | nil=>intro us c n h;rw [h.1];simp [zA1]
  | cons p ps ih =>
   intro us c n h
   obtain ⟨v,vs,L1,L2,rfl,hL,h1,h2⟩:=h
   obtain ⟨rfl,rfl⟩:L1=[]∧L2=[]:=by simpa using hL.symm
   cases c with
   | succ c=>simpa using ih vs c n h2
   | zero =>
    cases n with
    | zero=>simp [zA1]
    | succ n=>exact ⟨v,_,[],[],rfl,rfl,h1,by simpa using ih vs 0 n h2⟩
 exact key ps us c n h
theorem zCW {a:PV} {v:Value} (hw:a.isWay=true) (h:zA6 w rv E a v):v.oneCell'=true:=by
 cases a<;>first | cases hw | skip
 ·obtain ⟨_,a,rfl,_⟩:=h;rfl
 ·obtain ⟨_,⟨a,c,rfl,_⟩,_⟩:=h;rfl
 ·obtain ⟨_,a,c,rfl,_⟩:=h;rfl
 ·obtain ⟨_,⟨b,rfl⟩,_⟩:=h;rfl
 ·exact h.elim
theorem zB7 {A:Al} (hA:∀ a v,a.isWay=true→A a v→v.oneCell'=true) {q:PV} {u:Value} {L:List Nat} (h:Rep w Φ A q u L) (hq:q.oneCell=true):u.oneCell'=true:=by
 cases q<;>first | cases hq | skip
 case int=>rw [h.1];rfl
 case bool=>rw [h.1];rfl
 case nilp=>rw [h.1];rfl
 case nilf=>rw [h.1];rfl
 case nilm=>rw [h.1];rfl
 case nn=>obtain ⟨_,a,n,rfl⟩:=h;rfl
 case nils=>rw [h.1];rfl
 case sl=>obtain ⟨_,⟨_,a,n,rfl,_⟩ | ⟨a,n,c,us,sz,rfl,_⟩⟩:=h<;>rfl
 case own=>obtain ⟨_,_,rfl⟩ | ⟨a,n,c,us,L',_,rfl,_⟩:=h<;>rfl
 case ref=>obtain ⟨_,a,c,u,rfl,_⟩:=h;rfl
 case box=>obtain ⟨a,c,u,L',_,rfl,_⟩:=h;rfl
 case map=>obtain ⟨_,b,e,rfl,_⟩:=h;rfl
 case omap=>obtain ⟨b,e,_,rfl,_⟩:=h;rfl
 case func=>obtain ⟨_,fs,cs,rfl,_⟩:=h;rfl
 all_goals exact hA _ _ rfl h.2
theorem zBH {v:Value} (h:v.oneCell'=true):v.cells=#[v]∧zCh v=false:=by
 cases v<;>first | exact ⟨rfl,rfl⟩ | cases h
theorem zBl {p:PV} (h:p.oneCell=true):p.cells=[p]∧p.isAgg=false:=by
 cases p<;>first | exact ⟨rfl,rfl⟩ | cases h
theorem zO8 {A A':Al} (gy:∀ a v,a.isWay=true→A a v→v.oneCell'=true) (hΦ:∀ b,Φ b→Φ' b) (hA:∀ a v,a.isWay=true→A a v→A' a v) {x:PV} {xv:Value} {Lx:List Nat} (hx:Rep w Φ A x xv Lx) (hL:∀ b∈Lx,Φ' b) {i c:Nat} {sh:Option Nat} {v:Value} {a:Addr}
  (hv:v = .pointer (some a)) (ha:∀ a',zA7 xv x i c=some a'→a=a'):Rep w Φ' A' (zDs i c sh x) v []:=by
 simp only [zDs]
 cases hh:zBa x with
 | none=>rfl
 | some xs =>
  simp only
  cases hi:xs[i]? with
  | none=>rfl
  | some y =>
   simp only
   obtain ⟨ux,row,ad,Ly,h1,h2,h3,h4,h5,h6,h7,h8,h9⟩:=zK9 hx hh hi
   have yz:=ha _ (h5 c)
   have gz:∀ a v,a.isWay=true→zGp A x a v→A' a v:=fun a v hw h=>hA a v hw (zFL h)
   cases sh with
   | some m =>
    simp only
    by_cases yI:c+m≤y.cells.length
    ·rw [Nat.ble_eq_true_of_le yI]
     cases hya:y.isAgg with
     | false=>rfl
     | true =>
      simp only [Bool.and_self,cond_true]
      cases y<;>simp [PV.isAgg] at hya
      rename_i cs
      obtain ⟨vs,rfl,hr⟩:=h9
      have yq:=zBS (zDm hΦ cs _ Ly (fun b hb=>hL b (h4 b hb)) hr) c m
      have hO:=hr.length
      refine ⟨rfl,a,row,.agg ((vs.toList.drop c).take m).toArray,hv,by rw [yz];rfl,by rw [yz];exact hL _ h1,by rw [yz];exact h3.any,?_,⟨?_,rfl⟩,?_⟩
      ·rw [yz]
       simp only [zAy,PV.cells,zBm,Value.cells]
       have:=h6 c m yI
       simp only [PV.cells] at yI
       rw [show ((cs.drop c).take m).length=m by simp;omega,this];rfl
      ·simp only [Value.cells,PV.cells,zBm];simp at hO ⊢;omega
      ·refine ⟨_,rfl,?_⟩
       have e:zAx ((cs.drop c).take m)=((zAx cs).drop c).take m:=by rw [zCu,zCu,List.map_take,List.map_drop]
       simp only [PV.cells] 
       rw [e]
       exact yq.mono zDf.refl gz (by simp)
    ·have:Nat.ble (c+m) y.cells.length=false:=by
      cases hb:Nat.ble (c+m) y.cells.length with
      | false=>rfl
      | true=>exact absurd (Nat.le_of_ble_eq_true hb) yI
     rw [this];rfl
   | none =>
    simp only
    cases hc:y.cells[c]? with
    | none=>rfl
    | some q =>
     simp only
     obtain ⟨u,La,Lu,Lb,hu,vT,kU,_,_⟩:=h9.cell hc h7
     have yL:c<y.cells.length:=(List.getElem?_eq_some_iff.1 hc).1
     cases kV:q.oneCell with
     | false=>rfl
     | true =>
      simp only [cond_true]
      have kM:=zBH (zB7 (fun a v hw h=>gy a v hw (zFL h)) kU kV)
      have ko:=zBl kV
      refine ⟨rfl,a,row,u,hv,by rw [yz];rfl,by rw [yz];exact hL _ h1,by rw [yz];exact h3.any,?_,⟨?_,?_⟩,?_⟩
      ·rw [yz,zC1,ko.1,kM.1]
       have:=h6 c 1 (by omega)
       simp only [zAy,List.length_singleton]
       rw [this]
       have:c<ux.cells.toList.length:=by simpa [h8] using yL
       rw [List.drop_eq_getElem_cons this]
       have:ux.cells.toList[c]=u:=by rw [List.getElem?_eq_getElem this] at hu;simpa using hu
       simp [this]
      ·rw [zC1,ko.1,kM.1];rfl
      ·rw [zC0,ko.2,kM.2]
      ·exact (zDU hΦ q u Lu (fun b hb=>hL b (h4 b (by rw [vT];simp [hb]))) kU).mono zDf.refl gz (by simp)
end
theorem zMu {u u':Value} (h:u.cells.toList=u'.cells.toList) (ha:zCh u=zCh u'):u=u':=by
 have hc:u.cells=u'.cells:=by
  have:=congrArg List.toArray h
  simpa using this
 cases hu:zCh u with
 | true =>
  rw [hu] at ha
  cases u<;>simp [zCh] at hu
  cases u'<;>simp [zCh] at ha
  exact congrArg Value.agg hc
 | false =>
  rw [hu] at ha
  have h1:u.cells=#[u]:=by cases u<;>first | rfl | simp [zCh] at hu
  have h2:u'.cells=#[u']:=by cases u'<;>first | rfl | simp [zCh] at ha
  rw [h1,h2] at hc
  simpa using hc
theorem zOr {sz:Nat}:∀ {us us':List Value},(∀ u∈us,u.cells.size=sz)→(∀ u∈us',u.cells.size=sz)→us.map zCh=us'.map zCh→flat us=flat us'→us=us'
 | [],[],_,_,_,_=>rfl
 | [],_::_,_,_,h,_=>by simp at h
 | _::_,[],_,_,h,_=>by simp at h
 | u :: us,u'::us',h1,h2,ha,hf=>by
  simp only [List.map_cons,List.cons.injEq] at ha
  rw [zCH,zCH] at hf
  have hl:u.cells.toList.length=u'.cells.toList.length:=by
   have:=h1 u (by simp);have:=h2 u' (by simp);simp;omega
  obtain ⟨h3,h4⟩:=List.append_inj hf hl
  rw [zMu h3 ha.1,zOr (fun u hu=>h1 u (by simp [hu])) (fun u hu=>h2 u (by simp [hu])) ha.2 h4]
section
variable {w:World} {Φ Φ':Nat→Prop}
theorem zEQ.uniq {b:Nat} {c c':Array Value} (h:zEQ w b c) (h':zEQ w b c'):c=c':=by
 obtain ⟨e,h⟩:=h;obtain ⟨e',h'⟩:=h'
 rw [h] at h';cases h';rfl
mutual
theorem Rep.uniq {A A':Al}:∀ (p:PV) (v:Value) (L L':List Nat),Rep w Φ A p v L→Rep w Φ' A' p v L'→L=L'
 | .own sz xs,v,L,L',h,h'=>by
  obtain ⟨h1,h2,h3⟩ | ⟨a,n,c,us,M,rfl,h1,h2,h3,h4,h5,h6,h7,h8,h9⟩:=h
  ·obtain ⟨_,g2,_⟩ | ⟨a,n,c,us,M,rfl,g1,_⟩:=h'
   ·rw [h2,g2]
   ·rw [h3] at g1;cases g1
  ·obtain ⟨_,_,g3⟩ | ⟨a',n',c',us',M',rfl,g1,g2,g3,g4,g5,g6,g7,g8,g9⟩:=h'
   ·rw [h1] at g3;cases g3
   ·rw [h1] at g1;cases g1
    have:=h4.uniq g4;subst this
    have:us=us':=zOr h7.1 g7.1 (h7.2.trans g7.2.symm) (h8.symm.trans g8)
    subst this
    rw [zA1.uniq xs us M M' h9 g9]
 | .box q,v,L,L',h,h'=>by
  obtain ⟨a,c,u,M,rfl,h1,h2,h4,h5,h6,h7⟩:=h
  obtain ⟨a',c',u',M',rfl,g1,g2,g4,g5,g6,g7⟩:=h'
  rw [h1] at g1;cases g1
  have:=h4.uniq g4;subst this
  have:u=u':=zMu (h5.symm.trans g5) (h6.2.trans g6.2.symm)
  subst this
  rw [Rep.uniq q u M M' h7 g7]
 | .omap es,v,L,L',h,h'=>by
  obtain ⟨b,ents,rfl,h1,h3,h4⟩:=h
  obtain ⟨b',ents',rfl,g1,g3,g4⟩:=h'
  rw [h1] at g1;cases g1;rfl
 | .agg cs,v,L,L',h,h'=>by
  obtain ⟨vs,rfl,h⟩:=h
  obtain ⟨vs',g1,h'⟩:=h'
  cases g1;exact zA1.uniq cs _ L L' h h'
 | .tup cs,v,L,L',h,h'=>by
  obtain ⟨vs,rfl,h⟩:=h
  obtain ⟨vs',g1,h'⟩:=h'
  cases g1;exact zA1.uniq cs _ L L' h h'
 | .lock q,v,L,L',h,h'=>Rep.uniq q v L L' h h'
 | .bad,_,_,_,h,h'=>by rw [show _=_ from h,show _=_ from h']
 | .und,_,_,_,h,h'=>by rw [h.2,h'.2]
 | .int ..,_,_,_,h,h'=>by rw [h.2,h'.2]
 | .bool _,_,_,_,h,h'=>by rw [h.2,h'.2]
 | .nilp,_,_,_,h,h'=>by rw [h.2,h'.2]
 | .nilf,_,_,_,h,h'=>by rw [h.2,h'.2]
 | .nilm,_,_,_,h,h'=>by rw [h.2,h'.2]
 | .nn,_,_,_,h,h'=>by rw [h.1,h'.1]
 | .nils _,_,_,_,h,h'=>by rw [h.2,h'.2]
 | .sl xs,_,_,_,h,h'=>by rw [h.1,h'.1]
 | .ref q,_,_,_,h,h'=>by rw [h.1,h'.1]
 | .map es,_,_,_,h,h'=>by rw [h.1,h'.1]
 | .func _ _ _,_,_,_,h,h'=>by rw [h.1,h'.1]
 | .addr ..,_,_,_,h,h'=>by rw [h.1,h'.1]
 | .bor ..,_,_,_,h,h'=>by rw [h.1,h'.1]
 | .bsl ..,_,_,_,h,h'=>by rw [h.1,h'.1]
 | .bmap ..,_,_,_,h,h'=>by rw [h.1,h'.1]
 | .yld _,_,_,_,h,h'=>by rw [h.1,h'.1]
 | .log ..,_,_,_,h,h'=>by rw [h.1,h'.1]
theorem zA1.uniq {A A':Al}:∀ (ps:List PV) (vs:List Value) (L L':List Nat),zA1 w Φ A ps vs L→zA1 w Φ' A' ps vs L'→L=L'
 | [],_,_,_,h,h'=>by rw [h.2,h'.2]
 | p::ps,vs,L,L',h,h'=>by
  obtain ⟨v,vs',L1,L2,rfl,rfl,h1,h2⟩:=h
  obtain ⟨v',vs'',M1,M2,g0,rfl,g1,g2⟩:=h'
  cases g0
  rw [Rep.uniq p v L1 M1 h1 g1,zA1.uniq ps vs' L2 M2 h2 g2]
end
end
theorem zHK {w:World} {Φ Φ':Nat→Prop} {A A':Al} (hΦ:∀ b,Φ b→Φ' b) {x:PV} {xv:Value} {Lx:List Nat} (hx:Rep w Φ A x xv Lx) (hL:∀ b∈Lx,Φ' b) {z lo n:Nat} {v:Value}
  (ha:∀ sz xs,x = .own sz xs→z=sz∧zBW v xv sz lo n):Rep w Φ' A' (zC8 lo n x) v []:=by
 cases x<;>try rfl
 rename_i sz xs
 simp only [zC8]
 by_cases yI:lo+n≤xs.length
 ·rw [Nat.ble_eq_true_of_le yI];simp only [cond_true]
  obtain ⟨_,hs⟩:=ha sz xs rfl
  obtain ⟨h1,h2,h3⟩ | ⟨a,m,c,us,M,rfl,h1,h2,h3,h4,h5,h6,h7,h8,h9⟩:=hx
  ·subst h1;subst h3
   have hn:n=0:=by simp at yI;omega
   subst hn
   refine ⟨rfl,.inl ⟨by simp [zAx],none,0,hs.1,fun _=>rfl⟩⟩
  ·subst h1
   obtain ⟨rfl,yO⟩:=hs
   have yt:us.length=xs.length:=by have:=congrArg List.length h7.2;simpa using this
   by_cases hn:n=0
   ·subst hn;exact ⟨rfl,.inl ⟨by simp [zAx],_,_,rfl,fun h=>by cases h⟩⟩
   ·refine ⟨rfl,.inr ⟨zAy a (lo*sz),m-lo,c,(us.drop lo).take n,sz,?_,rfl,?_,hL _ (by simp [zAy]),h4.any,?_,⟨?_,?_⟩,?_,?_⟩⟩
    ·rw [zBm,show ((xs.drop lo).take n).length=n by simp;omega]
    ·rw [zBm];simp;omega
    ·intro y hy
     rw [zCu] at hy
     obtain ⟨y,uZ,rfl⟩:=List.mem_map.1 hy
     rw [zC1];exact h6 y (List.mem_of_mem_drop (List.mem_of_mem_take uZ))
    ·intro u hu;exact h7.1 u (List.mem_of_mem_drop (List.mem_of_mem_take hu))
    ·rw [zG6];exact zA1.map_isAgg h7.2 lo n
    ·rw [zBm,show ((xs.drop lo).take n).length=n by simp;omega]
     exact zIk h7.1 yt h8 (by omega)
    ·have e:zAx ((xs.drop lo).take n)=((zAx xs).drop lo).take n:=by rw [zCu,zCu,List.map_take,List.map_drop]
     rw [e]
     exact zBS (zDm hΦ xs us M (fun b hb=>hL b (by simp [hb])) h9) lo n
 ·have:Nat.ble (lo+n) xs.length=false:=by
   cases hb:Nat.ble (lo+n) xs.length with
   | false=>rfl
   | true=>exact absurd (Nat.le_of_ble_eq_true hb) yI
  rw [this];rfl
theorem zGK {w:World} {Φ Φ':Nat→Prop} {A A':Al} (hΦ:∀ b,Φ b→Φ' b) {x:PV} {xv:Value} {Lx:List Nat} (hx:Rep w Φ A x xv Lx) (hL:∀ b∈Lx,Φ' b) {v:Value}
  (ha:∀ es,x = .omap es→v=xv):Rep w Φ' A' (zEx x) v []:=by
 cases x<;>try rfl
 rename_i es
 obtain ⟨b,ents,rfl,h1,h3,h4⟩:=hx
 refine ⟨rfl,b,ents,(ha es rfl).trans h1,hL _ (by simp),h3,zD8.same (fun b hb=>⟨hΦ b hb,rfl⟩) es _ _ h4⟩
section
variable {w:World} {Φ Φ':Nat→Prop}
mutual
theorem Rep.ways {A A':Al}:∀ (p:PV) (v:Value) (L:List Nat),(∀ a v,a.isWay=true→(∀ x∈a.ways,x∈p.ways)→A a v→A' a v)→Rep w Φ A p v L→Rep w Φ A' p v L
 | .bad,_,_,_,h=>h
 | .und,_,_,_,h=>h
 | .int ..,_,_,_,h=>h
 | .bool _,_,_,_,h=>h
 | .nilp,_,_,_,h=>h
 | .nilf,_,_,_,h=>h
 | .nilm,_,_,_,h=>h
 | .nn,_,_,_,h=>h
 | .nils _,_,_,_,h=>h
 | .agg cs,v,L,hA,h=>by
  obtain ⟨vs,rfl,h⟩:=h
  exact ⟨vs,rfl,zA1.ways cs _ L (fun a v hw hx ha=>hA a v hw hx ha) h⟩
 | .tup cs,v,L,hA,h=>by
  obtain ⟨vs,rfl,h⟩:=h
  exact ⟨vs,rfl,zA1.ways cs _ L (fun a v hw hx ha=>hA a v hw hx ha) h⟩
 | .sl xs,_,_,_,h=>h
 | .own sz xs,_,_,_,h=>h
 | .ref q,v,L,hA,h=>by
  obtain ⟨rfl,a,c,u,h1,h2,h3,h4,h5,h6,h7⟩:=h
  exact ⟨rfl,a,c,u,h1,h2,h3,h4,h5,h6,Rep.ways q u [] (fun a v hw hx ha=>hA a v hw hx ha) h7⟩
 | .box q,v,L,hA,h=>by
  obtain ⟨a,c,u,L',h0,h1,h2,h4,h5,h6,h7⟩:=h
  exact ⟨a,c,u,L',h0,h1,h2,h4,h5,h6,Rep.ways q u L' (fun a v hw hx ha=>hA a v hw hx ha) h7⟩
 | .map es,_,_,_,h=>h
 | .omap es,_,_,_,h=>h
 | .func g a b,v,L,hA,h=>by
  obtain ⟨rfl,fs,cs,h1,h2,h3⟩:=h
  exact ⟨rfl,fs,cs,h1,zA1.ways a _ [] (fun x v hw hx ha=>hA x v hw (fun y hy=>List.mem_append.2 (.inl (hx y hy))) ha) h2,zA1.ways b _ [] (fun x v hw hx ha=>hA x v hw (fun y hy=>List.mem_append.2 (.inr (hx y hy))) ha) h3⟩
 | .addr ..,v,L,hA,h=>⟨h.1,hA _ _ rfl (fun _ h=>h) h.2⟩
 | .bor ..,v,L,hA,h=>⟨h.1,hA _ _ rfl (fun _ h=>h) h.2⟩
 | .bsl ..,v,L,hA,h=>⟨h.1,hA _ _ rfl (fun _ h=>h) h.2⟩
 | .bmap ..,v,L,hA,h=>⟨h.1,hA _ _ rfl (fun _ h=>h) h.2⟩
 | .lock q,v,L,hA,h=>Rep.ways q v L (fun a v hw hx ha=>hA a v hw hx ha) h
 | .yld _,v,L,hA,h=>h
 | .log ..,v,L,hA,h=>⟨h.1,hA _ _ rfl (fun _ h=>h) h.2⟩
theorem zA1.ways {A A':Al}:∀ (ps:List PV) (vs:List Value) (L:List Nat),(∀ a v,a.isWay=true→(∀ x∈a.ways,x∈zBB ps)→A a v→A' a v)→zA1 w Φ A ps vs L→zA1 w Φ A' ps vs L
 | [],_,_,_,h=>h
 | p::ps,vs,L,hA,h=>by
  obtain ⟨v,vs',L1,L2,h0,h1,h2,h3⟩:=h
  exact ⟨v,vs',L1,L2,h0,h1,Rep.ways p v L1 (fun a v hw hx ha=>hA a v hw (fun y hy=>List.mem_append.2 (.inl (hx y hy))) ha) h2,zA1.ways ps vs' L2 (fun a v hw hx ha=>hA a v hw (fun y hy=>List.mem_append.2 (.inr (hx y hy))) ha) h3⟩
end
mutual
theorem zGu:∀ p:PV,∀ x∈(zAZ p).ways,x∈p.ways
 | .agg cs,x,h=>zGM cs x h
 | .box q,x,h=>zGu q x h
 | .own ..,x,h=>by cases h
 | .omap _,x,h=>by cases h
 | .tup _,x,h=>by cases h
 | .lock _,x,h=>by cases h
 | .bad,_,h=>h
 | .und,_,h=>h
 | .int ..,_,h=>h
 | .bool _,_,h=>h
 | .nilp,_,h=>h
 | .nilf,_,h=>h
 | .nilm,_,h=>h
 | .nn,_,h=>h
 | .nils _,_,h=>h
 | .sl _,_,h=>h
 | .ref _,_,h=>h
 | .map _,_,h=>h
 | .func ..,_,h=>h
 | .addr ..,_,h=>h
 | .bor ..,_,h=>h
 | .bsl ..,_,h=>h
 | .bmap ..,_,h=>h
 | .yld _,_,h=>h
 | .log ..,_,h=>h
theorem zGM:∀ ps:List PV,∀ x∈zBB (zAx ps),x∈zBB ps
 | [],_,h=>h
 | p::ps,x,h=>by
  simp only [zAx,zBB,List.mem_append] at h ⊢
  rcases h with h | h
  ·exact .inl (zGu p x h)
  ·exact .inr (zGM ps x h)
end
theorem zJC (p:PV):(zAZ p).oneCell=p.oneCell:=by cases p<;>rfl
theorem zDT (ag:Bool) (sz:Nat):∀ (m:Nat) (cs:List PV),(zCg ag sz m cs).length=m
 | 0,_=>rfl
 | m+1,cs=>by simp [zCg,zDT ag sz m]
theorem zFX {A:Al} (hA:∀ a v,a.isWay=true→A a v→v.oneCell'=true) {ag:Bool} {sz:Nat}:∀ (m:Nat) (ps:List PV) (us:List Value),ps.length=m*sz→(ag=false→sz=1∧∀ q∈ps,q.oneCell=true)→zA1 w Φ A ps us [] →
  ∃ us',zA1 w Φ A (zCg ag sz m ps) us' []∧flat us'=us∧(∀ u∈us',u.cells.size=sz)∧us'.map zCh=(zCg ag sz m ps).map PV.isAgg∧∀ x∈zCg ag sz m ps,x.cells.length=sz
 | 0,ps,us,hl,_,h=>by
  have:ps=[]:=List.eq_nil_of_length_eq_zero (by simpa using hl)
  subst this
  exact ⟨[],⟨rfl,rfl⟩,by rw [h.1];rfl,by simp,rfl,by simp [zCg]⟩
 | m + 1,ps,us,hl,ho,h=>by
  have yt:=h.length
  rw [Nat.succ_mul] at hl
  have h1:zA1 w Φ A (ps.take sz) (us.take sz) []:=by simpa using zBS h 0 sz
  have h2:zA1 w Φ A (ps.drop sz) (us.drop sz) []:=by
   have:=zBS h sz (ps.length-sz)
   rwa [List.take_of_length_le (by simp),List.take_of_length_le (by simp;omega)] at this
  obtain ⟨us',h3,h4,h5,h6,h7⟩:=zFX hA (ag:=ag) (sz:=sz) m (ps.drop sz) (us.drop sz) (by simp;omega) (fun jX=>⟨(ho jX).1,fun q hq=>(ho jX).2 q (List.mem_of_mem_drop hq)⟩) h2
  cases ag with
  | true =>
   refine ⟨.agg (us.take sz).toArray::us',⟨_,us',[],[],rfl,rfl,⟨_,rfl,by simpa using h1⟩,h3⟩,?_,?_,?_,?_⟩
   ·rw [zCH,h4];simp [Value.cells]
   ·intro u hu
    rcases List.mem_cons.1 hu with rfl | hu
    ·simp [Value.cells];omega
    ·exact h5 u hu
   ·simp only [zCg,cond_true,List.map_cons,h6];rfl
   ·intro x hx
    simp only [zCg,cond_true] at hx
    rcases List.mem_cons.1 hx with rfl | hx
    ·simp [PV.cells];omega
    ·exact h7 x hx
  | false =>
   obtain ⟨u5,yJ⟩:=ho rfl
   subst u5
   match ps,us,h,yJ,hl with
   | p :: ps,us,h,yJ,hl =>
    obtain ⟨v,vs',L1,L2,rfl,hL,g1,g2⟩:=h
    obtain ⟨rfl,rfl⟩:L1=[]∧L2=[]:=by simpa using hL.symm
    have hp:=yJ p (by simp)
    have k1:=zBH (zB7 hA g1 hp)
    have k2:=zBl hp
    refine ⟨v::us',⟨v,us',[],[],rfl,rfl,g1,h3⟩,?_,?_,?_,?_⟩
    ·rw [zCH,h4,k1.1];simp
    ·intro u hu
     rcases List.mem_cons.1 hu with rfl | hu
     ·rw [k1.1];rfl
     ·exact h5 u hu
    ·simp only [zCg,cond_false,List.headD_cons,List.map_cons,k1.2,k2.2]
     congr 1
    ·intro x hx
     simp only [zCg,cond_false,List.headD_cons] at hx
     rcases List.mem_cons.1 hx with rfl | hx
     ·rw [k2.1];rfl
     ·exact h7 x hx
end
section
variable {w:World} {Φ Φ':Nat→Prop} {rv:Nat→Value} {E E':Nat→PV} {A:Al}
theorem zGn {ps:List PV} {us:List Value} {Lx:List Nat} (h:zA1 w Φ A ps us Lx) (c n:Nat):∃ Ly,(∀ b∈Ly,b∈Lx)∧zA1 w Φ A ((ps.drop c).take n) ((us.drop c).take n) Ly:=by
 induction ps generalizing us Lx c n with
 | nil=>rw [h.1];exact ⟨[],by simp,by simp [zA1]⟩
 | cons p ps ih =>
  obtain ⟨v,vs',L1,L2,rfl,rfl,g1,g2⟩:=h
  cases c with
  | succ c=>obtain ⟨Ly,h1,h2⟩:=ih g2 c n;exact ⟨Ly,fun b hb=>by simp [h1 b hb],by simpa using h2⟩
  | zero =>
   cases n with
   | zero=>exact ⟨[],by simp,by simp [zA1]⟩
   | succ n =>
    obtain ⟨Ly,h1,h2⟩:=ih g2 0 n
    exact ⟨L1++Ly,fun b hb=>by rcases List.mem_append.1 hb with h | h;simp [h];simp [h1 b h],v,_,L1,Ly,rfl,rfl,g1,by simpa using h2⟩
end
section
variable {w:World} {Φ Φ':Nat→Prop} {rv:Nat→Value} {E E':Nat→PV}
theorem zIs {a:PV} {v:Value} (hw:a.isWay=true) (h:zA6 w rv E a v):a.ways≠[]:=by
 cases a<;>first | (cases hw;done) | exact h.elim | simp [PV.ways]
theorem zGS {A A':Al} (gy:∀ a v,a.isWay=true→A a v→a.ways≠[]) (hΦ:∀ b,Φ b→Φ' b) {x:PV} {xv:Value} {Li:List Nat} (vU:Rep w Φ A x xv Li) (jR:∀ b∈Li,Φ' b) {i c sz m cap:Nat} {ag:Bool} {v:Value} {ad:Addr}
  (hv:v = .slice (some ad) m cap) (yO:m≤cap) (hn:∀ a',zA7 xv x i c=some a'→ad=a'):Rep w Φ' A' (zCp i c sz ag m x) v []:=by
 simp only [zCp]
 cases hh:zBa x with
 | none=>rfl
 | some xs =>
  simp only
  cases hi:xs[i]? with
  | none=>rfl
  | some y =>
   simp only
   cases hc:(zCi ag sz m ((y.cells.drop c).take (m*sz))&&(zBB y.cells).isEmpty) with
   | false=>rfl
   | true =>
    simp only [cond_true]
    simp only [Bool.and_eq_true,zCi] at hc
    obtain ⟨⟨yL,qa⟩,hcw⟩:=hc
    have yL:=Nat.eq_of_beq_eq_true yL
    obtain ⟨ux,row,ad0,Lx,k1,k2,k3,k4,k5,k6,k7,k8,k9⟩:=zK9 vU hh hi
    have yz:=hn _ (k5 c)
    subst yz
    have k9':=k9.mono (A':=A) zDf.refl (fun _ _ _ h=>zFL h) (fun _ _=>rfl)
    have zBa:=k9'.cellsAll k7
    have wO:zA1 w Φ zCj y.cells ux.cells.toList Lx:=zBa.ways _ _ _ fun a v hw hx ha=>by
     have h0:zBB y.cells=[]:=by simpa using hcw
     rw [h0] at hx
     have h1:=gy a v hw ha
     cases u6:a.ways with
     | nil=>exact absurd u6 h1
     | cons z zs=>have:=hx z (by rw [u6];simp);cases this
    obtain ⟨Ly,hly,wP⟩:=zGn wO c (m*sz)
    have vV:=zDm hΦ _ _ Ly (fun b hb=>jR b (k4 b (hly b hb))) wP
    obtain ⟨us',q1,q2,q3,q4,q5⟩:=zFX (ag:=ag) (sz:=sz) (fun a v _ h=>h.elim) m _ _ (by rw [zBm];exact yL) (fun jX=>by
     simp only [jX,Bool.false_or,Bool.and_eq_true] at qa
     refine ⟨Nat.eq_of_beq_eq_true qa.1,fun q hq=>?_⟩
     rw [zCu] at hq
     obtain ⟨q0,hq0,rfl⟩:=List.mem_map.1 hq
     rw [zJC];exact List.all_eq_true.1 qa.2 q0 hq0) vV
    have qb:(zCg ag sz m (zAx ((y.cells.drop c).take (m*sz)))).length=m:=zDT _ _ _ _
    by_cases hm:m=0
    ·subst hm;exact ⟨rfl,.inl ⟨rfl,_,_,hv,fun h=>by cases h⟩⟩
    ·refine ⟨rfl,.inr ⟨zAy ad0 c,cap,row,us',sz,by rw [qb];exact hv,rfl,by rw [qb];exact yO,jR _ k1,k3.any,q5,⟨q3,q4⟩,?_,q1⟩⟩
     rw [qb,q2]
     by_cases qc:m*sz=0
     ·rw [qc];simp [seg]
     ·have:c+m*sz≤y.cells.length:=by simp at yL;omega
      exact k6 c (m*sz) this
end
theorem zIg (r:Nat) (pre:zAT) (q:PV):Tame (inl r pre q):=by
 have h1 : ∀ i c sh x,(zDs i c sh x).isAgg=false∧(zDs i c sh x).dull=true:=by
  intro i c sh x
  simp only [zDs]
  split
  ·split
   ·split
    ·cases (Nat.ble _ _&&PV.isAgg _)<;>exact ⟨rfl,rfl⟩
    ·split
     ·rename_i q _;cases q.oneCell<;>exact ⟨rfl,rfl⟩
     ·exact ⟨rfl,rfl⟩
   ·exact ⟨rfl,rfl⟩
  ·exact ⟨rfl,rfl⟩
 have h2:∀ lo n x,(zC8 lo n x).isAgg=false∧(zC8 lo n x).dull=true:=by
  intro lo n x
  cases x<;>try exact ⟨rfl,rfl⟩
  simp only [zC8];cases Nat.ble _ _<;>exact ⟨rfl,rfl⟩
 have h5:∀ i c sz ag m x,(zCp i c sz ag m x).isAgg=false∧(zCp i c sz ag m x).dull=true:=by
  intro i c sz ag m x
  simp only [zCp]
  split
  ·split
   ·cases (zCi ag sz m _&&_)<;>exact ⟨rfl,rfl⟩
   ·exact ⟨rfl,rfl⟩
  ·exact ⟨rfl,rfl⟩
 have h3:∀ x,(zEx x).isAgg=false∧(zEx x).dull=true:=by intro x;cases x<;>exact ⟨rfl,rfl⟩
 have h4:∀ (o:Option PV) (f:PV→PV),(∀ x,(f x).isAgg=false∧(f x).dull=true)→(zHF o f).isAgg=false∧(zHF o f).dull=true:=by
  intro o f hf;cases o with
  | none=>exact ⟨rfl,rfl⟩
  | some x=>exact hf x
 constructor
 ·intro p
  cases p<;>try rfl
  all_goals
   rename_i a b
   simp only [inl]
   cases zAQ r pre _ _<;>first | rfl | exact (h4 _ _ (h1 _ _ _)).1 | exact (h4 _ _ (h2 _ _)).1 | exact (h4 _ _ h3).1 | exact (h4 _ _ (h5 _ _ _ _ _)).1
 ·intro p hp
  cases p<;>first | (cases hp;done) | skip
  all_goals
   first | rfl | skip
  all_goals
   simp only [inl]
   cases zAQ r pre _ _<;>first | rfl | exact (h4 _ _ (h1 _ _ _)).2 | exact (h4 _ _ (h2 _ _)).2 | exact (h4 _ _ h3).2 | exact (h4 _ _ (h5 _ _ _ _ _)).2
theorem zBM {w:World} {Φ:Nat→Prop} {A:Al} {p:PV} {v:Value} {L:List Nat} (h:Rep w Φ A p v L) {pre:zAT} {q:PV} (hq:zAz p pre=some q) :
  ∃ nv Li,zAR w v p pre=some (nv,q)∧(∀ b∈Li,b∈L)∧Rep w Φ (zH9 A p pre) q nv Li:=by
 obtain ⟨nv,La,Li,Lb,h1,h2,h3,_⟩:=Rep.zip pre h hq
 exact ⟨nv,Li,h1,fun b hb=>by rw [h2];simp [hb],h3⟩
theorem zD1 {r r':Nat} {pre q:zAT}:zAQ r pre r' q=true↔r'=r∧∃ rest,q=pre++rest:=by
 simp only [zAQ,Bool.and_eq_true,List.isPrefixOf_iff_prefix]
 constructor
 ·rintro ⟨h1,rest,h2⟩;exact ⟨Nat.eq_of_beq_eq_true h1,rest,h2.symm⟩
 ·rintro ⟨rfl,rest,h2⟩;exact ⟨Nat.beq_refl _,rest,h2.symm⟩
section
variable {w w0:World} {U Φ0 Φ:Nat→Prop} {rv:Nat→Value} {E:Nat→PV} {L:Nat→List Nat}
theorem Conf.ice (h:Conf w0 U Φ0 w Φ rv E L) (M:Nat→Bool) {r:Nat} (hr:r<zAd) {pre:zAT} {q root':PV} (jH:(E r).unlock=E r) (hn:zAz (E r) pre=some q)
  (hm:zAr (fun _=>some (zAZ q)) (E r) pre=some root') (yF:root'.unlock=root') :
  ∃ nv Li L',zAR w (rv r) (E r) pre=some (nv,q)∧Rep w Φ (zH9 (zA6 w rv E) (E r) pre) q nv Li∧(∀ s,s≠r→L' s=L s) ∧
   Conf w0 U Φ0 w (fun b=>Φ b∨b∈Li) rv (fun s=>if s<zAd∨M s=true then (if s=r then root' else E s).mapW (inl r pre q) else E s) L':=by
 obtain ⟨nv,La,Li,Lb,uV,hL,hH,vS,kz⟩:=Rep.zip pre (h.rep r) hn
 have hΦ:∀ b,Φ b→Φ b∨b∈Li:=fun b hb => .inl hb
 have u7:=zIg r pre q
 have yQ:=h.nodup r
 rw [hL] at yQ
 simp only [List.nodup_append] at yQ
 have ur:∀ b∈Li,b∉La++Lb:=by
  intro b hb jN
  rcases List.mem_append.1 jN with h2 | h2
  ·exact yQ.1.2.2 b h2 b hb rfl
  ·exact yQ.2.2 b (by simp [hb]) b h2 rfl
 have hK:∀ a u,zA6 w rv E a u→zA6 w rv (fun s=>if s<zAd∨M s=true then (if s=r then root' else E s).mapW (inl r pre q) else E s) a u:=by
  intro a u ha
  have yK:=zCP ha
  refine ha.mono fun nv2 np2 jW hh=>?_
  simp only [yK,true_or,if_true] at jW
  rw [zDn u7] at jW
  obtain ⟨np1,vM,qd⟩:=zCN u7 jW hh
  by_cases js:(zA8 a).1=r
  ·rw [js] at vM ⊢
   simp only [if_true,yF] at vM
   rcases kz w (zAZ q) root' (fun _ _=>rfl) (fun _=>zC0 q) hm _ nv2 np1 vM (zDC qd) with ⟨rest,_,h2⟩ | ⟨np0,h1,h2⟩
   ·have:=zHJ h2
    rw [zDC qd] at this;cases this
   ·rw [jH];exact ⟨np0,h1,h2.trans qd⟩
  ·simp only [js,if_false] at vM
   exact ⟨np1,vM,qd⟩
 have hw1:∀ a v,a.isWay=true→zH9 (zA6 w rv E) (E r) pre a v→zA6 w rv (fun s=>if s<zAd∨M s=true then (if s=r then root' else E s).mapW (inl r pre q) else E s) a v:=fun a v _ ha=>hK a v (zEr ha)
 have hA : ∀ a u,a.isWay=true→zA6 w rv E a u→Rep w (fun b=>Φ b∨b∈Li) (zA6 w rv (fun s=>if s<zAd∨M s=true then (if s=r then root' else E s).mapW (inl r pre q) else E s)) (inl r pre q a) u []:=by
  intro a u uX ha
  have node:∀ rest x,zAz q rest=some x→∃ xv Lx,zAR w (rv r) (E r).unlock (pre++rest)=some (xv,x)∧(∀ b∈Lx,b∈Li)∧Rep w Φ (zH9 (zH9 (zA6 w rv E) (E r) pre) q rest) x xv Lx:=by
   intro rest x hx
   obtain ⟨xv,Lx,h1,h2,h3⟩:=zBM hH hx
   exact ⟨xv,Lx,by rw [jH,zC9,uV];exact h1,h2,h3⟩
  have ho1:∀ rest a v,a.isWay=true→zH9 (zH9 (zA6 w rv E) (E r) pre) q rest a v→v.oneCell'=true:=fun rest a v hw h=>zCW hw (zEr (zEr h))
  cases a<;>first | (cases uX;done) | skip
  case addr r' p i c sh =>
   simp only [inl]
   cases hu:zAQ r pre r' p with
   | false=>exact ⟨rfl,hK _ _ ha⟩
   | true =>
    obtain ⟨rfl,rest,rfl⟩:=zD1.1 hu
    simp only [cond_true,List.drop_left]
    cases hg:zAz q rest with
    | none=>rfl
    | some x =>
     obtain ⟨xv,Lx,h1,h2,h3⟩:=node rest x hg
     obtain ⟨_,a',h4,h5,h6⟩:=ha
     exact zO8 (ho1 rest) hΦ (fun a v hw h=>hw1 a v hw (zEr h)) h3 (fun b hb => .inr (h2 b hb)) h4 fun a'' qe=>h6 xv x h1 a'' qe
  case bor r' p z lo n =>
   simp only [inl]
   cases hu:zAQ r pre r' p with
   | false=>exact ⟨rfl,hK _ _ ha⟩
   | true =>
    obtain ⟨rfl,rest,rfl⟩:=zD1.1 hu
    simp only [cond_true,List.drop_left]
    cases hg:zAz q rest with
    | none=>rfl
    | some x =>
     obtain ⟨xv,Lx,h1,h2,h3⟩:=node rest x hg
     obtain ⟨_,_,h6⟩:=ha
     exact zHK hΦ h3 (fun b hb => .inr (h2 b hb)) fun sz xs hx=>by
      subst hx
      obtain ⟨sz',xs',h7,h8,h9⟩:=h6 xv _ h1 rfl
      cases h7;exact ⟨h8,h9⟩
  case bsl r' p i c sz ag n =>
   simp only [inl]
   cases hu:zAQ r pre r' p with
   | false=>exact ⟨rfl,hK _ _ ha⟩
   | true =>
    obtain ⟨rfl,rest,rfl⟩:=zD1.1 hu
    simp only [cond_true,List.drop_left]
    cases hg:zAz q rest with
    | none=>rfl
    | some x =>
     obtain ⟨xv,Lx,h1,h2,h3⟩:=node rest x hg
     obtain ⟨_,a',cap,h4,yO,h5,h6⟩:=ha
     exact zGS (fun a v hw h=>zIs hw (zEr (zEr h))) hΦ h3 (fun b hb => .inr (h2 b hb)) h4 yO fun a'' qe=>h6 xv x h1 a'' qe
  case bmap r' p =>
   simp only [inl]
   cases hu:zAQ r pre r' p with
   | false=>exact ⟨rfl,hK _ _ ha⟩
   | true =>
    obtain ⟨rfl,rest,rfl⟩:=zD1.1 hu
    simp only [cond_true,List.drop_left]
    cases hg:zAz q rest with
    | none=>rfl
    | some x =>
     obtain ⟨xv,Lx,h1,h2,h3⟩:=node rest x hg
     obtain ⟨_,_,h6⟩:=ha
     exact zGK hΦ h3 (fun b hb => .inr (h2 b hb)) fun es hx=>h6 xv x h1 es hx
  case log=>exact ha.elim
 have hs:zDf w w Φ (fun b=>Φ b∨b∈Li):=fun b hb=>⟨.inl hb,rfl⟩
 have yV:∀ b,b∈La++Lb→b∈L r:=fun b hb=>by rw [hL];simp at hb ⊢;rcases hb with h | h<;>simp [h]
 refine ⟨nv,Li,fun s=>if s=r then La++Lb else L s,uV,hH,fun s hs=>by simp [hs],?_,?_,?_,?_,?_,fun b hb => .inl (h.frz0 b hb),h.size,h.kept,h.os,h.tape,h.output⟩
 ·intro s
  by_cases yW:s=r
  ·subst yW
   simp only [if_true,hr,true_or]
   have h1:=vS w (fun b=>Φ b∨b∈Li) (zA6 w rv E) (zAZ q) [] root' (fun _ _ _ h=>h) hs (fun _ _=>rfl) (fun _=>zC0 q) (zDU hΦ q nv Li (fun b hb => .inr hb) hH) hm
   exact Rep.map u7.agg zDf.refl hA _ _ _ (fun _ _=>rfl) (by simpa using h1)
  ·by_cases y5:s<zAd∨M s=true
   ·simp only [yW,y5,if_false,if_true]
    exact Rep.map u7.agg hs hA _ _ _ (fun _ _=>rfl) (h.rep s)
   ·simp only [yW,y5,if_false]
    exact (h.rep s).mono hs (fun a u _ ha=>hK a u ha) (fun _ _=>rfl)
 ·intro s
  by_cases yW:s=r
  ·subst yW
   simp only [if_true,List.nodup_append]
   exact ⟨yQ.1.1,yQ.2.1,fun a ha b hb e=>yQ.2.2 a (by simp [ha]) b hb e⟩
  ·simp only [yW,if_false];exact h.nodup s
 ·intro s s' hI b hb yE
  by_cases yW:s=r
  ·subst yW
   simp only [if_true] at hb
   rw [if_neg (Ne.symm hI)] at yE
   exact h.disj s s' hI b (yV b hb) yE
  ·rw [if_neg yW] at hb
   by_cases LA:s'=r
   ·subst LA
    simp only [if_true] at yE
    exact h.disj s s' hI b hb (yV b yE)
   ·rw [if_neg LA] at yE;exact h.disj s s' hI b hb yE
 ·intro s b hb
  have jC:∃ t,b∈L t∧b∉Li:=by
   by_cases yW:s=r
   ·subst yW
    simp only [if_true] at hb
    exact ⟨s,yV b hb,fun uW=>ur b uW hb⟩
   ·rw [if_neg yW] at hb
    exact ⟨s,hb,fun uW=>h.disj s r yW b hb (by rw [hL];simp [uW])⟩
  obtain ⟨t,h1,h2⟩:=jC
  obtain ⟨h3,h4,h5⟩:=h.own t b h1
  exact ⟨h3,fun hp=>hp.elim h4 h2,h5⟩
 ·intro b hb
  rcases hb with hb | hb
  ·exact h.frz b hb
  ·obtain ⟨h3,h4,h5⟩:=h.own r b (by rw [hL];simp [hb])
   exact ⟨h3,.inr h5⟩
end
end Go.Eng
namespace Go.Eng
open Go
theorem Env.get_set (e:Env) (s:Nat) (p:PV) (t:Nat):(e.set s p).get t=if t=s then p else e.get t:=by
 induction e with
 | nil =>
  simp only [Env.set,Env.get]
  by_cases h:t=s
  ·subst h;simp
  ·have:Nat.beq s t=false:=by
    cases hb:Nat.beq s t with
    | false=>rfl
    | true=>exact absurd (Nat.eq_of_beq_eq_true hb).symm h
   simp [this,h]
 | cons x e ih =>
  obtain ⟨k,v⟩:=x
  simp only [Env.set]
  cases hk:Nat.beq k s with
  | true =>
   have:=Nat.eq_of_beq_eq_true hk;subst this
   simp only [cond_true,Env.get]
   by_cases h:t=k
   ·subst h;simp
   ·have:Nat.beq k t=false:=by
     cases hb:Nat.beq k t with
     | false=>rfl
     | true=>exact absurd (Nat.eq_of_beq_eq_true hb).symm h
    simp [this,h]
  | false =>
   have hI:k≠s:=fun h=>by subst h;simp at hk
   simp only [cond_false]
   cases Nat.ble s k with
   | true =>
    simp only [cond_true,Env.get]
    by_cases h:t=s
    ·subst h;simp
    ·have:Nat.beq s t=false:=by
      cases hb:Nat.beq s t with
      | false=>rfl
      | true=>exact absurd (Nat.eq_of_beq_eq_true hb).symm h
     simp [this,h]
   | false =>
    simp only [cond_false,Env.get,ih]
    cases hb:Nat.beq k t with
    | true =>
     have:=Nat.eq_of_beq_eq_true hb;subst this
     simp [hI]
    | false=>rfl
theorem Env.get_map (e:Env) {g:PV→PV} (hg:g .bad = .bad) (s:Nat):Env.get (e.map fun x=>(x.1,g x.2)) s=g (e.get s):=by
 induction e with
 | nil=>simp [Env.get,hg]
 | cons x e ih =>
  obtain ⟨k,v⟩:=x
  simp only [List.map_cons,Env.get,ih]
  cases Nat.beq k s<;>rfl
theorem Env.get_kill (e:Env) (r:Nat) (pre:zAT) (s:Nat):(e.kill r pre).get s=(e.get s).mapW (lose r pre):=Env.get_map e (g:=fun p=>p.mapW (lose r pre)) rfl s
theorem Env.get_killEx (e:Env) (r:Nat) (keep:List zAT) (s:Nat):(e.killEx r keep).get s=(e.get s).mapW (zBK r keep):=Env.get_map e (g:=fun p=>p.mapW (zBK r keep)) rfl s
theorem Env.get_drop (e:Env) (l:List Nat) (s:Nat):(e.drop l).get s=if zMq l s then .bad else e.get s:=by
 induction e with
 | nil=>simp [Env.drop,Env.get]
 | cons x e ih =>
  obtain ⟨k,v⟩:=x
  simp only [Env.drop] at ih ⊢
  simp only [List.filter_cons]
  by_cases hk:zMq l k=true
  ·simp only [hk,Bool.not_true,Bool.false_eq_true,if_false,ih,Env.get]
   cases hb:Nat.beq k s with
   | true=>have:=Nat.eq_of_beq_eq_true hb;subst this;simp [hk]
   | false=>rfl
  ·simp only [hk,Bool.not_false,if_true,Env.get,ih]
   cases hb:Nat.beq k s with
   | true=>have:=Nat.eq_of_beq_eq_true hb;subst this;simp [hk]
   | false=>rfl
theorem Env.frz_eq {e e':Env} {r:Nat} {pre:zAT} (h:e.frz r pre=some e') :
  ∃ q root,(e.get r).isLock=false∧zAz (e.get r) pre=some q∧zAr (fun _=>some (zAZ q)) (e.get r) pre=some root∧∀ s,e'.get s=(if s=r then root else e.get s).mapW (inl r pre q):=by
 simp only [Env.frz] at h
 cases hl:(e.get r).isLock with
 | true=>rw [hl] at h;cases h
 | false =>
 rw [hl] at h;simp only [cond_false] at h
 cases hq:zAz (e.get r) pre with
 | none=>rw [hq] at h;cases h
 | some q =>
  rw [hq] at h;simp only at h
  cases hm:zAr (fun _=>some (zAZ q)) (e.get r) pre with
  | none=>rw [hm] at h;cases h
  | some root =>
   rw [hm] at h;simp only [Option.some.injEq] at h
   subst h
   refine ⟨q,root,rfl,rfl,hm,fun s=>?_⟩
   rw [Env.get_map (e.set r root) (g:=fun p=>p.mapW (inl r pre q)) rfl s,Env.get_set]
structure Hid where
 val:Nat→Value
 ds:List Deferred
structure St (w0:World) (U Φ0:Nat→Prop) (nt:Nat) (hv:Hid) (a:Act) (w:World) (e:Env) (Φ:Nat→Prop) (rv:Nat→Value) (E:Nat→PV) (L:Nat→List Nat):Prop where
 conf:Conf w0 U Φ0 w Φ rv E L
 env:∀ s,s<zAd→E s=e.get s
 size:a.tmps.size=nt
 small:nt≤2000000
 tmps:∀ t,t<nt→a.tmps.getD t undef=rv t
 parts:∀ d ps i,d<nt→E d = .tup ps→i<ps.length→i<16∧∃ vs,rv d = .tuple vs∧vs[i]? = some (rv (zBr d i))
 hid:∀ s,zAl≤s→s<zAI→rv s=hv.val s
 dfr:a.defers=hv.ds
def Fr (w0:World) (U Φ0:Nat→Prop) (nt:Nat) (hv:Hid) (a:Act) (w:World) (e:Env):Prop :=
 ∃ Φ rv E L,St w0 U Φ0 nt hv a w e Φ rv E L∧∀ g,zAd≤g→E g = .bad
def zAW (nt:Nat):Operand→Bool
 | .tmp t=>Nat.blt t nt
 | _=>true
theorem zB2 {a b:Nat} (h:Nat.blt a b=true):a<b:=Nat.le_of_ble_eq_true h
section
variable {w0 w:World} {U Φ0 Φ:Nat→Prop} {nt:Nat} {hv:Hid} {a:Act} {e e':Env} {rv rv':Nat→Value} {E E':Nat→PV} {L L':Nat→List Nat} {o:zAL}
mutual
theorem zC3 {A:Al}:∀ (p:PV) (v:Value) (L:List Nat),p.heavy=false→Rep w Φ A p v L→L=[]
 | .own ..,_,_,hp,_=>by cases hp
 | .box _,_,_,hp,_=>by cases hp
 | .omap _,_,_,hp,_=>by cases hp
 | .lock _,_,_,hp,_=>by cases hp
 | .agg cs,_,_,hp,h=>by obtain ⟨vs,_,h⟩:=h;exact zHA cs _ _ hp h
 | .tup cs,_,_,hp,h=>by obtain ⟨vs,_,h⟩:=h;exact zHA cs _ _ hp h
 | .bad,_,_,_,h=>h
 | .und,_,_,_,h=>h.2
 | .int ..,_,_,_,h=>h.2
 | .bool _,_,_,_,h=>h.2
 | .nilp,_,_,_,h=>h.2
 | .nilf,_,_,_,h=>h.2
 | .nilm,_,_,_,h=>h.2
 | .nn,_,_,_,h=>h.1
 | .nils _,_,_,_,h=>h.2
 | .sl xs,_,_,_,h=>h.1
 | .ref q,_,_,_,h=>h.1
 | .map es,_,_,_,h=>h.1
 | .func _ _ _,_,_,_,h=>h.1
 | .addr ..,_,_,_,h=>h.1
 | .bor ..,_,_,_,h=>h.1
 | .bsl ..,_,_,_,h=>h.1
 | .bmap ..,_,_,_,h=>h.1
 | .yld _,_,_,_,h=>h.1
 | .log ..,_,_,_,h=>h.1
theorem zHA {A:Al}:∀ (ps:List PV) (vs:List Value) (L:List Nat),zCU ps=false→zA1 w Φ A ps vs L→L=[]
 | [],_,_,_,h=>h.2
 | p::ps,_,_,hp,h=>by
  simp only [zCU,Bool.or_eq_false_iff] at hp
  obtain ⟨v,vs',L1,L2,rfl,rfl,h1,h2⟩:=h
  rw [zC3 p v L1 hp.1 h1,zHA ps vs' L2 hp.2 h2];rfl
end
def zVM (E E':Nat→PV):Prop:=∀ d ps,d<2000000→E' d = .tup ps→∃ ps',E d = .tup ps'∧ps'.length=ps.length
theorem zVM.refl:zVM E E:=fun _ ps _ h=>⟨ps,h,rfl⟩
theorem zCY {f:PV→PV}:∀ ps:List PV,(zCF f ps).length=ps.length
 | []=>rfl
 | p::ps=>by simp [zCF,zCY ps]
theorem zDJ {f:PV→PV} (hf:∀ p,p.isWay=true→(f p).isTup=false) {p:PV} {ps:List PV} (h:p.mapW f = .tup ps):∃ ps',p = .tup ps'∧ps'.length=ps.length:=by
 cases hp:p.isWay with
 | true=>rw [zFQ hp] at h;have:=hf p hp;rw [h] at this;cases this
 | false =>
  cases p<;>first | (cases hp;done) | (simp [PV.mapW] at h;done) | skip
  simp only [PV.mapW,PV.tup.injEq] at h
  exact ⟨_,rfl,by rw [← h,zCY]⟩
theorem zIo (r:Nat) (pre:zAT) (p:PV) (hp:p.isWay=true):(lose r pre p).isTup=false:=by
 rcases zGx r pre p with h | ⟨_,h⟩
 ·rw [h];cases p<;>first | rfl | cases hp
 ·rw [h];rfl
theorem St.turn (S:St w0 U Φ0 nt hv a w e Φ rv E L) {w':World} {Φ':Nat→Prop} (hc:Conf w0 U Φ0 w' Φ' rv' E' L') (he:∀ s,s<zAd→E' s=e'.get s) (hr:∀ s,s<zAd→rv' s=rv s) (hE:zVM E E') :
  St w0 U Φ0 nt hv a w' e' Φ' rv' E' L':=by
 have hs:=S.small
 refine ⟨hc,he,S.size,S.small,fun t ht=>?_,fun d ps i hd hp hi=>?_,fun s h1 h2=>?_,S.dfr⟩
 ·rw [hr t (by simp only [zAd];omega)];exact S.tmps t ht
 ·obtain ⟨ps',h1,h2⟩:=hE d ps (by omega) hp
  obtain ⟨h3,vs,h4,h5⟩:=S.parts d ps' i hd h1 (by omega)
  refine ⟨h3,vs,?_,?_⟩
  ·rw [hr d (by simp only [zAd];omega)];exact h4
  ·rw [hr _ (by simp only [zBr,zAd];omega)];exact h5
 ·rw [hr s (by simp only [zAI,zAd] at *;omega)];exact S.hid s h1 h2
theorem zJa {A:Al} (v:Value):Rep w Φ A (zE4 v) v []:=by
 have key:∀ cs:List Value,zA1 w Φ A (cs.map fun | .int k n=>PV.int k n | .bool b => .bool b | _ => .bad) cs []:=by
  intro cs
  induction cs with
  | nil=>exact ⟨rfl,rfl⟩
  | cons c cs ih =>
   refine ⟨c,cs,[],[],rfl,rfl,?_,ih⟩
   cases c<;>first | exact ⟨rfl,rfl⟩ | rfl
 cases v with
 | slice x n c =>
  cases x with
  | some x=>cases n<;>cases c<;>rfl
  | none=>cases n<;>cases c<;>first | exact ⟨rfl,rfl⟩ | rfl
 | pointer x=>cases x<;>first | exact ⟨rfl,rfl⟩ | rfl
 | map x=>cases x<;>first | exact ⟨rfl,rfl⟩ | rfl
 | agg cs=>exact ⟨cs,rfl,key _⟩
 | _=>first | exact ⟨rfl,rfl⟩ | rfl
theorem zBD (S:St w0 U Φ0 nt hv a w e Φ rv E L) {x:Operand} (hx:zAW nt x=true) {k:PV→PM} (h:(opd x k).run o e=some e') :
  ∃ p,(k p).run o e=some e'∧Rep w Φ (zA6 w rv E) p (a.eval x) []:=by
 have hs:=S.small
 cases x with
 | tmp t =>
  have ht:=zB2 hx
  have yb:(t:Nat)<zAd:=Nat.lt_of_lt_of_le ht (Nat.le_trans S.small (by decide))
  refine ⟨_,h,?_⟩
  have:=S.conf.view yb
  rw [S.env t yb] at this
  simp only [Act.eval]
  rw [S.tmps t ht];exact this
 | const v=>exact ⟨_,h,zJa v⟩
 | func f=>exact ⟨_,h,rfl,#[],#[],rfl,⟨rfl,rfl⟩,⟨rfl,rfl⟩⟩
 | global g=>cases h
theorem zHt (S:St w0 U Φ0 nt hv a w e Φ rv E L):∀ {xs:List Operand},(∀ x∈xs,zAW nt x=true)→∀ {k:List PV→PM},(zR3 xs k).run o e=some e' →
  ∃ ps,(k ps).run o e=some e'∧zA1 w Φ (zA6 w rv E) ps (xs.map a.eval) []
 | [],_,k,h=>⟨[],h,rfl,rfl⟩
 | x::xs,hx,k,h=>by
  obtain ⟨p,h1,h2⟩:=zBD S (hx x (by simp)) h
  obtain ⟨ps,h3,h4⟩:=zHt S (fun y hy=>hx y (by simp [hy])) h1
  exact ⟨p::ps,h3,_,_,[],[],rfl,rfl,h2,h4⟩
def zUh (g:Nat) (rv rv':Nat→Value) (E E':Nat→PV) (L L':Nat→List Nat):Prop:=∀ s,zAd≤s→s≠g→E' s=E s∧rv' s=rv s∧L' s=L s
theorem St.hold (S:St w0 U Φ0 nt hv a w e Φ rv E L) {g:Nat} (hg:zAd≤g) {p:PV} {v:Value} (hr:Rep w Φ (zA6 w rv E) p v []):St w0 U Φ0 nt hv a w e Φ (upd rv g v) (upd E g p) (upd L g []):=by
 refine S.turn (S.conf.hold hg hr) (fun s hs=>?_) (fun s hs=>zAf (by omega)) fun d ps hd hp=>?_
 ·rw [zAf (by omega)];exact S.env s hs
 ·rw [zAf (by simp only [zAd] at hg;omega)] at hp;exact ⟨ps,hp,rfl⟩
theorem zHB (S:St w0 U Φ0 nt hv a w e Φ rv E L) {x:Operand} (hx:zAW nt x=true) {g:Nat} (hg:zAd≤g) {k:PV→PM} (h:(zOL x k).run o e=some e') :
  ∃ e1 rv1 E1 L1,(k (E1 g)).run o e1=some e'∧St w0 U Φ0 nt hv a w e1 Φ rv1 E1 L1∧rv1 g=a.eval x∧zUh g rv rv1 E E1 L L1:=by
 have kN:=S.small
 have light:∀ p,(k p).run o e=some e'→Rep w Φ (zA6 w rv E) p (a.eval x) []→∃ e1 rv1 E1 L1,(k (E1 g)).run o e1=some e'∧St w0 U Φ0 nt hv a w e1 Φ rv1 E1 L1∧rv1 g=a.eval x∧zUh g rv rv1 E E1 L L1:=by
  intro p h hr
  refine ⟨e,_,_,_,?_,S.hold hg hr,zAh,fun s _ hI=>⟨zAf hI,zAf hI,zAf hI⟩⟩
  rw [zAh];exact h
 cases x with
 | tmp t =>
  have ht:=zB2 hx
  have yb:(t:Nat)<zAd:=Nat.lt_of_lt_of_le ht (Nat.le_trans S.small (by decide))
  have hH:=S.conf.rep t
  rw [S.env t yb] at hH
  have vW:a.eval (.tmp t)=rv t:=S.tmps t ht
  simp only [zOL,PM.run] at h
  split at h
  ·cases h
  ·rename_i p _
   split at h
   ·rename_i hh
    simp only [PM.run] at h
    refine ⟨_,_,_,_,?_,S.turn (e':=e.set t .bad) (S.conf.take yb hg) (fun s hs=>?_) (fun s hs=>zAf (by omega)) (fun d ps hd hp=>?_),by rw [zAh,vW],fun s h1 h2=>?_⟩
    ·rw [zAh,S.env t yb];exact h
    ·rw [zAf (by omega),Env.get_set]
     by_cases h2:s=t
     ·subst h2;rw [zAh,if_pos rfl]
     ·rw [zAf h2,if_neg h2];exact S.env s hs
    ·rw [zAf (by simp only [zAd] at hg;omega)] at hp
     by_cases h2:d=t
     ·subst h2;rw [zAh] at hp;cases hp
     ·rw [zAf h2] at hp;exact ⟨ps,hp,rfl⟩
    ·have h3:s≠t:=by intro h;subst h;exact absurd yb (Nat.not_lt.2 h1)
     rw [zAf h2,zAf h2,zAf h2,zAf h3,zAf h3];exact ⟨rfl,rfl,rfl⟩
   ·rename_i hh
    simp only [Bool.not_eq_true] at hh
    have hL:=zC3 _ _ _ hh hH
    rw [hL] at hH
    exact light _ h (by rw [vW];exact hH)
 | const v=>exact light _ h (zJa v)
 | func f=>exact light _ h ⟨rfl,#[],#[],rfl,⟨rfl,rfl⟩,⟨rfl,rfl⟩⟩
 | global g=>cases h
theorem zQN (S:St w0 U Φ0 nt hv a w e Φ rv E L) {d g:Nat} (uU:d<zAd) (hg:zAd≤g) {k:PM} (h:(lay d (E g) k).run o e=some e') :
  ∃ e1 E1 L1,k.run o e1=some e'∧Conf w0 U Φ0 w Φ (upd rv d (rv g)) E1 L1∧(∀ s,s<zAd→E1 s=e1.get s)∧(∀ s,s≠d→s<zAd→E1 s=E s∨E1 s=(E s).mapW (lose d [])) ∧
   (E1 d=E g∨E1 d=(E g).mapW (lose d []))∧E1 g = .bad∧∀ s,zAd≤s→s≠g→E1 s=E s∨E1 s=(E s).mapW (lose d []):=by
 have ut:d≠g:=by omega
 simp only [lay] at h
 cases hh:(E g).heavy with
 | true =>
  rw [hh] at h;simp only [cond_true,PM.run] at h
  refine ⟨_,_,_,h,S.conf.lay uU hg,fun s hs=>?_,fun s hs uY => .inr ?_,.inr ?_,zAh,fun s h1 h2 => .inr ?_⟩
  ·rw [zAf (by omega),Env.get_set,Env.get_kill]
   by_cases h2:s=d
   ·subst h2;rw [zAh,if_pos rfl]
   ·rw [zAf h2,if_neg h2,S.env s hs]
  ·rw [zAf (by omega),zAf hs]
  ·rw [zAf (by omega),zAh]
  ·rw [zAf h2,zAf (by omega)]
 | false =>
  rw [hh] at h;simp only [cond_false,PM.run] at h
  have hH:=S.conf.rep g
  rw [zC3 _ _ _ hh hH] at hH
  have h1:=S.conf.put (s:=d) hh hH
  have h2:=h1.drop fun s=>s==g
  refine ⟨_,_,_,h,h2,fun s hs=>?_,fun s hs uY => .inl ?_,.inl ?_,by simp,fun s h1 h2 => .inl ?_⟩
  ·rw [Env.get_set]
   have:(s==g)=false:=by simp;omega
   simp only [this,Bool.false_eq_true,if_false]
   by_cases h2:s=d
   ·subst h2;rw [zAh,if_pos rfl]
   ·rw [zAf h2,if_neg h2,S.env s hs]
  ·have:(s==g)=false:=by simp;omega
   simp [this,zAf hs]
  ·have:(d==g)=false:=by simp;omega
   simp [this,zAh]
  ·have:(s==g)=false:=by simp [h2]
   simp [this,zAf (show s≠d by omega)]
theorem zS6 (S:St w0 U Φ0 nt hv a w e Φ rv E L) {d g:Nat} (hd:d<zAl) (hg:zAd≤g) {k:PM} (h:(lay d (E g) k).run o e=some e') :
  ∃ e1 E1 L1,k.run o e1=some e'∧Conf w0 U Φ0 w Φ (upd rv d (rv g)) E1 L1∧(∀ s,s<zAd→E1 s=e1.get s)∧(∀ s,s≠d→s<zAd→E1 s=E s∨E1 s=(E s).mapW (lose d [])) ∧
   (E1 d=E g∨E1 d=(E g).mapW (lose d []))∧E1 g = .bad∧∀ s,zAd≤s→s≠g→E1 s=E s∨E1 s=(E s).mapW (lose d []) :=
 zQN S (by simp only [zAl,zAd] at *;omega) hg h
theorem Act.put_tmps (a:Act) {d:Nat} {v:Value} (hd:d<a.tmps.size) (t:Nat):(a.put (some d) v).tmps.getD t undef=if t=d then v else a.tmps.getD t undef:=by
 simp only [Act.put,Array.getD_eq_getD_getElem?,Array.getElem?_setIfInBounds]
 by_cases h:t=d
 ·subst h;simp [hd]
 ·rw [if_neg (Ne.symm h),if_neg h]
theorem zFJ (S:St w0 U Φ0 nt hv a w e Φ rv E L) {d:Option Nat} (hd:∀ x,d=some x→x<nt) {g:Nat} (hg:zAd≤g) (h:(put d (E g)).run o e=some e') (hb:∀ s,zAd≤s→s≠g→E s = .bad) :
  Fr w0 U Φ0 nt hv (a.put d (rv g)) w e':=by
 have kN:=S.small
 cases d with
 | none =>
  simp only [put,PM.run,Option.some.injEq] at h;subst h
  have h2:=S.conf.drop fun s=>s==g
  refine ⟨_,_,_,_,S.turn h2 (fun s hs=>?_) (fun _ _=>rfl) (fun d ps hd hp=>?_),fun s hs=>?_⟩
  ·have:(s==g)=false:=by simp;omega
   simp only [this,Bool.false_eq_true,if_false];exact S.env s hs
  ·have:(d==g)=false:=by simp only [zAd] at hg;simp;omega
   simp only [this,Bool.false_eq_true,if_false] at hp;exact ⟨ps,hp,rfl⟩
  ·by_cases h3:s=g
   ·subst h3;simp
   ·have:(s==g)=false:=by simp [h3]
    simp only [this,Bool.false_eq_true,if_false];exact hb s hs h3
 | some d =>
  have uu:=hd d rfl
  have LB:d<a.tmps.size:=by rw [S.size];exact uu
  simp only [put] at h
  cases ht:(E g).isTup with
  | true=>rw [ht] at h;cases h
  | false =>
   rw [ht] at h;simp only [cond_false] at h
   obtain ⟨e1,E1,L1,h1,h2,h3,h4,h5,h6,h7⟩:=zS6 S (by simp only [zAl];omega) hg h
   simp only [PM.run,Option.some.injEq] at h1;subst h1
   refine ⟨_,_,_,_,⟨h2,h3,by simp only [Act.put,Array.size_setIfInBounds];exact S.size,S.small,fun t gT=>?_,fun d' ps i vz hp hi=>?_,fun s u5 uY=>?_,S.dfr⟩,fun s hs=>?_⟩
   ·rw [Act.put_tmps a LB]
    by_cases vX:t=d
    ·subst vX;simp [zAh]
    ·rw [if_neg vX,zAf vX];exact S.tmps t gT
   ·have ut:d'≠d:=by
     intro hc;subst hc
     rcases h5 with h5 | h5
     ·rw [h5] at hp;rw [hp] at ht;cases ht
     ·rw [h5] at hp
      obtain ⟨ps',h8,_⟩:=zDJ (zIo d' []) hp
      rw [h8] at ht;cases ht
    have:∃ ps',E d' = .tup ps'∧ps'.length=ps.length:=by
     rcases h4 d' ut (by simp only [zAd];omega) with h8 | h8
     ·exact ⟨ps,by rw [← h8,hp],rfl⟩
     ·rw [h8] at hp;exact zDJ (zIo d []) hp
    obtain ⟨ps',h8,h9⟩:=this
    obtain ⟨h10,vs,h11,h12⟩:=S.parts d' ps' i vz h8 (by omega)
    exact ⟨h10,vs,by rw [zAf ut];exact h11,by rw [zAf (by simp only [zBr];omega)];exact h12⟩
   ·rw [zAf (by simp only [zAl] at u5;omega)];exact S.hid s u5 uY
   ·by_cases h8:s=g
    ·subst h8;exact h6
    ·rcases h7 s hs h8 with h9 | h9
     ·rw [h9];exact hb s hs h8
     ·rw [h9,hb s hs h8];rfl
end
end Go.Eng
