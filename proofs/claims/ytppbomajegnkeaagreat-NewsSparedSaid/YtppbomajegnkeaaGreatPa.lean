/- For all numbers, cries, which and when the law NewsSpared ends in true: without a cry that is told all yn hold the same, without another one some hold something else; without conditions. -/
import Derived.Calls
import Derived.Below
import Derived.CallsIn
import Derived.Laws.StructEq
import Derived.Laws.Cover3
import Derived.Laws.Slices
import Derived.Laws.MakeOwn
import Derived.Laws.CopyRow
set_option linter.unusedVariables false
set_option linter.unusedSimpArgs false
set_option linter.unusedSectionVars false
namespace Go.Eng
open Go
theorem zzLn {α:Type}:(∀ (l:List α) (i:Nat) (a:α),(l.set i a).length=l.length) ∧ (∀ a b:List α,(a++b).length=a.length+b.length) ∧ (∀ (a:α) (l:List α),(a::l).length=l.length+1) ∧ ([]:List α).length=0:=⟨fun _ _ _=>List.length_set,fun _ _=>List.length_append,fun _ _=>rfl,rfl⟩
inductive PV where
 | bad | und
 | int (k:IntKind) (n:Int) | bool (b:Bool)
 | nilp | nilf | nilm | nn | nils (sz:Nat)
 | agg (cs:List PV) | tup (vs:List PV)
 | sl (xs:List PV) | own (sz:Nat) (xs:List PV)
 | ref (p:PV) | box (p:PV)
 | map (es:List (PV×PV)) | omap (es:List (PV×PV))
 | func (f:FuncId) (first caps:List PV)
 | addr (r:Nat) (pre:List (Nat×Nat)) (i c:Nat) (sh:Option Nat)
 | bor (r:Nat) (pre:List (Nat×Nat)) (sz lo n:Nat)
 | bsl (r:Nat) (pre:List (Nat×Nat)) (i c:Nat) (sz:Nat) (ag:Bool) (n:Nat)
 | bmap (r:Nat) (pre:List (Nat×Nat))
 | lock (p:PV)
 | yld (h:Nat) | log (xs:List PV) (k:Int)
 deriving Inhabited
abbrev zAU:=List (Nat×Nat)
def zAl:Nat:=50000000
def zAA:Nat:=60000000
def zAb:Nat:=1000000000
def depth:Nat:=6
abbrev Env:=List (Nat×PV)
def Env.get:Env→Nat→PV
 | [],_ => .bad
 | (k,v)::e,s=>bif Nat.beq k s then v else Env.get e s
def Env.set:Env→Nat→PV→Env
 | [],s,p=>[(s,p)]
 | (k,v)::e,s,p=>bif Nat.beq k s then (s,p)::e else bif Nat.ble s k then (s,p)::(k,v)::e else (k,v)::Env.set e s p
def PV.cells:PV→List PV
 | .agg cs=>cs
 | p=>[p]
def zNt:Option Nat→List PV→PV
 | some _,cs => .agg cs
 | none,c::_=>c
 | none,[] => .bad
def PV.isAgg:PV→Bool
 | .agg _=>true
 | _=>false
def PV.oneCell:PV→Bool
 | .int .. | .bool _ | .nilp | .nilf | .nilm | .nn | .nils _ | .sl _ | .own .. | .ref _ | .box _ | .map _ | .omap _ | .func .. | .addr .. | .bor .. | .bsl .. | .bmap .. => true
 | _=>false
def PV.whole (p:PV):Bool:=p.isAgg||p.oneCell
def PV.isTup:PV→Bool
 | .tup _=>true
 | _=>false
def PV.heavy0:PV→Bool
 | .own .. | .box .. | .omap .. => true
 | _=>false
mutual
def PV.heavy:PV→Bool
 | .own .. => true
 | .box _=>true
 | .omap _=>true
 | .lock _=>true
 | .agg cs=>zC5 cs
 | .tup vs=>zC5 vs
 | _=>false
def zC5:List PV→Bool
 | []=>false
 | p::ps=>p.heavy||zC5 ps
end
def zHo (r:Nat) (pre:zAU):PV→PV
 | .agg _ | .tup _ | .lock _ => .bad
 | .own sz xs => .bor r pre sz 0 xs.length
 | .box p => .addr r pre 0 0 (match p with | .agg cs=>some cs.length | _=>none)
 | .omap _ => .bmap r pre
 | p=>p
def zBD (r:Nat) (pre:zAU) (i:Nat):Nat→List PV→List PV
 | _,[]=>[]
 | c,p::ps=>zHo r (pre++[(i,c)]) p::zBD r pre i (c+1) ps
def zTl (r:Nat):PV→PV
 | .agg cs => .agg (zBD r [] 0 0 cs)
 | .tup _ => .bad
 | p=>zHo r [] p
def view (r:Nat):PV→PV
 | .lock p=>zTl r p
 | p=>zTl r p
def PV.unlock:PV→PV
 | .lock p=>p
 | p=>p
def zYb:PV→Option (List PV)
 | .own _ xs=>some xs
 | .sl xs=>some xs
 | .box p=>some [p]
 | .ref p=>some [p]
 | .agg cs=>some [.agg cs]
 | _=>none
def zBg:PV→Option (List PV)
 | .own _ xs=>some xs
 | .box p=>some [p]
 | _=>none
def zAC:PV→List PV→Option PV
 | .own sz _,xs=>some (.own sz xs)
 | .box _,[p]=>some (.box p)
 | .agg _,[.agg cs]=>some (.agg cs)
 | _,_=>none
def zA0:PV→Option (List PV)
 | .own _ xs=>some xs
 | .box p=>some [p]
 | .agg cs=>some [.agg cs]
 | _=>none
def zAx:PV→Nat→List PV→PV
 | .agg cs,c,qs => .agg (cs.take c++qs++cs.drop (c+qs.length))
 | _,_,q::_=>q
 | p,_,[]=>p
def zAz:PV→zAU→Option PV
 | p,[]=>some p
 | p,(i,c)::rest =>
  match zA0 p with
  | some xs=>match xs[i]? with
   | some x=>match x.cells[c]? with
    | some q=>zAz q rest
    | none=>none
   | none=>none
  | none=>none
def zAu (f:PV→Option PV):PV→zAU→Option PV
 | p,[]=>f p
 | p,(i,c)::rest =>
  match zA0 p with
  | some xs=>match xs[i]? with
   | some x=>match x.cells[c]? with
    | some q=>match zAu f q rest with
     | some q'=>zAC p (xs.set i (zAx x c [q']))
     | none=>none
    | none=>none
   | none=>none
  | none=>none
mutual
def zAV:PV→PV
 | .own _ xs => .sl (zAv xs)
 | .box q => .ref (zAV q)
 | .omap es => .map es
 | .agg cs => .agg (zAv cs)
 | .tup _ => .bad
 | .lock _ => .bad
 | p=>p
def zAv:List PV→List PV
 | []=>[]
 | p::ps=>zAV p::zAv ps
end
mutual
def PV.free:PV→Bool
 | .int .. | .bool .. | .nilp | .nilf | .nilm | .nn | .nils _ | .und=>true
 | .sl []=>true
 | .agg cs=>zFk cs
 | .tup vs=>zFk vs
 | .own _ xs=>zFk xs
 | .box q=>q.free
 | .omap es=>zOu es
 | _=>false
def zFk:List PV→Bool
 | []=>true
 | p::ps=>p.free&&zFk ps
def zOu:List (PV×PV)→Bool
 | []=>true
 | (k,v)::es=>k.free&&v.free&&zOu es
end
inductive PM where
 | ok | fail
 | view (s:Nat) (k:PV→PM)
 | get (s:Nat) (k:PV→PM)
 | set (s:Nat) (p:PV) (k:PM)
 | cells (r:Nat) (pre:zAU) (i c n:Nat) (k:Bool→List PV→PM)
 | deep (r:Nat) (pre:zAU) (k:PV→PM)
 | wcells (r:Nat) (pre:zAU) (i c:Nat) (qs:List PV) (k:PM)
 | wnode (r:Nat) (pre:zAU) (q:PV) (k:PM)
 | kill (r:Nat) (pre:zAU) (k:PM)
 | frz (r:Nat) (pre:zAU) (k:PM)
 | killEx (r:Nat) (keep:List zAU) (k:PM)
 | forget (h:Nat) (k:PM)
 | call (f:FuncId) (args hid:List PV) (k:PV→List PV→PM)
abbrev zAF:=FuncId→List PV→List PV→Option (PV×List PV)
mutual
def PV.mapW (f:PV→PV):PV→PV
 | .addr r pre i c sh=>f (.addr r pre i c sh)
 | .bor r pre z lo n=>f (.bor r pre z lo n)
 | .bsl r pre i c sz ag n=>f (.bsl r pre i c sz ag n)
 | .bmap r pre=>f (.bmap r pre)
 | .log xs k=>f (.log xs k)
 | .agg cs => .agg (zCt f cs)
 | .tup cs => .tup (zCt f cs)
 | .func g a b => .func g (zCt f a) (zCt f b)
 | .ref q => .ref (q.mapW f)
 | .box q => .box (q.mapW f)
 | .lock q => .lock (q.mapW f)
 | p=>p
def zCt (f:PV→PV):List PV→List PV
 | []=>[]
 | p::ps=>p.mapW f::zCt f ps
end
mutual
def PV.ways:PV→List (Nat×zAU)
 | .addr r pre .. => [(r,pre)]
 | .bor r pre .. => [(r,pre)]
 | .bsl r pre .. => [(r,pre)]
 | .bmap r pre=>[(r,pre)]
 | .agg cs=>zBA cs
 | .tup cs=>zBA cs
 | .func _ a b=>zBA a++zBA b
 | .ref q=>q.ways
 | .box q=>q.ways
 | .lock q=>q.ways
 | _=>[]
def zBA:List PV→List (Nat×zAU)
 | []=>[]
 | p::ps=>p.ways++zBA ps
end
def PV.plain0:PV→Bool
 | .int .. | .bool .. | .nilp | .nilf | .nilm | .nn | .nils _ | .sl .. | .map .. => true
 | .ref q=>q.ways.isEmpty
 | _=>false
def PV.plain:PV→Bool
 | .agg cs=>cs.all PV.plain0
 | p=>p.plain0
def lose (r:Nat) (pre:zAU):PV→PV
 | .addr r' q i c sh=>bif Nat.beq r' r&&pre.isPrefixOf q then .bad else .addr r' q i c sh
 | .bor r' q z lo n=>bif Nat.beq r' r&&pre.isPrefixOf q then .bad else .bor r' q z lo n
 | .bsl r' q i c sz ag n=>bif Nat.beq r' r&&pre.isPrefixOf q then .bad else .bsl r' q i c sz ag n
 | .bmap r' q=>bif Nat.beq r' r&&pre.isPrefixOf q then .bad else .bmap r' q
 | p=>p
def zBP (r:Nat) (keep:List zAU):PV→PV
 | .addr r' q i c sh=>bif Nat.beq r' r && !(q.isEmpty||keep.any q.isPrefixOf) then .bad else .addr r' q i c sh
 | .bor r' q z lo n=>bif Nat.beq r' r && !(q.isEmpty||keep.any q.isPrefixOf) then .bad else .bor r' q z lo n
 | .bsl r' q i c sz ag n=>bif Nat.beq r' r && !(q.isEmpty||keep.any q.isPrefixOf) then .bad else .bsl r' q i c sz ag n
 | .bmap r' q=>bif Nat.beq r' r && !(q.isEmpty||keep.any q.isPrefixOf) then .bad else .bmap r' q
 | p=>p
def Env.killEx (e:Env) (r:Nat) (keep:List zAU):Env:=e.map fun x=>(x.1,x.2.mapW (zBP r keep))
def zAL (r:Nat) (pre:zAU) (r':Nat) (q:zAU):Bool:=Nat.beq r' r&&pre.isPrefixOf q
def zDD (i c:Nat) (sh:Option Nat) (q:PV):PV :=
 match zBg q with
 | some xs=>match xs[i]? with
  | some x=>match sh with
   | some m=>bif Nat.ble (c+m) x.cells.length&&x.isAgg then .ref (.agg (zAv ((x.cells.drop c).take m))) else .bad
   | none=>match x.cells[c]? with
    | some q=>bif q.oneCell then .ref (zAV q) else .bad
    | none => .bad
  | none => .bad
 | none => .bad
def zCH (lo n:Nat):PV→PV
 | .own _ xs=>bif Nat.ble (lo+n) xs.length then .sl (zAv ((xs.drop lo).take n)) else .bad
 | _ => .bad
def zCp (ag:Bool) (sz:Nat):Nat→List PV→List PV
 | 0,_=>[]
 | m+1,cs=>(bif ag then .agg (cs.take sz) else cs.headD .bad)::zCp ag sz m (cs.drop sz)
def zCm (ag:Bool) (sz m:Nat) (cs:List PV):Bool:=Nat.beq cs.length (m*sz)&&(ag||Nat.beq sz 1&&cs.all (fun q=>q.oneCell))
def zCA (i c sz:Nat) (ag:Bool) (m:Nat) (q:PV):PV :=
 match zBg q with
 | some xs=>match xs[i]? with
  | some x=>bif zCm ag sz m ((x.cells.drop c).take (m*sz))&&(zBA x.cells).isEmpty then .sl (zCp ag sz m (zAv ((x.cells.drop c).take (m*sz)))) else .bad
  | none => .bad
 | none => .bad
def zEN:PV→PV
 | .omap es => .map es
 | _ => .bad
def zGi (q:Option PV) (f:PV→PV):PV :=
 match q with
 | some x=>f x
 | none => .bad
def inl (r:Nat) (pre:zAU) (q0:PV):PV→PV
 | .addr r' q i c sh=>bif zAL r pre r' q then zGi (zAz q0 (q.drop pre.length)) (zDD i c sh) else .addr r' q i c sh
 | .bor r' q z lo n=>bif zAL r pre r' q then zGi (zAz q0 (q.drop pre.length)) (zCH lo n) else .bor r' q z lo n
 | .bsl r' q i c sz ag n=>bif zAL r pre r' q then zGi (zAz q0 (q.drop pre.length)) (zCA i c sz ag n) else .bsl r' q i c sz ag n
 | .bmap r' q=>bif zAL r pre r' q then zGi (zAz q0 (q.drop pre.length)) zEN else .bmap r' q
 | p=>p
def PV.isLock:PV→Bool
 | .lock _=>true
 | _=>false
def Env.frz (e:Env) (r:Nat) (pre:zAU):Option Env :=
 bif (e.get r).isLock then none else match zAz (e.get r) pre with
 | some q=>match zAu (fun _=>some (zAV q)) (e.get r) pre with
  | some root=>some ((e.set r root).map fun x=>(x.1,x.2.mapW (inl r pre q)))
  | none=>none
 | none=>none
def Env.kill (e:Env) (r:Nat) (pre:zAU):Env:=e.map fun x=>(x.1,x.2.mapW (lose r pre))
def PV.num:PV→Bool
 | .int .. => true
 | .bool _=>true
 | _=>false
def PV.isWay:PV→Bool
 | .addr .. | .bor .. | .bsl .. | .bmap .. | .log .. => true
 | _=>false
def Env.forget (e:Env) (h:Nat):Env:=e.map fun x=>bif Nat.beq x.1 h||x.2.num then x else (x.1,.bad)
def zAr (r:Nat) (root:PV) (pre:zAU) (i c n:Nat):Option (Bool×List PV) :=
 match zAz root.unlock pre with
 | some q=>match zBg q with
  | some xs=>match xs[i]? with
   | some x=>bif Nat.ble (c+n) x.cells.length then some (x.isAgg,zBD r pre i c ((x.cells.drop c).take n)) else none
   | none=>none
  | none=>none
 | none=>none
def zDB:PV→zAU→Bool
 | .own ..,_=>true
 | _,[]=>false
 | p,(i,c)::rest =>
  match zA0 p with
  | some xs=>match xs[i]? with
   | some x=>match x.cells[c]? with
    | some q=>zDB q rest
    | none=>false
   | none=>false
  | none=>false
def zBF (root:PV) (pre:zAU) (i c:Nat) (qs:List PV):Option PV :=
 bif zDB root pre && !(zBA qs).isEmpty then none else zAu (fun q=>match zBg q with
  | some xs=>match xs[i]? with
   | some x=>bif Nat.ble (c+qs.length) x.cells.length then zAC q (xs.set i (zAx x c qs)) else none
   | none=>none
  | none=>none) root pre
def PM.run (o:zAF):PM→Env→Option Env
 | .ok,e=>some e
 | .fail,_=>none
 | .view s k,e=>(k (Eng.view s (e.get s))).run o e
 | .get s k,e=>match e.get s with
  | .lock _=>none
  | p=>(k p).run o e
 | .set s p k,e=>k.run o (e.set s p)
 | .cells r pre i c n k,e=>match zAr r (e.get r) pre i c n with
  | some (a,qs)=>(k a qs).run o e
  | none=>none
 | .deep r pre k,e=>match zAz (e.get r).unlock pre with
  | some q=>(k q).run o e
  | none=>none
 | .wcells r pre i c qs k,e=>match zBF (e.get r) pre i c qs with
  | some root=>k.run o (e.set r root)
  | none=>none
 | .wnode r pre q k,e=>bif (e.get r).isLock then none else match zAu (fun _=>some q) (e.get r) pre with
  | some root=>k.run o (e.set r root)
  | none=>none
 | .kill r pre k,e=>k.run o (e.kill r pre)
 | .frz r pre k,e=>match e.frz r pre with
  | some e'=>k.run o e'
  | none=>none
 | .killEx r keep k,e=>k.run o (e.killEx r keep)
 | .forget h k,e=>k.run o (e.forget h)
 | .call f args hid k,e=>match o f args hid with
  | some (v,hO)=>(k v hO).run o e
  | none=>none
structure Tok where
 look:List Nat:=[]
 rd:List Nat:=[]
 cel:List (Nat×zAU):=[]
 wr:List Nat:=[]
 inn:List (Nat×zAU):=[]
 ways:List (Nat×zAU):=[]
 kills:List Nat:=[]
 killsIn:List Nat:=[]
 all:Bool:=false
 deriving Inhabited
def Tok.join (a b:Tok):Tok:=⟨a.look++b.look,a.rd++b.rd,a.cel++b.cel,a.wr++b.wr,a.inn++b.inn,a.ways++b.ways,a.kills++b.kills,a.killsIn++b.killsIn,a.all||b.all⟩
def zCd:PV→PV→Bool
 | .box p,.box q=>p.isAgg==q.isAgg&&Nat.beq p.cells.length q.cells.length
 | .own sz xs,.own sz' ys=>Nat.beq sz sz'&&Nat.beq xs.length ys.length
 | .omap _,.omap _=>true
 | _,_=>false
def zAD:PV→PV→zAU→Bool
 | .agg cs,.agg ds,(_,c)::_=>match cs[c]?,ds[c]? with
  | some p,some q=>zCd p q
  | _,_=>false
 | p,q,_=>zCd p q
def zQD (a b:List Nat):Bool:=a.any fun x=>b.any (Nat.beq x)
def zMj (l:List (Nat×zAU)):List Nat:=l.map (·.1)
def zN7 (a b:Tok):Bool :=
 a.all||zQD a.wr b.look||zQD a.wr b.rd||zQD a.wr (zMj b.cel)||zQD a.wr b.wr||zQD a.wr (zMj b.inn)||zQD (zMj a.inn) b.rd||zQD (zMj a.inn) (zMj b.inn) ||
  a.inn.any (fun w=>b.cel.any fun c=>Nat.beq w.1 c.1&&w.2.isPrefixOf c.2)||zQD a.kills (zMj b.ways) ||
  zQD a.killsIn (zMj (b.ways.filter fun w => !w.2.isEmpty))
def zPl (a b:Tok):Bool:=zN7 a b||zN7 b a
def zFi (s:Nat) (p q:PV):Tok:={wr:=[s],ways:=p.ways++q.ways}
def zAK (D:List Nat) (g g':Nat→PV) (ks ki:List Nat):Tok:={wr:=D,ways:=D.flatMap fun s=>(g s).ways++(g' s).ways,kills:=ks,killsIn:=ki}
def zDm (e:Env) (h:Nat×zAU→Bool):List Nat:=(e.filter fun x=>x.2.ways.any h).map (·.1)
def zBj (r:Nat) (w:zAU) (b:Bool) (p q:PV):Tok:={inn:=bif b then [(r,w)] else [],wr:=bif b then [] else [r],ways:=p.ways++q.ways}
def PM.runT (o:zAF):PM→Env→Option (Env×Tok)
 | .ok,e=>some (e,{})
 | .fail,_=>none
 | .view s k,e=>((k (Eng.view s (e.get s))).runT o e).map fun x=>(x.1,Tok.join {look:=[s]} x.2)
 | .get s k,e=>match e.get s with
  | .lock _=>none
  | p=>((k p).runT o e).map fun x=>(x.1,Tok.join {rd:=[s]} x.2)
 | .set s p k,e=>(k.runT o (e.set s p)).map fun x=>(x.1,Tok.join (zFi s (e.get s) p) x.2)
 | .cells r pre i c n k,e=>match zAr r (e.get r) pre i c n with
  | some (a,qs)=>((k a qs).runT o e).map fun x=>(x.1,Tok.join {cel:=[(r,pre)]} x.2)
  | none=>none
 | .deep r pre k,e=>match zAz (e.get r).unlock pre with
  | some q=>((k q).runT o e).map fun x=>(x.1,Tok.join {rd:=[r]} x.2)
  | none=>none
 | .wcells r pre i c qs k,e=>match zBF (e.get r) pre i c qs with
  | some root=>(k.runT o (e.set r root)).map fun x=>(x.1,Tok.join (zBj r [] (zAD (e.get r) root pre) (e.get r) root) x.2)
  | none=>none
 | .wnode r pre q k,e=>bif (e.get r).isLock then none else match zAu (fun _=>some q) (e.get r) pre with
  | some root=>(k.runT o (e.set r root)).map fun x=>(x.1,Tok.join (zBj r pre.dropLast (zAD (e.get r) root pre&&(pre.isEmpty || !q.isAgg)) (e.get r) root) x.2)
  | none=>none
 | .kill r pre k,e=>(k.runT o (e.kill r pre)).map fun x=>(x.1,Tok.join (zAK (zDm e fun z=>zAL r pre z.1 z.2) e.get (e.kill r pre).get [r] []) x.2)
 | .frz r pre k,e=>match e.frz r pre with
  | some e'=>(k.runT o e').map fun x=>(x.1,Tok.join (zAK (r::zDm e fun z=>zAL r pre z.1 z.2) e.get e'.get [r] []) x.2)
  | none=>none
 | .killEx r keep k,e=>(k.runT o (e.killEx r keep)).map fun x=>(x.1,Tok.join (zAK (zDm e fun z=>Nat.beq z.1 r && !z.2.isEmpty) e.get (e.killEx r keep).get [] [r]) x.2)
 | .forget h k,e=>(k.runT o (e.forget h)).map fun x=>(x.1,{all:=true})
 | .call f args hid k,e=>match o f args hid with
  | some (v,hO)=>(k v hO).runT o e
  | none=>none
variable (P:Program)
def szT (t:TypeId):Option Nat:=(P.info? t).map (·.size)
def zHX (t:TypeId):Option Nat:=(P.info? t).map (·.bytes)
def shT (t:TypeId):Option (Option Nat) :=
 match P.underlying t,P.info? t with
 | some (.struct _),some i=>some (some i.size)
 | some (.array _ _),some i=>some (some i.size)
 | some _,some i=>if i.size=1 then some none else none
 | _,_=>none
def zBW (t:TypeId):Option TypeId :=
 match P.underlying t with
 | some (.slice e)=>some e
 | _=>none
def zeroCells:Nat→TypeId→Option (List PV)
 | 0,_=>none
 | n+1,t=>match P.underlying t with
  | some (.int k)=>some [.int k 0]
  | some .bool=>some [.bool false]
  | some (.pointer _)=>some [.nilp]
  | some (.func ..)=>some [.nilf]
  | some (.map ..)=>some [.nilm]
  | some (.slice e)=>(szT P e).map fun s=>[.own s []]
  | some (.array m e)=>(zeroCells n e).map fun z=>(List.replicate m z).flatten
  | some (.struct fs)=>(fs.toList.mapM fun f=>zeroCells n f.type).map List.flatten
  | _=>none
def zJ5:PV→Value→Bool
 | .int k n,.int k' m=>decide (k=k')&&decide (n=m)
 | .bool a,.bool b=>a==b
 | .nilp,.pointer none=>true
 | .nilf,.nilFunc=>true
 | .nilm,.map none=>true
 | .own _ [],.slice none 0 0=>true
 | _,_=>false
def zTa:List PV→List Value→Bool
 | [],[]=>true
 | p::ps,v::vs=>zJ5 p v&&zTa ps vs
 | _,_=>false
def zM2:PV→Value→Bool
 | .agg cs,.agg vs=>zTa cs vs.toList
 | .agg _,_=>false
 | p,v=>zJ5 p v
def zCK (t:TypeId):Option PV :=
 match zeroCells P 20 t,shT P t,(P.info? t).bind (·.zero) with
 | some cs,some sh,some v=>bif zM2 (zNt sh cs) v then some (zNt sh cs) else none
 | _,_,_=>none
def zEB:Value→PV
 | .int k n => .int k n
 | .bool b => .bool b
 | .slice none 0 0 => .nils 0
 | .pointer none => .nilp
 | .nilFunc => .nilf
 | .map none => .nilm
 | .agg cs => .agg (cs.toList.map fun | .int k n => .int k n | .bool b => .bool b | _ => .bad)
 | _ => .bad
def opd (x:Operand) (k:PV→PM):PM :=
 match x with
 | .tmp t => .view t k
 | .const v=>k (zEB v)
 | .func f=>k (.func f [] [])
 | .global _ => .fail
def zPa (x:Operand) (k:PV→PM):PM :=
 match x with
 | .tmp t => .get t fun p=>if p.heavy then .set t .bad (k p) else k p
 | .const v=>k (zEB v)
 | .func f=>k (.func f [] [])
 | .global _ => .fail
def zTq:List Operand→(List PV→PM)→PM
 | [],k=>k []
 | x::xs,k=>opd x fun p=>zTq xs fun ps=>k (p::ps)
def zTf:List Operand→(List PV→PM)→PM
 | [],k=>k []
 | x::xs,k=>zPa x fun p=>zTf xs fun ps=>k (p::ps)
def lay (d:Nat) (p:PV) (k:PM):PM:=bif p.heavy then .kill d [] (.set d (p.mapW (lose d [])) k) else .set d p k
def put (d:Option Nat) (p:PV):PM :=
 match d with
 | none => .ok
 | some d=>bif p.isTup then .fail else lay d p .ok
def zBw (d i:Nat):Nat:=2000000+16*d+i
def zEU (d:Nat):Nat→List PV→PM→PM
 | n,[],k => .set d (.tup (List.replicate n .bad)) k
 | i,p::ps,k=>lay (zBw d i) p (zEU d (i+1) ps k)
def zJH (d s:Nat):Bool:=Nat.ble (zBw d 0) s&&Nat.blt s (zBw d 16)
def zDp (d:Option Nat) (v:PV):PM :=
 match d,v with
 | some d,.tup vs=>bif Nat.ble vs.length 16&&(zBA vs).all (fun w => !zJH d w.1) then .set d .bad (zEU d 0 vs .ok) else .fail
 | d,v=>put d v
def zFK (s d:Nat):Nat→Nat→PM
 | n,0 => .set d (.tup (List.replicate n .bad)) .ok
 | i,n+1 => .get (zBw s i) fun p => .set (zBw s i) .bad (lay (zBw d i) p (zFK s d (i+1) n))
def zXL:PV→PV→Option Bool
 | .int k a,.int k' b=>if k=k' then some (a==b) else none
 | .bool a,.bool b=>some (a==b)
 | .nilp,.nilp=>some true
 | _,_=>none
def zFO:List PV→List PV→Option Bool
 | [],[]=>some true
 | p::ps,q::qs=>match zXL p q,zFO ps qs with
  | some a,some b=>some (a&&b)
  | _,_=>none
 | _,_=>none
def zEX:PV→Bool
 | .sl (_::_)=>true
 | .nn=>true
 | .own _ (_::_)=>true
 | .bor _ _ _ _ (_+1)=>true
 | _=>false
def sub (p:PV) (off:Nat) (sh:Option Nat):Option PV :=
 match p,sh with
 | .agg cs,some n=>if off+n≤cs.length then some (.agg ((cs.drop off).take n)) else none
 | .agg cs,none=>cs[off]?
 | _,_=>none
def zV8 (eq:TypeId→PV→PV→Option Bool) (sh:TypeId→Option (Option Nat)) (p q:PV):List Field→Option Bool
  | []=>some true
  | f :: fs =>
    if f.name = "_" then zV8 eq sh p q fs else
    match sh f.type with
    | some s=>match sub p f.offset s,sub q f.offset s with
      | some a,some b=>match eq f.type a b with
        | some true=>zV8 eq sh p q fs
        | r=>r
      | _,_=>none
    | none=>none
def zUG (eq:PV→PV→Option Bool) (sh:Option Nat) (sz:Nat) (p q:PV):Nat→Nat→Option Bool
 | _,0=>some true
 | i,n+1 =>
  match sub p (i*sz) sh,sub q (i*sz) sh with
  | some a,some b=>match eq a b with
   | some true=>zUG eq sh sz p q (i+1) n
   | r=>r
  | _,_=>none
def eqT:Nat→TypeId→PV→PV→Option Bool
 | 0,_,_,_=>none
 | n + 1,t,p,q =>
  match P.underlying t,p,q with
  | some (.int _),.int k a,.int k' b=>if k=k' then some (a==b) else none
  | some .bool,.bool a,.bool b=>some (a==b)
  | some (.pointer _),.nilp,.nilp=>some true
  | some (.struct fs),.agg xs,.agg ys=>bif P.stoodInHeld t then none else zV8 (eqT n) (shT P) (.agg xs) (.agg ys) fs.toList
  | some (.array len e),.agg xs,.agg ys=>match szT P e,shT P e with
   | some sz,some sh=>zUG (eqT n e) sh sz (.agg xs) (.agg ys) 0 len
   | _,_=>none
  | _,_,_=>none
def eqV (t:TypeId) (p q:PV):Option Bool :=
 match q with
 | .nils _=>match P.underlying t,p with
  | some (.slice _),.nils _=>some true
  | some (.slice _),p=>bif zEX p then some false else none
  | _,_=>none
 | .agg ys=>match p with
  | .agg xs=>bif P.eqGuardType P.depth t then none else eqT P 20 t (.agg xs) (.agg ys)
  | _=>none
 | q=>bif p.isAgg then none else eqT P 20 t p q
def zTt (op:BinOp) (k:IntKind) (a b:Int):Option PV :=
 match op with
 | .add=>some (.int k (k.wrap (a+b)))
 | .sub=>some (.int k (k.wrap (a-b)))
 | .mul=>some (.int k (k.wrap (a*b)))
 | .quo=>if b=0 then none else some (.int k (k.wrap (a.tdiv b)))
 | .rem=>if b=0 then none else some (.int k (a.tmod b))
 | .and=>some (.int k (k.wrap (BitVec.ofInt k.bits a &&& BitVec.ofInt k.bits b).toNat))
 | .or=>some (.int k (k.wrap (BitVec.ofInt k.bits a ||| BitVec.ofInt k.bits b).toNat))
 | .xor=>some (.int k (k.wrap (BitVec.ofInt k.bits a ^^^ BitVec.ofInt k.bits b).toNat))
 | .eql=>some (.bool (a==b))
 | .neq=>some (.bool (a != b))
 | .lss=>some (.bool (decide (a<b)))
 | .leq=>some (.bool (decide (a≤b)))
 | .gtr=>some (.bool (decide (a>b)))
 | .geq=>some (.bool (decide (a≥b)))
 | _=>none
def zHt (op:BinOp) (t:TypeId) (p q:PV):Option PV :=
 match op,p,q with
 | .shl,.int k a,.int _ b=>if b<0 then none else some (.int k (k.wrap (a*2 ^ (min b.toNat k.bits))))
 | .shr,.int k a,.int _ b=>if b<0 then none else some (.int k (a.fdiv (2 ^ (min b.toNat k.bits))))
 | op,.int k a,.int k' b=>if k=k' then zTt op k a b else none
 | .eql,p,q=>(eqV P t p q).map .bool
 | .neq,p,q=>(eqV P t p q).map fun b => .bool (!b)
 | _,_,_=>none
def lenOf:PV→Option Nat
 | .nils _=>some 0
 | .nn=>some 0
 | .sl xs=>some xs.length
 | .bor _ _ _ _ n=>some n
 | .bsl _ _ _ _ _ _ n=>some n
 | _=>none
def zMC (r:Nat) (pre:zAU) (i c:Nat) (sh:Option Nat) (k:PV→PM):PM :=
 match sh with
 | some n => .cells r pre i c n fun a qs=>bif a then k (.agg qs) else .fail
 | none => .cells r pre i c 1 fun _ qs=>k (qs.headD .bad)
def zDS (r:Nat) (pre:zAU) (i:Nat):Nat→List PV→PM→PM
 | _,[],k=>k
 | c,q::qs,k=>bif q.heavy then .kill r (pre++[(i,c)]) (zDS r pre i (c+1) qs k) else zDS r pre i (c+1) qs k
def zEq (res:PV→(PV→List (Nat×zAU)→PM)→PM):List PV→(List PV→List (Nat×zAU)→PM)→PM
 | [],k=>k [] []
 | p::ps,k=>res p fun q l=>zEq res ps fun qs m=>k (q::qs) (l++m)
def resolve (hb:Nat):Nat→PV→(PV→List (Nat×zAU)→PM)→PM
 | 0,_,_ => .fail
 | n + 1,p,k =>
  match p with
  | .addr r pre i c sh=>bif Nat.ble hb r then k p [] else .deep r pre fun q=>match zBg q with
   | some xs=>match xs[i]? with
    | some x=>match sh with
     | some m=>bif Nat.ble (c+m) x.cells.length&&x.isAgg then resolve hb n (.agg ((x.cells.drop c).take m)) fun q l=>k (.ref q) ((r,pre)::l) else .fail
     | none=>match x.cells[c]? with
      | some q=>bif q.oneCell then resolve hb n q fun q l=>k (.ref q) ((r,pre)::l) else .fail
      | none => .fail
    | none => .fail
   | none => .fail
  | .bor r pre _ lo m=>bif Nat.ble hb r then k p [] else .deep r pre fun q=>match q with
   | .own _ xs=>bif Nat.ble (lo+m) xs.length then k (.sl (zAv ((xs.drop lo).take m))) [(r,pre)] else .fail
   | _ => .fail
  | .bsl r pre i c sz ag m=>bif Nat.ble hb r then k p [] else .deep r pre fun q=>match zBg q with
   | some xs=>match xs[i]? with
    | some x=>bif zCm ag sz m ((x.cells.drop c).take (m*sz))&&(zBA x.cells).isEmpty then k (.sl (zCp ag sz m (zAv ((x.cells.drop c).take (m*sz))))) [(r,pre)] else .fail
    | none => .fail
   | none => .fail
  | .bmap r pre=>bif Nat.ble hb r then k p [] else .deep r pre fun q=>match q with
   | .omap es=>k (.map es) [(r,pre)]
   | _ => .fail
  | .agg cs=>bif (p.ways).isEmpty then k (zAV p) [] else zEq (resolve hb n) cs fun qs l=>k (.agg qs) l
  | .func f a b=>bif (p.ways).isEmpty then k p [] else zEq (resolve hb n) a fun as l=>zEq (resolve hb n) b fun bs m=>k (.func f as bs) (l++m)
  | .ref q=>bif (q.ways).isEmpty then k p [] else resolve hb n q fun q l=>k (.ref q) l
  | .bad=>k .bad []
  | p=>bif p.ways.all (fun w=>Nat.ble hb w.1) then k (zAV p) [] else .fail
def zGN (p:PV) (k:List PV→PM):PM :=
 match p with
 | .nils _=>k []
 | .nn=>k []
 | .sl xs=>k xs
 | .bor r pre z lo n => .deep r pre fun q=>match q with
  | .own _ xs=>bif Nat.ble (lo+n) xs.length then k ((xs.drop lo).take n) else .fail
  | _ => .fail
 | .bsl r pre i c sz ag n => .cells r pre i c (n*sz) fun _ cs=>bif zCm ag sz n cs&&cs.all (fun q=>q.plain0) then k (zCp ag sz n cs) else .fail
 | _ => .fail
def zPp (p:PV) (k:PV→List (Nat×zAU)→PM):PM:=resolve zAb depth p k
def zLO (hb:Nat):Nat→PV→(PV→PM)→PM
 | 0,_,_ => .fail
 | n+1,p,k=>match p.ways.find? (fun w=>Nat.blt w.1 hb) with
  | none=>k p
  | some (r,pre) => .deep r pre fun q => .frz r pre (zLO hb n (p.mapW (inl r pre q)) k)
def zDw:Nat:=64
end Go.Eng
namespace Go.Eng
open Go
structure FHint where
 drop:Nat→List Nat:=fun _=>[]
 loopDrop:Nat→List Nat:=fun _=>[]
 mode:List Nat:=[]
 frz:Bool:=false
 intr:Nat:=0
 take:Nat→List Nat:=fun _=>[]
 nils:Bool:=false
 frzs:Nat→List Nat:=fun _=>[]
 ices:Nat→List Nat:=fun _=>[]
abbrev zBh:=FuncId→FHint
instance:Inhabited FHint:=⟨{}⟩
def zEn (m:List (Nat×Nat)):PV→PV
 | .addr r pre i c sh=>match m.lookup r with
  | some h => .addr h pre i c sh
  | none => .bad
 | .bor r pre z lo n=>match m.lookup r with
  | some h => .bor h pre z lo n
  | none => .bad
 | .bsl r pre i c sz ag n=>match m.lookup r with
  | some h => .bsl h pre i c sz ag n
  | none => .bad
 | .bmap r pre=>match m.lookup r with
  | some h => .bmap h pre
  | none => .bad
 | p=>p
def zGy (m:List (Nat×Nat)) (p:PV):PV:=p.mapW (zEn m)
def zNH (p:PV):List Nat:=(p.ways).map (·.1)
structure Arg where
 p:PV
 shared:List (Nat×zAU):=[]
 byref:Bool:=false
def zD6:List Nat→List PV→(List (Bool×PV)→PM)→PM
 | _,[],k=>k []
 | ms,p::ps,k =>
  match ms.headD 0,p with
  | 2,.bor r pre _ 0 n => .deep r pre fun q=>match q with
   | .own sz xs=>bif Nat.ble n xs.length then .wnode r pre .bad (zD6 ms.tail ps fun as=>k ((true,.own sz ((xs.drop 0).take n))::as)) else .fail
   | _ => .fail
  | _,p=>zD6 ms.tail ps fun as=>k ((false,p)::as)
def zCB:List Nat→List (Bool×PV)→(List Arg→PM)→PM
 | _,[],k=>k []
 | ms,(true,p)::ps,k=>zCB ms.tail ps fun as=>k ({p:=p}::as)
 | ms,(false,p)::ps,k =>
  bif Nat.beq (ms.headD 0) 1 then zCB ms.tail ps fun as=>k ({p:=p,byref:=true}::as)
  else zPp p fun q l=>zCB ms.tail ps fun as=>k ({p:=q,shared:=l}::as)
def zEa:List Nat→List (Bool×PV)→(List Arg→PM)→PM
 | _,[],k=>k []
 | ms,(true,p)::ps,k=>zEa ms.tail ps fun as=>k ({p:=p}::as)
 | ms,(false,p)::ps,k =>
  bif Nat.beq (ms.headD 0) 1 then zEa ms.tail ps fun as=>k ({p:=p,byref:=true}::as)
  else zLO zAb zDw p fun q=>zEa ms.tail ps fun as=>k ({p:=q}::as)
def zNC:List Nat→(List PV→PM)→PM
 | [],k=>k []
 | r::rs,k => .get r fun p=>zNC rs fun ps=>k (p::ps)
def zGg (old new:PV):Bool :=
 match new,old with
 | .own sz _,.own sz' _=>Nat.beq sz sz'
 | .own ..,_=>false
 | .box _,.box _=>true
 | .box _,_=>false
 | .omap _,.omap _=>true
 | .omap _,_=>false
 | .lock _,_=>false
 | .tup _,_=>false
 | _,_=>true
def zNe:List Nat→List PV→List PV→PM→PM
 | r::rs,o::os,p::ps,k=>bif zGg o p then .wnode r [] p (zNe rs os ps k) else .fail
 | [],[],[],k=>k
 | _,_,_,_ => .fail
def zKM:Nat→List Nat→(List Nat→PM)→PM
 | 0,R,k=>k R
 | n+1,R,k=>zNC R fun ts=>let R':=(R++ts.flatMap zNH).eraseDups;bif Nat.beq R'.length R.length then k R else zKM n R' k
def zKn:List Nat→PM→PM
 | [],k=>k
 | r::rs,k => .killEx r [] (zKn rs k)
def zOf (as:List Arg):List Nat:=(as.flatMap fun a=>if a.byref then zNH a.p else []).eraseDups
def zGW:List Nat→Bool
 | []=>true
 | r::rs => !rs.contains r&&zGW rs
variable (P:Program) (H:zBh)
def zDu (R:List Nat):List (Nat×Nat):=R.zipIdx.map fun (r,j)=>(r,zAl+j)
def zCg (R:List Nat):List (Nat×Nat):=R.zipIdx.map fun (r,j)=>(zAl+j,r)
def zQC (d:Option Nat) (f:FuncId) (as:List Arg) (again:PM):PM :=
 zKM 3 (zOf as) fun R =>
 bif zGW R&&R.all (fun r=>Nat.blt r zAb)&&Nat.ble R.length 1000&&Nat.ble as.length 1000&&(as.flatMap (·.shared)).all (fun x => !R.contains x.1) then
  zNC R fun hid => .call f (as.map fun a=>if a.byref then zGy (zDu R) a.p else a.p) (hid.map (zGy (zDu R))) fun v hO =>
   bif (as.flatMap (·.shared)).isEmpty||v.free&&zFk hO then
    zKn R<|zNe R hid (hO.map (zGy (zCg R))) (zDp d (zGy (zCg R) v))
   else again
 else .fail
def zNW (d:Option Nat) (f:FuncId) (args:List PV):PM :=
 zD6 (H f).mode args fun bs=>zCB (H f).mode bs fun as=>zQC d f as (zEa (H f).mode bs fun as=>zQC d f as .fail)
def zXj:List PV→Option PV
 | .int k a::r=>(r.foldl (fun m p=>match m,p with
  | some m,.int k' b=>if k=k' then some (if b>m then b else m) else none
  | _,_=>none) (some a)).map (.int k)
 | _=>none
def zXl:List PV→Option PV
 | .int k a::r=>(r.foldl (fun m p=>match m,p with
  | some m,.int k' b=>if k=k' then some (if b<m then b else m) else none
  | _,_=>none) (some a)).map (.int k)
 | _=>none
def zIC {α:Type} (x:Option α) (k:α→PM):PM :=
 match x with
 | some a=>k a
 | none => .fail
def zUg:PV→(Bool→PM)→PM
 | .bool b,k=>k b
 | _,_ => .fail
def zGk:PV→(Nat→PM)→PM
 | .int _ n,k=>if 0≤n then k n.toNat else .fail
 | _,_ => .fail
def zAS:Nat:=4294967296
def zGo (r:Nat) (pre:zAU):Nat→List PV→PM→PM
 | _,[],k=>k
 | i,y::ys,k=>zDS r pre i 0 y.cells (.wcells r pre i 0 y.cells (zGo r pre (i+1) ys k))
def zLc (d:Option Nat) (r:Nat) (pre:zAU) (z lo n s:Nat) (xs ys:List PV):PM :=
 bif Nat.blt 0 z&&Nat.beq z s&&Nat.ble (lo+n+ys.length) xs.length&&ys.all (fun y=>y.plain) then zGo r pre (lo+n) ys (put d (.bor r pre z lo (n+ys.length))) else .fail
def zK5 (d:Option Nat) (sz:Nat) (base:PV) (ys:List PV):PM :=
 bif ys.all (fun y=>Nat.beq y.cells.length sz&&y.cells.all fun q=>q.oneCell)&&(zBA ys).isEmpty then
 match base with
 | .bor r pre z lo n => .deep r pre fun q=>match q with
  | .own s xs =>
   bif Nat.beq s sz&&Nat.ble (lo+n) xs.length&&Nat.ble (xs.length+ys.length) zAS then
    bif Nat.beq (lo+n) xs.length then
     bif Nat.beq lo 0 then .wnode r pre .bad (put d (.own sz (xs++ys))) else .fail
    else zLc d r pre z lo n s xs ys
   else .fail
  | _ => .fail
 | .nils _=>bif Nat.ble ys.length zAS then put d (.own sz ys) else .fail
 | _ => .fail
 else .fail
def zNo (x:Operand) (k:List PV→PM):PM :=
 match x with
 | .tmp t => .get t fun p=>match p with
  | .own _ xs => .set t .bad (k xs)
  | _ => .view t fun p=>zGN p fun xs=>if xs.all (fun x=>x.plain) then k xs else .fail
 | x=>opd x fun p=>zGN p fun xs=>if xs.all (fun x=>x.plain) then k xs else .fail
def zRg (d:Option Nat) (z:Option PV×Option Nat) (p:PV):PM :=
 match p,d,z.1,z.2 with
 | .bor r pre z lo n,none,some q,some s=>bif Nat.blt 0 z&&Nat.beq z s&&Nat.beq q.cells.length s&&q.plain then zGo r pre lo (List.replicate n q) .ok else .fail
 | .sl [],none,some _,some _ => .ok
 | .nils _,none,some _,some _ => .ok
 | _,_,_,_ => .fail
def zBu (d:Option Nat) (b:Builtin) (ts:List TypeId) (args:List Operand):PM :=
 match b,args,ts with
 | .len,[x],t::_=>opd x fun p=>match P.underlying t with
  | some (.array n _)=>put d (.int .i64 n)
  | some (.slice _)=>match lenOf p with
   | some n=>put d (.int .i64 n)
   | none => .fail
  | _ => .fail
 | .append,[x,y],[t,t2]=>bif (zBW P t2).isNone then .fail else match (zBW P t).bind (szT P),(zBW P t).bind (zHX P),(zBW P t).bind (zCK P) with
  | some sz,some by_,some z=>if by_≤16384∧z.cells.length=sz then opd x fun base=>zNo y fun ys=>zK5 d sz base ys else .fail
  | _,_,_ => .fail
 | .copy,[x,y],t::_=>zIC ((zBW P t).bind (szT P)) fun s=>opd x fun p=>opd y fun q=>zGN q fun ys=>match p with
  | .bor r pre z lo n=>bif Nat.beq z s&&Nat.blt 0 z&&Nat.ble ys.length n&&ys.all (fun y=>y.plain&&Nat.beq y.cells.length s) then zGo r pre lo ys (put d (.int .i64 ys.length)) else .fail
  | _ => .fail
 | .clear,[x],t::_=>opd x fun p=>zRg d ((zBW P t).bind (zCK P),(zBW P t).bind (szT P)) p
 | .max,xs,_=>zTq xs fun ps=>match zXj ps with
  | some v=>put d v
  | none => .fail
 | .min,xs,_=>zTq xs fun ps=>match zXl ps with
  | some v=>put d v
  | none => .fail
 | _,_,_ => .fail
def zFx (place:Nat→Option (Nat×Nat)):List PV→List (Nat×PV)→Option (List PV)
 | z,[]=>some z
 | z,(i,v)::r=>match place i with
  | some (off,n)=>if v.cells.length=n∧off+n≤z.length∧v.whole=true then zFx place (z.take off++v.cells++z.drop (off+n)) r else none
  | none=>none
def zPc (place:Nat→Option (Nat×Nat)) (z:List PV) (ps:List (Nat×Operand)) (k:List PV→PM):PM :=
 zTf (ps.map (·.2)) fun vs=>match zFx place z ((ps.map (·.1)).zip vs) with
  | some cs=>k cs
  | none => .fail
def zLR (n:Nat) (z:PV) (ps:List (Nat×PV)):List PV :=
 ps.foldl (fun xs (i,v)=>xs.set i v) (List.replicate n z)
def zLp (t:TypeId) (i:Nat):Option Field :=
 match P.underlying t with
 | some (.struct fs)=>fs[i]?
 | _=>none
def zN9 (p:PV) (off:Nat) (sh:Option Nat):Option PV :=
 match p with
 | .ref q=>match sub q off sh with
  | some x=>bif sh.isSome||x.oneCell then some (.ref x) else none
  | none=>none
 | .addr r pre i c (some _)=>some (.addr r pre i (c+off) sh)
 | _=>none
def zCo (p:PV) (off:Nat) (sh:Option Nat):Option PV :=
 match sh with
 | some 0=>none
 | sh=>zN9 p off sh
def zSD (x:Option Operand) (n:Nat) (k:Nat→PM):PM :=
 match x with
 | some x=>opd x fun p=>zGk p k
 | none=>k n
def zOP (d:Option Nat) (s:Nat) (p:PV) (l h:Nat):PM :=
 match p with
 | .sl xs=>bif Nat.ble l h&&Nat.ble h xs.length&&xs.all (fun x=>Nat.beq x.cells.length s) then put d (.sl ((xs.drop l).take (h-l))) else .fail
 | .bor r pre z a n =>
  bif Nat.beq z s&&Nat.ble l h then
   bif Nat.ble h n then put d (bif Nat.beq l 0||Nat.blt l h then .bor r pre z (a+l) (h-l) else .sl [])
   else .deep r pre fun q=>match q with
    | .own _ xs=>bif Nat.ble (a+h) xs.length then put d (bif Nat.beq l 0||Nat.blt l h then .bor r pre z (a+l) (h-l) else .sl []) else .fail
    | _ => .fail
  else .fail
 | _ => .fail
def zR3 (d:Option Nat) (n s:Nat) (sh:Option Nat) (p:PV) (l h:Nat):PM :=
 bif Nat.ble l h&&Nat.ble h n&&(Nat.beq l 0||Nat.blt l n) then
  match p with
  | .addr r pre i c _=>put d (.bsl r pre i (c+l*s) s sh.isSome (h-l))
  | .ref (.agg cs)=>bif Nat.ble (n*s) cs.length&&zCm sh.isSome s (h-l) ((cs.drop (l*s)).take ((h-l)*s))&&(zBA cs).isEmpty then put d (.sl (zCp sh.isSome s (h-l) ((cs.drop (l*s)).take ((h-l)*s)))) else .fail
  | _ => .fail
 else .fail
def zJt (d:Option Nat) (t:TypeId) (x:Operand) (lo hi mx:Option Operand):PM :=
 match mx with
 | some m=>opd x fun p=>match p,P.underlying t with
  | .bor _ _ _ _ n,some (.slice e)=>zIC (szT P e) fun _=>zSD (some m) n fun m=>match hi with
   | some hi=>zSD (some hi) n fun h=>zSD lo 0 fun l=>bif Nat.ble l h&&Nat.ble h m&&Nat.ble m n then put d .bad else .fail
   | none => .fail
  | _,_ => .fail
 | none=>opd x fun p=>match P.underlying t with
  | some (.array n e)=>match szT P e,shT P e with
   | some s,some sh=>zSD hi n fun h=>zSD lo 0 fun l=>zR3 d n s sh p l h
   | _,_ => .fail
  | some (.slice e)=>match szT P e,lenOf p with
   | some s,some n=>zSD hi n fun h=>zSD lo 0 fun l=>zOP d s p l h
   | _,_ => .fail
  | _ => .fail
def zNO (p:PV) (k:PV→PM) (k2:PM):PM :=
 match p with
 | .bor r pre _ lo n => .deep r pre fun q=>match q with
  | .own sz xs=>bif Nat.beq lo 0&&Nat.beq n xs.length then .wnode r pre .bad (k (.own sz xs)) else k2
  | _=>k2
 | .bmap r pre => .deep r pre fun q=>match q with
  | .omap es => .wnode r pre .bad (k (.omap es))
  | _=>k2
 | p=>k p
def zMU (p:PV) (k:PV→PM):PM:=zNO p k (zLO zAb zDw p k)
def zJP:List PV→(List PV→PM)→PM
 | [],k=>k []
 | p::ps,k=>zNO p (fun q=>zJP ps fun qs=>k (q::qs)) .fail
def zFy (tk:Bool) (p:PV) (k:PV→PM):PM :=
 match p with
 | .agg cs=>bif tk then zJP cs fun cs=>k (.agg cs) else bif cs.any (fun c=>match c with | .bor .. | .bmap .. | .bsl .. => true | _=>false) then zLO zAb zDw p k else k p
 | .bsl .. => zLO zAb zDw p k
 | .bor .. | .bmap .. => bif tk then zMU p k else zLO zAb zDw p k
 | p=>k p
def zFX (tk:Bool):List PV→(List PV→PM)→PM
 | [],k=>k []
 | p::ps,k=>zFy tk p fun q=>zFX tk ps fun qs=>k (q::qs)
def zQW (r:Nat) (pre:zAU) (i c:Nat):PV→Option Nat
 | .bor r' q z 0 n=>if r'=r&&q=pre++[(i,c)] then some n else none
 | _=>none
def zH4 (r:Nat) (pre:zAU) (i c:Nat) (v:PV):PM :=
 bif (!v.heavy||v.ways.all (fun w => !(zAL r pre w.1 w.2&&Nat.blt pre.length w.2.length)))&&v.cells.all (fun q=>q.oneCell) && !v.cells.isEmpty then zDS r pre i c v.cells (.wcells r pre i c v.cells .ok) else .fail
def zIs (tk:Bool) (r:Nat) (pre:zAU) (v:PV) (k:PV→PM):PM :=
 bif pre.isEmpty && !tk then .view r fun q=>(match q with | .addr .. => k v | _=>zFy tk v k) else zFy tk v k
def zHT (tk:Bool) (r:Nat) (pre:zAU) (i c:Nat) (v:PV):PM :=
 match zQW r pre i c v with
 | some m => .deep r (pre++[(i,c)]) fun q=>match q with
  | .own s xs=>bif Nat.ble m xs.length then .wnode r (pre++[(i,c)]) .bad (zH4 r pre i c (.own s ((xs.drop 0).take m))) else .fail
  | _ => .fail
 | none=>zIs tk r pre v fun v=>zH4 r pre i c v
def zOy (fz tk:Bool) (t:TypeId) (a x:Operand):PM :=
 opd a fun pa=>match pa,x with
 | .addr r pre i c _,.const (.slice none 0 0)=>zIC ((zBW P t).bind (szT P)) fun s=>if szT P t=some 1 then zHT tk r pre i c (.own s []) else .fail
 | pa,x=>match pa,shT P t,szT P t with
 | .addr r pre i c _,some sh,some n=>(bif fz&&tk then opd x else zPa x) fun v =>
  bif Nat.beq v.cells.length n&&v.isAgg==sh.isSome then zHT (tk && !fz) r pre i c (bif fz && !tk then zAV v else v) else .fail
 | _,_,_ => .fail
def zUc (d:Option Nat) (t:TypeId):PM :=
 match (zBW P t).bind (szT P) with
 | some s=>put d (.own s [])
 | none => .fail
def zL1 (d:Option Nat) (t:TypeId) (s:Nat):PM :=
 match P.underlying t,d with
 | some (.tuple ts),some d' => .get s fun m=>match m with
  | .tup ps=>if ps.length=ts.size∧ts.size≤16 then .set d' .bad (zFK s d' 0 ts.size) else .fail
  | _ => .fail
 | _,_=>opd (.tmp s) (put d)
def zQ8 (d:Option Nat) (t:TypeId) (x:Operand):PM :=
 match x with
 | .const (.slice none 0 0)=>zUc P d t
 | .tmp s=>zL1 P d t s
 | x=>opd x (put d)
def zFS (d:Option Nat) (p:PV):PM :=
 match d,p with
 | some d',.bor r [] z lo n=>if r=d' then .get r fun root=>match root with
   | .own sz xs=>bif Nat.ble (lo+n) xs.length then .kill r [] (.set r (.own sz ((xs.drop lo).take n)) .ok) else .fail
   | _ => .fail
  else put d p
 | _,_=>put d p
def zF6 (tk nl:Bool) (d:Option Nat) (t:TypeId) (x:Operand):PM :=
 match x with
 | .const (.slice none 0 0)=>bif nl then zIC ((zBW P t).bind (szT P)) fun s=>put d (.nils s) else zUc P d t
 | x=>zPa x fun p=>bif tk then zMU p (zFS d) else zFS d p
def zUk (d:Option Nat) (c a b:Operand):PM:=opd c fun p=>zUg p fun t=>opd (if t then a else b) (put d)
def zSf (t:TypeId):PV→PV
 | .nils k=>match (zBW P t).bind (szT P) with
  | some s => .own s []
  | none => .nils k
 | z=>z
def zQn (d:Option Nat) (t:TypeId):PM:=zIC (zCK P t) fun z=>put d (.box (zSf P t z))
def zTW (d:Option Nat) (t:TypeId) (x:Operand):PM:=zPa x fun p=>match shT P t,szT P t with
 | some sh,some n=>if p.cells.length=n&&p.isAgg=sh.isSome&&p.whole then put d (.box p) else .fail
 | _,_ => .fail
def zNc (d:Option Nat) (t:TypeId) (ps:List (Nat×Operand)):PM :=
 match P.underlying t,(zCK P t).map PV.cells with
 | some (.struct fs),some z=>bif fs.all (fun f=>(szT P f.type).isSome) then zPc (fun i=>(fs[i]?).bind fun f=>(szT P f.type).map fun n=>(f.offset,n)) z ps (fun cs=>put d (.agg cs)) else .fail
 | some (.array _ e),some z=>zIC (szT P e) fun n=>zPc (fun i=>some (i*n,n)) z ps fun cs=>put d (.agg cs)
 | _,_ => .fail
def zXk:Option PV→Option Nat
 | some (.own s [])=>some s
 | _=>none
def zW6 (nz:Option Nat) (x:Operand) (k:PV→PM):PM :=
 match nz,x with
 | some s,.const (.slice none 0 0)=>k (.own s [])
 | _,x=>zPa x k
def zQa (nz:Option Nat):List Operand→(List PV→PM)→PM
 | [],k=>k []
 | x::xs,k=>zW6 nz x fun p=>zQa nz xs fun ps=>k (p::ps)
def zDI (tk:Bool) (d:Option Nat) (t:TypeId) (n:Nat) (ps:List (Nat×Operand)):PM :=
 match zBW P t with
 | some e=>match szT P e,zCK P e with
  | some s,some z=>if n*s≤65536&&Nat.beq z.cells.length s&&ps.all (fun x=>x.1<n) then zQa (zXk (zCK P e)) (ps.map (·.2)) fun vs=>zFX tk vs fun vs =>
    if (zBA vs).isEmpty&&vs.all (fun v=>v.cells.length=s&&v.isAgg=z.isAgg&&v.whole) then put d (.own s (zLR n z ((ps.map (·.1)).zip vs))) else .fail
   else .fail
  | _,_ => .fail
 | none => .fail
def zPP (d:Option Nat) (sh:Option Nat) (p:PV):PM :=
 match p with
 | .ref q=>if q.isAgg=sh.isSome&&q.cells.length=sh.getD 1 then put d q else .fail
 | .addr r pre i c _=>zMC r pre i c sh (put d)
 | _ => .fail
def zO6 (tk:Bool) (d:Option Nat) (t:TypeId) (a:Operand):PM:=zIC (shT P t) fun sh=>opd a fun p =>
 bif tk then (match p with
  | .addr r pre i c _=>zMC r pre i c sh fun v=>zLO zAb zDw v (put d)
  | p=>zPP d sh p) else zPP d sh p
def zXR (d:Option Nat) (p:PV):PM :=
 match p with
 | .addr .. | .ref _ | .func .. | .yld _=>put d p
 | _ => .fail
def zTR (d:Option Nat) (op:BinOp) (t:TypeId) (x y:Operand):PM:=opd x fun p=>opd y fun q=>zIC (zHt P op t p q) (put d)
def unV (d:Option Nat) (op:UnOp) (p:PV):PM :=
 match op,p with
 | .not,.bool b=>put d (.bool !b)
 | .neg,.int k n=>put d (.int k (k.wrap (0-n)))
 | _,_ => .fail
def zQF (d:Option Nat) (t:TypeId) (p:PV):PM :=
 match P.underlying t,p with
 | some (.int k),.int _ n=>put d (.int k (k.wrap n))
 | _,_ => .fail
def zKj (d:Option Nat) (f:FuncId) (first caps:List Operand):PM:=zTq first fun a=>zTq caps fun b=>put d (.func f a b)
def zEZ (d:Option Nat) (t:TypeId) (l c:Operand):PM :=
 opd l fun l=>zGk l fun l=>opd c fun c=>zGk c fun c=>match zBW P t with
 | some e=>match zCK P e,szT P e,zHX P e with
  | some z,some s,some b=>if l≤c∧c≤zAS∧b≤16384∧z.cells.length=s then put d (.own s (List.replicate l z)) else .fail
  | _,_,_ => .fail
 | none => .fail
def zJJ (d:Option Nat) (t:TypeId) (x:Operand) (i:Nat):PM :=
 opd x fun p=>zIC (zLp P t i) fun f=>zIC (shT P f.type) fun sh=>zIC (zCo p f.offset sh) (put d)
def zQP (d:Option Nat) (t:TypeId) (x:Operand) (i:Nat):PM :=
 opd x fun p=>zIC (zLp P t i) fun f=>zIC (shT P f.type) fun sh=>zIC (sub p f.offset sh) (put d)
def zOB (d:Option Nat) (n:Nat) (e:TypeId) (p:PV) (i:Nat):PM :=
 match szT P e,shT P e with
 | some s,some sh=>if i<n then zIC (zCo p (i*s) sh) (put d) else .fail
 | _,_ => .fail
def zQv (d:Option Nat) (e:TypeId) (p:PV) (i:Nat):PM :=
 match p with
 | .sl xs=>zIC (xs[i]?) fun x=>if szT P e=some x.cells.length then put d (.ref x) else .fail
 | .bor r pre z lo n=>match shT P e with
  | some sh=>if i<n∧szT P e=some z then put d (.addr r pre (lo+i) 0 sh) else .fail
  | none => .fail
 | .bsl r pre j c s ag n=>if i<n∧szT P e=some s then put d (.addr r pre j (c+i*s) (if ag then some s else none)) else .fail
 | _ => .fail
def zE1 (d:Option Nat) (t:TypeId) (x i:Operand):PM :=
 opd x fun p=>opd i fun i=>zGk i fun i=>match P.underlying t with
 | some (.array n e)=>zOB P d n e p i
 | some (.slice e)=>zQv P d e p i
 | _ => .fail
def zK4 (d:Option Nat) (t:TypeId) (x i:Operand):PM :=
 opd x fun p=>opd i fun i=>zGk i fun i=>match P.underlying t with
 | some (.array n e)=>match szT P e,shT P e with
  | some s,some sh=>if i<n then zIC (sub p (i*s) sh) (put d) else .fail
  | _,_ => .fail
 | _ => .fail
def PV.flat:PV→Bool
 | .agg cs=>cs.all PV.num
 | p=>p.num
def PV.lone0:PV→Bool
 | .int .. | .bool .. | .nilp | .nilf | .nilm | .nn | .nils _ | .sl .. | .map .. => true
 | _=>false
def PV.lone:PV→Bool
 | .agg cs=>cs.all PV.lone0
 | p=>p.lone0
def zJG:PV→PV
 | .own _ [] => .sl []
 | p=>p
def zTO (ok:TypeId→PV→Bool) (sh:TypeId→Option (Option Nat)) (p:PV):List Field→Bool
  | []=>true
  | f :: fs => (if f.name = "_" then true else match sh f.type with
    | some s=>match sub p f.offset s with
      | some a=>ok f.type a
      | none=>false
    | none=>false)&&zTO ok sh p fs
def zTY (ok:PV→Bool) (sh:Option Nat) (sz:Nat) (p:PV):Nat→Nat→Bool
 | _,0=>true
 | i,n+1=>(match sub p (i*sz) sh with
  | some a=>ok a
  | none=>false)&&zTY ok sh sz p (i+1) n
def zOL:Nat→TypeId→PV→Bool
 | 0,_,_=>false
 | n + 1,t,p =>
  match P.underlying t,p with
  | some (.int _),.int .. => true
  | some .bool,.bool _=>true
  | some (.struct fs),.agg xs=>zTO (zOL n) (shT P) (.agg xs) fs.toList
  | some (.array len e),.agg xs=>match szT P e,shT P e with
   | some sz,some sh=>zTY (zOL n e) sh sz (.agg xs) 0 len
   | _,_=>false
  | _,_=>false
def zDb (kt:TypeId) (key:PV):List (PV×PV)→Nat→Option (Option Nat)
 | [],_=>some none
 | (k,_)::es,i=>match eqT P 20 kt key k with
  | some true=>match zFO key.cells k.cells with
   | some true=>some (some i)
   | _=>none
  | some false=>zDb kt key es (i+1)
  | none=>none
def zI7 (d:Option Nat) (kt:TypeId) (z key:PV) (ok:Bool) (es:List (PV×PV)):PM :=
 match zDb P kt key es 0 with
 | some (some i)=>match es[i]? with
  | some (_,v)=>bif v.lone then zDp d (if ok then .tup [v,.bool true] else v) else .fail
  | none => .fail
 | some none=>zDp d (if ok then .tup [z,.bool false] else z)
 | none => .fail
def zS2 (d:Option Nat) (kt:TypeId) (z key:PV) (ok:Bool) (m:PV):PM :=
 match m with
 | .nilm=>zI7 P d kt z key ok []
 | .map es=>zI7 P d kt z key ok es
 | .bmap r pre => .deep r pre fun q=>match q with
  | .omap es=>zI7 P d kt z key ok es
  | _ => .fail
 | _ => .fail
def zIz (d:Option Nat) (t:TypeId) (m x:Operand) (ok:Bool):PM :=
 opd m fun m=>opd x fun key=>match P.underlying t with
 | some (.map kt e)=>bif zOL P 20 kt key then zIC (zCK P e) fun z=>bif (zJG z).lone then zS2 P d kt (zJG z) key ok m else .fail else .fail
 | _ => .fail
def zMA (kt:TypeId) (key v m:PV):PM :=
 match m with
 | .bmap r pre=>bif v.lone then .deep r pre fun q=>match q with
  | .omap es=>match zDb P kt key es 0 with
   | some (some i) => .wnode r pre (.omap (es.modify i fun _=>(key,v))) .ok
   | some none => .wnode r pre (.omap (es++[(key,v)])) .ok
   | none => .fail
  | _ => .fail else .fail
 | _ => .fail
def zE5 (t:TypeId) (m x y:Operand):PM:=opd m fun m=>opd x fun key=>match P.underlying t with
 | some (.map kt _)=>bif zOL P 20 kt key&&key.flat then zPa y fun v=>zLO zAb zDw v fun v=>zMA P kt key (zAV v) m else .fail
 | _ => .fail
def zN8 (d:Option Nat) (kt:TypeId) (z key m:PV):PM :=
 match m with
 | .bmap r pre => .deep r pre fun q=>match q with
  | .omap es=>match zDb P kt key es 0 with
   | some (some i)=>match es[i]? with
    | some (_,v)=>bif v.lone then .wnode r pre (.omap (es.modify i fun _=>(key,v))) (zDp d (.tup [v,.int .i64 i])) else .fail
    | none => .fail
   | some none => .wnode r pre (.omap (es++[(key,z)])) (zDp d (.tup [z,.int .i64 es.length]))
   | none => .fail
  | _ => .fail
 | _ => .fail
def zF3 (d:Option Nat) (t:TypeId) (m x:Operand):PM:=opd m fun m=>opd x fun key=>match P.underlying t with
 | some (.map kt el)=>bif zOL P 20 kt key&&key.flat then zIC (zCK P el) fun z=>bif (zJG z).lone then zN8 P d kt (zJG z) key m else .fail else .fail
 | _ => .fail
def zID (i:Nat) (v m:PV):PM :=
 match m with
 | .bmap r pre=>bif v.lone then .deep r pre fun q=>match q with
  | .omap es=>match es[i]? with
   | some (k,_) => .wnode r pre (.omap (es.modify i fun _=>(k,v))) .ok
   | none => .fail
  | _ => .fail else .fail
 | _ => .fail
def zEo (m s y:Operand):PM:=opd m fun m=>opd s fun s=>zGk s fun i=>zPa y fun v=>zLO zAb zDw v fun v=>zID i (zAV v) m
def zIN (d:Option Nat) (s i:Nat):PM := .get s fun m=>match m with
 | .tup ps=>bif Nat.blt i ps.length then .get (zBw s i) fun p=>bif p.heavy then .set (zBw s i) .bad (put d p) else put d p else .fail
 | _ => .fail
def zUa (d:Option Nat) (args:List Operand) (g:PV):PM :=
 match g with
 | .func g first caps=>zTq args fun as=>zNW H d g (first++as++caps)
 | _ => .fail
def zIY (d:Option Nat) (c:Call):PM :=
 match c.callee with
 | .builtin b=>zBu P d b c.argTypes.toList c.args.toList
 | .value f=>opd f (zUa H d c.args.toList)
 | _ => .fail
def opM (fz tk nl:Bool) (o:Oper):PM :=
 match o.op with
 | .move x=>zQ8 P o.dst o.type x
 | .assign x=>zF6 P tk nl o.dst o.type x
 | .pick c a b=>zUk o.dst c a b
 | .alloc t=>zQn P o.dst t
 | .box t x=>zTW P o.dst t x
 | .build t ps=>zNc P o.dst t ps.toList
 | .buildSlice t n ps=>zDI P tk o.dst t n ps.toList
 | .load t a=>zO6 P tk o.dst t a
 | .store t a x=>zOy P fz tk t a x
 | .nilCheck x=>opd x (zXR o.dst)
 | .binOp op t x y _=>zTR P o.dst op t x y
 | .unOp op _ x=>opd x (unV o.dst op)
 | .convert _ t x=>opd x (zQF P o.dst t)
 | .makeFunc (.func f) first caps=>zKj o.dst f first.toList caps.toList
 | .makeMap _ none=>put o.dst (.omap [])
 | .makeSlice t l c=>zEZ P o.dst t l c
 | .slice t x lo hi mx=>zJt P o.dst t x lo hi mx
 | .fieldAddr t x i=>zJJ P o.dst t x i
 | .field t x i=>zQP P o.dst t x i
 | .indexAddr t x i=>zE1 P o.dst t x i
 | .index t x i=>zK4 P o.dst t x i
 | .lookup t m x ok=>zIz P o.dst t m x ok
 | .mapUpdate t m x y=>zE5 P t m x y
 | .mapEntry t m x=>zF3 P o.dst t m x
 | .entryStore _ m s x=>zEo m s x
 | .extract (.tmp s) i=>zIN o.dst s i
 | .call c=>zIY P H o.dst c
 | _ => .fail
def zFP (ops:Array Oper) (fz tk nl:Bool) (o:Oper):PM :=
 match o.guard with
 | none=>opM P H fz tk nl o
 | some (j,want)=>match (ops[j]?).bind (·.dst) with
  | some t => .get t fun p=>match p with
   | .bool b=>if b=want then opM P H fz tk nl o else put o.dst .und
   | .und=>put o.dst .und
   | _ => .fail
  | none => .fail
structure Log where
 xs:List (List PV)
 k:Int
 at_:Nat
 deriving Inhabited
def zQb (e:Env):Operand→PV
 | .tmp t=>view t (e.get t)
 | .const v=>zEB v
 | _ => .bad
def zCf (e:Env) (o:Oper):Option (Nat×List PV) :=
 match o.op with
 | .call c=>match c.callee with
  | .value (.tmp t)=>match e.get t with
   | .yld h=>some (h,c.args.toList.map (zQb e))
   | _=>none
  | _=>none
 | _=>none
def zLD (ops:Array Oper) (e:Env) (o:Oper):Option Bool :=
 match o.guard with
 | none=>some true
 | some (j,want)=>match (ops[j]?).bind (·.dst) with
  | some t=>match e.get t with
   | .bool b=>some (b==want)
   | .und=>some false
   | _=>none
  | none=>none
def zBT (orc:zAF) (ops:Array Oper) (o:Oper) (h:Nat) (args:List PV) (l:Log) (e:Env):Option (Env×Option Log) :=
 match zLD ops e o with
 | some true=>bif args.all PV.flat&&l.k != 0&&Nat.beq h l.at_ then
   (bif l.k==1 then (put o.dst (.bool false)).run orc (e.forget zAb) else (put o.dst (.bool true)).run orc e).map fun e'=>(e',some ⟨l.xs++[args],l.k-1,l.at_⟩)
  else none
 | some false=>((put o.dst .und).run orc e).map fun e'=>(e',some l)
 | none=>none
def zCT (orc:zAF) (fz tk nl:Bool) (ops:Array Oper) (o:Oper) (e:Env) (lg:Option Log):Option (Env×Option Log) :=
 match lg with
 | none=>((zFP P H ops fz tk nl o).run orc e).map fun e'=>(e',none)
 | some l=>match zCf e o with
  | some (h,args)=>zBT orc ops o h args l e
  | none=>((zFP P H ops fz tk nl o).run orc e).map fun e'=>(e',some l)
def zEj (orc:zAF) (fz tk nl:Bool) (ops:Array Oper) (o:Oper) (e:Env) (lg:Option Log):Option (Env×Option Log×Tok) :=
 match lg with
 | none=>((zFP P H ops fz tk nl o).runT orc e).map fun x=>(x.1,none,x.2)
 | some l=>match zCf e o with
  | some (h,args)=>(zBT orc ops o h args l e).map fun x=>(x.1,x.2,{all:=true})
  | none=>((zFP P H ops fz tk nl o).runT orc e).map fun x=>(x.1,some l,x.2)
def zBf (orc:zAF) (fzs tks:List Nat) (nl:Bool) (ops:Array Oper):List Oper→Nat→Env→Option Log→Option (Env×Option Log)
 | [],_,e,lg=>some (e,lg)
 | o::l,i,e,lg=>match zCT P H orc (fzs.contains i) (tks.contains i) nl ops o e lg with
  | some (e',lg')=>zBf orc fzs tks nl ops l (i+1) e' lg'
  | none=>none
def zHW (acc:List Nat) (o:Oper):Nat:=o.after.toList.foldl (fun s e=>if Region.binds .any e then s ||| 2 ^ e.on ||| acc.getD e.on 0 else s) 0
def zF8 (b:Nat) (t:Tok):Nat→List Tok→Bool
 | _,[]=>true
 | j,u::us=>(b.testBit j || !zPl u t)&&zF8 b t (j+1) us
def zCz (orc:zAF) (fzs tks:List Nat) (nl:Bool) (ops:Array Oper):List Oper→Nat→List Nat→List Tok→Env→Option Log→Option (Env×Option Log)
 | [],_,_,_,e,lg=>some (e,lg)
 | o :: l,i,acc,ts,e,lg =>
  match zEj P H orc (fzs.contains i) (tks.contains i) nl ops o e lg with
  | some (e',lg',t) =>
   bif o.after.toList.all (fun e => !Region.binds .any e||Nat.blt e.on i)&&zF8 (zHW acc o) t 0 ts then zCz orc fzs tks nl ops l (i+1) (acc++[zHW acc o]) (ts++[t]) e' lg' else none
  | none=>none
inductive X where
 | norm | ex (id:Nat) | ret
 deriving DecidableEq
def zMn (l:List Nat) (s:Nat):Bool:=l.contains (if 2000000≤s then (s-2000000) / 16 else s)
def Env.drop (e:Env) (l:List Nat):Env :=
 e.filter fun x => !zMn l x.1
def Env.put (e:Env) (k:Nat) (v:PV):Env :=
 match v with
 | .bad=>e.filter fun x => !Nat.beq x.1 k
 | v=>e.set k v
def Env.norm:Env→Env
 | []=>[]
 | (k,v)::e=>(Env.norm e).put k v
def zAT:Code→Nat
 | .region id _ _=>id
 | .seq a _=>zAT a
 | .block _ b=>zAT b
 | .loop b=>zAT b
 | _=>0
def zBS:Code→List Nat
 | .region _ ops _=>ops.toList.filterMap (·.dst)
 | .seq a b=>zBS a++zBS b
 | .cond _ a b=>zBS a++zBS b
 | .block _ b=>zBS b
 | .loop b=>zBS b
 | .scope b=>zBS b
 | _=>[]
def zCv:List Tmp→List PV→Env→Option Env
 | [],[],e=>some e
 | t::ts,v::vs,e=>if (e.get t).heavy then none else zCv ts vs (e.set t v)
 | _,_,_=>none
def zEu:List Nat→Env→Option Env
 | [],e=>some e
 | r::R,e=>bif Nat.blt r zAb then match e.frz r [] with
  | some e'=>zEu R e'
  | none=>none
  else none
def zWp (R:List Nat) (e:Env):Env :=
 match zEu R e with
 | some e'=>e'
 | none=>e
def zCW (e:Env) (R:List Nat):List Nat:=R++(e.filter fun x=>x.2.heavy && !R.contains x.1&&x.2.ways.any fun w=>R.contains w.1).map (·.1)
def zF0 (e:Env) (R:List Nat):Bool:=R.all fun r=>(e.get r).ways.all fun w=>R.contains w.1
def after (nt:Nat) (R ds:List Nat) (e0 e:Env):Env:=e0.map fun x =>
 (x.1,bif R.contains x.1 || !x.2.heavy&&x.2.ways.all (fun w=>R.contains w.1) then x.2 else bif !(Nat.blt x.1 nt && !ds.contains x.1||Nat.ble zAl x.1&&Nat.blt x.1 zAA) then .bad else bif (R.isEmpty||(e.get x.1).free) && !(e.get x.1).isTup then e.get x.1 else .bad)
def zC9 (nt:Nat) (run:Code→Env→Option (X×Env)) (ps:List Tmp) (assign body:Code) (R ds:List Nat):List (List PV)→Env→Nat→Option (Option (Nat×X)×Env)
 | [],e,_=>some (none,e)
 | x :: xs,e,j =>
  let round (e:Env):Option (X×Env):=match zCv ps x e with
   | some e1=>match run assign e1 with
    | some (.norm,e2)=>run body e2
    | _=>none
   | none=>none
  match round e with
  | some (.norm,e3)=>match R with
   | []=>zC9 nt run ps assign body R ds xs (after nt [] ds e e3) (j+1)
   | r :: R=>match (bif zF0 e (zCW e (r::R)) then zEu (zCW e (r::R)) e else none) with
    | some e1=>match round e1 with
     | some (.norm,e3)=>zC9 nt run ps assign body (r::R) ds xs (after nt (zCW e (r::R)) ds e e3) (j+1)
     | _=>none
    | none=>none
  | some (r,e3)=>some (some (j+1,r),after nt [] ds e e3)
  | none=>none
def zDF (e:Env) (t:Nat):Option (FuncId×List PV×List PV×List Nat) :=
 match (zPp (view t (e.get t)) fun q l => .set 0 (.tup [q]) (.set 1 (.tup (l.map fun x => .int .i64 x.1)) .ok)).run (fun _ _ _=>none) e with
 | some e'=>match e'.get 0,e'.get 1 with
  | .tup [.func g first caps],.tup l=>some (g,first,caps,(l.filterMap fun | .int _ n=>some n.toNat | _=>none).eraseDups)
  | _,_=>none
 | none=>none
abbrev zCV:=FuncId→List PV→Nat→List PV→Int→Option (List (List PV))
abbrev All:=(Nat→Option (List (List PV)))→Option (List (List PV))
def zG0 (nt:Nat) (yo:zCV) (al:All) (run:Code→Env→Option (X×Env)) (t:Tmp) (ps:List Tmp) (assign body:Code) (e:Env):Option (X×Env) :=
 match zDF e t with
 | some (g,first,caps,R) =>
  match al (fun i=>yo g first i caps (-1)) with
  | some xs=>match zC9 nt run ps assign body R (ps++zBS assign++zBS body) xs e 0 with
   | some (none,e')=>some (.norm,e')
   | some (some (j,_),_)=>match al (fun i=>yo g first i caps j) with
    | some ys=>match zC9 nt run ps assign body R (ps++zBS assign++zBS body) ys e 0 with
     | some (some (j',r),e')=>if j'=j∧ys.length=j then some (r,e') else none
     | _=>none
    | none=>none
   | none=>none
  | none=>none
 | none=>none
def exec (orc:zAF) (yo:zCV) (al:All) (nt:Nat) (h:FHint):Nat→Code→Env→Option Log→Option (X×Env×Option Log)
 | 0,_,_,_=>none
 | n + 1,c,e,lg=>match c with
  | .skip=>some (.norm,e,lg)
  | .region id ops draw=>match (if draw then zCz P H orc (h.frzs id) (h.take id) h.nils ops ops.toList 0 [] [] e lg else zBf P H orc (h.frzs id) (h.take id) h.nils ops ops.toList 0 e lg) with
   | some (e',lg')=>some (.norm,(e'.drop (h.drop id)).norm,lg')
   | none=>none
  | .seq a b=>match exec orc yo al nt h n a e lg with
   | some (.norm,e',lg')=>exec orc yo al nt h n b e' lg'
   | r=>r
  | .cond c a b=>match c with
   | .tmp t=>match e.get t with
    | .bool true=>exec orc yo al nt h n a e lg
    | .bool false=>exec orc yo al nt h n b e lg
    | _=>none
   | .const (.bool true)=>exec orc yo al nt h n a e lg
   | .const (.bool false)=>exec orc yo al nt h n b e lg
   | _=>none
  | .block id b=>match exec orc yo al nt h n b e lg with
   | some (.ex id',e')=>some (if id'=id then .norm else .ex id',e')
   | r=>r
  | .loop b=>match exec orc yo al nt h n b (e.drop (h.loopDrop (zAT b))) lg with
   | some (.norm,e',lg')=>exec orc yo al nt h n (.loop b) e' lg'
   | r=>r
  | .exit id=>some (.ex id,zWp (h.ices id) e,lg)
  | .ret=>some (.ret,e,lg)
  | .label _=>some (.norm,e,lg)
  | .scope b=>exec orc yo al nt h n b e lg
  | .rangeFunc (.tmp t) ps assign body=>match lg with
   | none=>(zG0 nt yo al (fun c e=>match exec orc yo al nt h n c e none with | some (x,e',none)=>some (x,e') | _=>none) t ps.toList assign body e).map fun x=>(x.1,x.2,none)
   | some _=>none
  | _=>none
def zRb (p:PV) (k:PV→PM) (k2:PM):PM :=
 match p with
 | .bor r pre _ lo n => .deep r pre fun q=>match q with
  | .own sz xs=>bif Nat.ble (lo+n) xs.length then .wnode r pre .bad (k (.own sz ((xs.drop lo).take n))) else k2
  | _=>k2
 | .addr r pre 0 0 _ => .deep r pre fun q=>match q with
  | .box q => .wnode r pre .bad (k (.box q))
  | _=>k2
 | .bmap r pre => .deep r pre fun q=>match q with
  | .omap es => .wnode r pre .bad (k (.omap es))
  | _=>k2
 | _=>k2
def zFo (frz:Bool) (p:PV) (k:PV→PM):PM :=
 bif frz||p.ways.any (fun w=>Nat.ble zAl w.1) then zLO zAl zDw p k else zRb p k (zLO zAl zDw p k)
def zCx (frz:Bool):List PV→(List PV→PM)→PM
 | [],k=>k []
 | p::ps,k=>zFo frz p fun q=>zCx frz ps fun qs=>k (q::qs)
def zGB (frz:Bool) (p:PV) (k:PV→PM):PM :=
 match p with
 | .agg cs=>zCx frz cs fun qs=>k (.agg qs)
 | p=>zFo frz p k
def zCN (frz:Bool):Nat→List ResultVar→PM
 | _,[] => .ok
 | j,.tmp t::rs => .view t fun p=>zGB frz p fun q=>lay (zAA+j) q (zCN frz (j+1) rs)
 | j,.cell a t::rs=>zIC (shT P t) fun sh => .view a fun p=>match p with
  | .addr r pre i c _=>zMC r pre i c sh fun v=>zGB frz v fun q=>lay (zAA+j) q (zCN frz (j+1) rs)
  | _ => .fail
def zVy (e:Env) (n:Nat):PV :=
 if n=1 then e.get zAA else .tup ((List.range n).map fun j=>e.get (zAA+j))
def zBb (args hid:List PV):Env :=
 (args.zipIdx.map fun (p,i)=>(i,p))++hid.zipIdx.map fun (p,j)=>(zAl+j,p)
def zEO (xs:List PV):Option (List Int):=xs.mapM fun | .int .i64 n=>some n | _=>none
def intrin (fn:Func) (w:Nat) (args hid:List PV):Option (PV×List PV) :=
 match w,args,hid with
 | 1,[.sl xs],[]=>match (fn.resultTypes[0]?).bind (fun t=>(zBW P t).bind (szT P)) with
  | some sz=>if xs.all (fun x=>x.plain&&x.cells.length=sz)&&xs.length≤zAS then some (.own sz xs,[]) else none
  | none=>none
 | 1,[.nils _],[]=>match (fn.resultTypes[0]?).bind (fun t=>(zBW P t).bind (szT P)) with
  | some sz=>some (.own sz [],[])
  | none=>none
 | 2,[.bor r [] 1 0 n],[.own 1 xs]=>match zEO xs with
  | some is=>if r=zAl∧n=is.length∧is.length≤zAS then some (.tup [],[.own 1 ((is.mergeSort (fun a b=>decide (a≤b))).map (.int .i64))]) else none
  | none=>none
 | 2,[.bor r [(i,0)] 1 0 n],[.own 1 rows]=>match rows[i]? with
  | some (.own 1 xs)=>match zEO xs with
   | some is=>if r=zAl∧n=is.length∧is.length≤zAS then some (.tup [],[.own 1 (rows.set i (.own 1 ((is.mergeSort (fun a b=>decide (a≤b))).map (.int .i64))))]) else none
   | none=>none
  | _=>none
 | 3,[.own sz xs,.int _ i,.int _ j],[] =>
  bif decide (0≤i)&&decide (i≤j)&&Nat.ble j.toNat xs.length then some (.own sz (xs.take i.toNat++xs.drop j.toNat),[]) else none
 | 5,[.int .u64 n],[]=>some (.int .i64 (if n≤0 then 0 else Nat.log2 n.toNat+1),[])
 | _,_,_=>none
def zI8 (orc:zAF) (yo:zCV) (al:All) (n:Nat) (f:FuncId) (fn:Func) (body:Code) (args hid:List PV):Option (PV×List PV) :=
 bif Nat.ble args.length fn.ntmps&&Nat.ble hid.length 1000&&args.all (fun p => !p.isTup) then
  match exec P H orc yo al fn.ntmps (H f) n body (zBb args hid) none with
  | some (.norm,e,none) | some (.ret,e,none) =>
   match (zCN P (H f).frz 0 fn.results.toList).run orc e with
   | some e'=>bif Nat.beq fn.results.size 1&&(e'.get zAA).isTup then none else some (zVy e' fn.results.size,(List.range hid.length).map fun j=>e'.get (zAl+j))
   | none=>none
  | _=>none
 else none
def zGv (orc:zAF) (yo:zCV) (al:All) (n:Nat) (f:FuncId) (args hid:List PV):Option (PV×List PV) :=
 match P.funcs[f]? with
  | some fn=>if (H f).intr≠0 then intrin P fn (H f).intr args hid else match fn.body with
   | some body=>zI8 P H orc yo al n f fn body args hid
   | none=>none
  | none=>none
def zXD (orc:zAF) (yo:zCV) (al:All) (n:Nat) (f:FuncId) (first:List PV) (i:Nat) (caps:List PV) (k:Int):Option (List (List PV)) :=
 match P.funcs[f]? with
  | some fn=>match fn.body with
   | some body=>bif Nat.ble (first++PV.yld i::caps).length fn.ntmps&&fn.results.isEmpty&&(first++caps).all (fun p => !p.isTup)&&k != 0&&Nat.beq (H f).intr 0 then
     match exec P H orc yo al fn.ntmps (H f) n body (zBb (first++PV.yld i::caps) []) (some ⟨[],k,i⟩) with
     | some (.norm,_,some l) | some (.ret,_,some l)=>some l.xs
     | _=>none
    else none
   | none=>none
  | none=>none
def zRZ (al:All):Nat→zAF×zCV
 | 0=>(fun _ _ _=>none,fun _ _ _ _ _=>none)
 | n+1=>(fun f args hid=>zGv P H (zRZ al n).1 (zRZ al n).2 al (n+1) f args hid,fun f first i caps k=>zXD P H (zRZ al n).1 (zRZ al n).2 al (n+1) f first i caps k)
open Classical in
noncomputable def zB8:All:=fun x=>if h:∃ r,∀ i,x i=some r then some (Classical.choose h) else none
class Yo where
 yo:zCV
noncomputable def zCO [Yo]:Nat→zAF
 | 0=>fun _ _ _=>none
 | n+1=>fun f args hid=>zGv P H (zCO n) Yo.yo zB8 (n+1) f args hid
end Go.Eng
namespace Go.Eng
def zAI:List (Nat×List Nat)→Nat→List Nat
 | [],_=>[]
 | (k,l)::r,i=>bif Nat.beq k i then l else zAI r i
def zXr:List (Nat×FHint)→Nat→FHint
 | [],_=>{}
 | (k,h)::r,i=>bif Nat.beq k i then h else zXr r i
end Go.Eng
namespace Go.Eng
open Go
def rg (a:Nat):Nat→List Nat
 | 0=>[]
 | n+1=>a::rg (a+1) n
def nh9:FHint:={drop:=zAI [(0,[8]),(1,[0,17,18,19]),(2,[1,20,21,22]),(3,[3,24,25,26]),(4,[27,28]),(5,[2]++rg 30 10),(6,[42,43,44,47]),(7,[13]++rg 48 14),(9,[63,64,65]),(10,[67]),(12,[71]),(13,[72,74,75,76]),(14,[15,16]++rg 78 9),(16,[88]),(17,[89])],loopDrop:=zAI [(11,[8,15,16]++rg 70 19)],frzs:=zAI [(1,[4])]}
def zZ6:FHint:={drop:=zAI [(0,[0]),(1,[17]),(2,[20,21,24]),(3,rg 25 6),(4,[32,33,36]),(5,[9]++rg 37 6),(6,rg 3 6++[10]++rg 43 31),(8,[76,77,78,81]),(9,rg 82 6),(10,[2,89,90,93]),(11,[95,98]),(12,[4,6,8]++rg 10 5++rg 99 34)]}
def zac:FHint:={drop:=zAI [(0,[0,6,7]),(1,[1,11,12,13,16]),(2,[17]),(3,[9,19]),(4,[2,8]++rg 20 4)],take:=zAI [(3,[2])]}
def zZ2:FHint:={drop:=zAI [(0,[0,6,7]),(1,[1,2,14,15,16,19]),(2,[20]),(3,[9,22]),(7,[27,28]),(8,rg 29 7),(9,rg 37 4),(10,[42]),(11,[10,43])],loopDrop:=zAI [(6,[12]++rg 26 15++[42])],take:=zAI [(3,[2])]}
def zZY:FHint:={drop:=zAI [(0,[4]),(1,[0,1,5,6,7])]}
def zZU:FHint:={drop:=zAI [(0,[0,4,5]),(1,[1,12,13,16]),(2,[17]),(3,[7,19]),(4,[20,21]),(5,[22,23,24]),(6,[25,26]),(7,[28,29,30]),(8,[31]),(9,[32,33]),(11,[34]),(12,[8,35])],loopDrop:=zAI [(6,rg 25 10)]}
def zZQ:FHint:={drop:=zAI [(0,[0,4,5]),(1,[1,12,13,16]),(2,[17]),(3,[7,19]),(4,[20,21]),(7,[24]),(8,rg 25 4),(9,[10,30,31]),(10,[32,33,34]),(11,[35]),(12,[6]++rg 36 4),(14,[8,41])],loopDrop:=zAI [(6,[10]++rg 23 13)]}
def zZS:FHint:={drop:=zAI [(0,[4]),(1,[0,1,5,6,7])]}
def zak:FHint:={drop:=zAI [(0,[2]),(1,[4,5]),(2,[0,7,8,9])],take:=zAI [(3,[1])]}
def zZW:FHint:={drop:=zAI [(0,[0,3,8,9]),(1,[1,18,19,22]),(2,[24,25]),(3,[11,26]),(4,rg 28 10),(6,rg 38 6),(7,[44,45,46]),(8,rg 47 11),(9,[59,60]),(11,rg 62 11),(12,[2,73,74]),(13,[75,76,77]),(14,[78]),(15,[80,81]),(16,rg 82 4),(18,rg 88 9),(19,[16]++rg 98 4),(21,[102])],loopDrop:=zAI [(8,[8,9]++rg 47 26),(14,[16]++rg 78 25)],take:=zAI [(3,[2]),(12,[1]),(19,[1]),(22,[1])]}
def zZ3:FHint:={drop:=zAI [(0,[0,6,7]),(1,[15,16,17,20]),(2,[21]),(3,[9,23]),(4,[24,25,26]),(6,[27]),(8,[31]),(9,[32,33,34]),(10,[35]++rg 37 5),(11,[42,43,44]),(12,[12,46,47,48]),(13,[50])],loopDrop:=zAI [(7,[12,13]++rg 30 19++[50])],take:=zAI [(3,[2]),(12,[2]),(14,[1])]}
def zZO:FHint:={drop:=zAI [(1,[1]++rg 17 4),(3,[21,22,23]),(4,[25,26]),(5,[27,28]),(6,rg 30 11),(7,rg 41 14),(8,rg 56 9),(10,[2,65,66]),(12,[70]),(14,rg 71 7),(15,rg 79 5),(16,rg 84 4),(17,[14]++rg 88 4),(18,[12,93,94,95]),(19,[13]++rg 97 9),(20,[106]),(21,[3,107,108]),(24,[112]),(26,[116]),(27,[117]),(28,[16,119,120,121]),(29,[123]),(30,[15]++rg 124 6),(31,[130]),(32,[131])],loopDrop:=zAI [(3,rg 21 20),(11,[12,13,14]++rg 69 23++[93,94,95]++rg 97 10),(22,[15,16]++rg 111 20),(25,[16]++rg 115 7++[123])],take:=zAI [(18,[2]),(28,[2]),(30,[3]),(32,[1])],mode:=[1,0,0,0]}
def zZ9:FHint:={drop:=zAI [(0,[2]),(1,[0,3,4])]}
def zad:FHint:={drop:=zAI [(0,[1,6]),(2,[2,8,9]),(4,rg 13 15),(5,[29])],loopDrop:=zAI [(3,rg 12 16++[29])],take:=zAI [(6,[1])],mode:=[1,0,0]}
def zZK:FHint:={drop:=zAI [(0,[4]),(1,[0,1,5,6,7,8])]}
def zZN:FHint:={drop:=zAI [(0,[0,4]),(1,rg 5 6),(2,rg 12 6),(3,[1,18])],loopDrop:=zAI [(1,rg 5 13)],take:=zAI [(3,[1])]}
def zai:FHint:={drop:=zAI [(0,[3,4]),(1,[0,2]++rg 5 6)],mode:=[1],intr:=2}
def zal:FHint:={drop:=zAI [(0,[0,8,9]),(1,[1,2,19,20,21,22,26,27]),(2,[28]),(3,[13,30]),(5,[31,32]),(7,[36]),(8,rg 37 7),(9,[15]++rg 46 8++[56]),(10,[17,57]),(12,[16,59,60]),(13,[62])],loopDrop:=zAI [(6,[8,9,15,16,17]++rg 35 26++[62])],take:=zAI [(3,[2]),(14,[1])]}
def zZV:FHint:={drop:=zAI [(0,[4]),(1,[0,1,5,6,7,8])]}
def zZM:FHint:={drop:=zAI [(0,[0,6]),(1,[20,21]),(5,[28,29]),(6,[32]),(8,[39,40]),(9,[12]++rg 41 11),(10,[52]),(11,[53]),(12,[2]),(14,[57]),(15,[59]),(17,[63]),(18,[64]),(20,[68]),(23,[76,77]),(24,[78,79,80]),(25,[17]++rg 82 10),(26,[92]),(27,[93]),(28,[94]),(30,[96]),(34,[19,103,104]),(35,[105])],loopDrop:=zAI [(4,[10,12]++rg 27 27),(7,[12]++rg 38 15),(13,[14,15,17,56,57]++rg 59 38),(16,[14,15,17]++rg 62 33),(19,[15,17]++rg 67 27),(22,[17]++rg 75 18),(32,[19]++rg 100 6)],take:=zAI [(29,[1]),(36,[1])]}
def zZX:FHint:={drop:=zAI [(0,[6]),(1,rg 8 6),(2,[14,15]),(4,[18,19]),(5,[1,2]++rg 20 6),(6,[7]++rg 27 5)],mode:=[1,0,0]}
def zZ0:FHint:={drop:=zAI [(0,[2]),(1,[3]),(3,[0,5,6])],intr:=1}
def zZZ:FHint:={drop:=zAI [(0,[4]),(1,[0,1,5,6,7])]}
def zZ8:FHint:={drop:=zAI [(0,[2]),(1,[3]),(3,[0,5,6])],intr:=1}
def zZR:FHint:={drop:=zAI [(0,[0,2]),(1,rg 5 23),(3,[29,30]),(4,[31]),(5,[3,33]),(6,[34,35]),(7,[36]),(8,[4,38]),(9,rg 40 5),(11,rg 46 4)],take:=zAI [(5,[1]),(8,[1])]}
def zab:FHint:={drop:=zAI [(0,[0,1,2,6]),(1,rg 7 4)]}
def zZ1:FHint:={drop:=zAI [(0,[4]),(1,[0,1,5,6,7])]}
def zaa:FHint:={drop:=zAI [(0,[1,4]),(1,[0,5,6,7,8])]}
def zaf:FHint:={drop:=zAI [(0,[1]),(1,rg 3 11),(2,[14,15,16])],take:=zAI [(2,[4])]}
def zah:FHint:={drop:=zAI [(0,[0,2,3]),(1,[10,13]),(2,[14]),(3,[5,16]),(7,[22,23,24]),(8,rg 25 12),(9,[7,38,39,40]),(10,[42])],loopDrop:=zAI [(6,[7,8]++rg 21 20++[42])],take:=zAI [(3,[2]),(9,[2]),(11,[1])]}
def zae:FHint:={drop:=zAI [(0,[2]),(1,[6,7]),(4,[13]),(5,[4,5]++rg 16 5),(6,[21])],loopDrop:=zAI [(3,[4,5]++rg 12 10)],take:=zAI [(7,[1])]}
def zZ7:FHint:={drop:=zAI [(0,[0,6,7]),(1,[1,11,12,15]),(2,[2]++rg 16 6),(4,[23]),(5,[9,25])],take:=zAI [(5,[2]),(6,[1])],frz:=true}
def zag:FHint:={drop:=zAI [(0,[1,4]),(2,rg 8 4),(4,[15]),(5,rg 16 5),(7,[24]),(8,rg 25 21),(9,[7]++rg 47 5),(10,[53]),(11,[54])],loopDrop:=zAI [(3,[6,7]++rg 14 38++[53,54]),(6,[7]++rg 23 29++[53])],take:=zAI [(12,[1])]}
def zZL:FHint:={drop:=zAI [(1,[6,7]),(2,[1]),(4,[11,12,13]),(5,[14]),(6,[15])],loopDrop:=zAI [(3,rg 10 5)]}
def zZT:FHint:={drop:=zAI [(0,[2]),(1,[6,7]),(4,[10,11,12]),(5,[14,15]),(6,rg 16 9),(9,[29,30,31]),(10,[33,34]),(11,rg 35 9),(12,rg 45 7),(13,[52,53]),(14,[54,55,56]),(15,[3])],loopDrop:=zAI [(4,[2,4,5]++rg 10 50),(9,rg 29 25)],take:=zAI [(2,[1]),(16,[1])],mode:=[2]}
def zaj:FHint:={drop:=zAI [(0,[4]),(1,rg 6 4),(3,[11]),(5,[15]),(6,[5]++rg 16 8),(8,[25])],loopDrop:=zAI [(4,[4,5]++rg 14 12)]}
def zZ5:FHint:={drop:=zAI [(0,[0,4,5]),(1,[9,12]),(2,[14,15]),(3,[7,16]),(4,[18,19,20]),(6,rg 22 5),(8,[1]++rg 27 4)],take:=zAI [(3,[2]),(8,[4]),(9,[1])],frz:=true}
def zYX:FHint:={drop:=zAI [(4,[13]),(7,[16]),(8,[5]++rg 17 4),(9,[21]),(10,[22]),(12,rg 25 4),(14,[32]),(17,[40,41]),(18,rg 42 4),(19,rg 47 7),(20,[10]++rg 54 13),(21,[67]),(22,[68]),(23,[69])],loopDrop:=zAI [(3,[4,5]++rg 12 11),(6,[5]++rg 15 7),(13,[7,9,10]++rg 31 38),(16,[9,10]++rg 39 29)]}
def zY9:FHint:={drop:=zAI [(0,[1]),(1,[10]),(2,rg 11 4),(4,[18]),(5,[19,20]),(7,[7]),(9,[28,29]),(10,[8,9]++rg 30 12),(11,[42]),(12,[43]),(13,[44])],loopDrop:=zAI [(3,rg 6 4++rg 17 27),(8,[8,9]++rg 27 16)]}
def zXY:FHint:={drop:=zAI [(0,[4]),(1,rg 6 4),(3,[11]),(5,[15]),(6,[5]++rg 16 8),(8,[25])],loopDrop:=zAI [(4,[4,5]++rg 14 12)]}
def zZn:FHint:={drop:=zAI [(0,[0,4]),(1,[1]++rg 5 6)]}
def zYn:FHint:={drop:=zAI [(0,[6]),(1,[0,1,2]++rg 7 8)]}
def zZu:FHint:={drop:=zAI [(0,[1,4]),(1,[0,5,6,7,8])]}
def zYM:FHint:={drop:=zAI [(0,[0,4]),(1,[1]++rg 5 5)]}
def zYI:FHint:={drop:=zAI [(0,[0]),(1,rg 3 11)]}
def zXT:FHint:={drop:=zAI [(0,[0,1,4])]}
def zYo:FHint:={drop:=zAI [(0,[1,4]),(1,[0]++rg 5 16)]}
def zYf:FHint:={drop:=zAI [(0,[3,8]),(1,[2]++rg 13 5),(5,[22,23]),(6,rg 24 14),(7,[39,40,41]),(8,[43])],loopDrop:=zAI [(4,[12]++rg 21 21++[43])],take:=zAI [(7,[2]),(9,[1])]}
def zZh:FHint:={drop:=zAI [(0,[0,2,8,9,11]),(1,[1]++rg 17 7),(2,[25,26]),(3,[13,27,28]),(4,rg 30 5),(5,[35]),(8,[40,41,42]),(9,[14,15]++rg 43 4),(10,[48]),(11,[49]),(12,rg 50 5),(13,[57,58])],loopDrop:=zAI [(7,[8,9,11,14,15]++rg 39 11)],take:=zAI [(3,[5])],frzs:=zAI [(12,[6])],frz:=true}
def zZA:FHint:={drop:=zAI [(0,[4]),(1,[8,9,10]),(2,[11]),(4,[14,15]),(5,[16,17,18]),(6,[20,21]),(7,rg 22 4),(8,[26,27,28]),(9,rg 30 4),(10,[34,35]),(11,[36,37,38]),(12,[5])],loopDrop:=zAI [(5,[7]++rg 16 20)],take:=zAI [(3,[1]),(9,[4])],mode:=[2,0]}
def zY7:FHint:={drop:=zAI [(0,[2]),(1,[3]),(3,[0,5,6])],intr:=1}
def zXS:FHint:={drop:=zAI [(0,[6]),(1,[0,1,2]++rg 7 7)],mode:=[1,0,0]}
def zYz:FHint:={drop:=zAI [(0,[4]),(1,[0,1]++rg 5 5)],mode:=[1,0]}
def zYO:FHint:={drop:=zAI [(0,[4]),(1,[0,1]++rg 5 6)],mode:=[1,0]}
def zX7:FHint:={drop:=zAI [(0,[6]),(1,rg 8 6),(2,[14,15]),(4,[18,19]),(5,[1,2]++rg 20 6),(6,[7]++rg 27 5)],mode:=[1,0,0]}
def zXV:FHint:={drop:=zAI [(0,[4]),(1,[6]),(3,[10]),(4,rg 11 5),(5,[5,17]),(6,[18])],loopDrop:=zAI [(2,[4,5]++rg 9 10)],take:=zAI [(5,[1])]}
def zYt:FHint:={drop:=zAI [(2,[19,20,21]),(3,[22]),(4,[0,1,2]++rg 24 4),(5,[28]),(6,[0,1,2]++rg 30 4),(7,[34]),(8,rg 36 4),(9,[40,41]),(10,rg 42 7),(11,[49]),(12,rg 51 4),(13,rg 55 6),(15,[12]++rg 61 7),(16,[69,70,71]),(17,rg 73 14),(18,[1,11]++rg 88 5),(19,[13,93]),(20,[11]++rg 94 8),(21,[15,102]),(22,rg 103 6),(23,[10,109,110]),(24,[111,112]),(25,[16,18,114,115,116]),(26,[1]++rg 117 5),(27,[14,122,123]),(28,[17,18,124,125,126]),(29,[2]++rg 127 6),(30,[14,133])],loopDrop:=zAI [(2,rg 10 124)],take:=zAI [(19,[1]),(21,[1]),(30,[1])]}
def zXU:FHint:={drop:=zAI [(0,[2]),(1,[0,3,4,5]),(2,[0,6,7])],intr:=9}
def zYC:FHint:={drop:=zAI [(0,[1,10,11]),(1,[20]),(5,[25,26]),(6,[15]++rg 27 8),(7,rg 35 12),(8,[47]),(12,[48]),(13,[2,49,50,51]),(14,[53])],loopDrop:=zAI [(4,[15,16]++rg 24 24)],take:=zAI [(7,[4])]}
def zZb:FHint:={drop:=zAI [(0,[0,2,6]),(1,[1,7,8,9])]}
def zY2:FHint:={drop:=zAI [(0,[4]),(1,[6]),(3,[10]),(4,rg 11 5),(5,[5,17]),(6,[18])],loopDrop:=zAI [(2,[4,5]++rg 9 10)],take:=zAI [(5,[1])]}
def zXX:FHint:={drop:=zAI [(0,[5]),(3,[12,13,14]),(4,rg 15 6),(5,[1,6,7]++rg 22 6),(7,[29]),(8,[1,30,31,32])],loopDrop:=zAI [(2,[5,6,7]++rg 11 19)],take:=zAI [(6,[1]),(8,[2])],mode:=[2,0,0]}
def zY5:FHint:={drop:=zAI [(0,[6]),(1,rg 10 4),(5,[19]),(6,[7]),(7,[8,9]++rg 26 4),(9,[31])],loopDrop:=zAI [(4,rg 6 4++rg 18 14)]}
def zYd:FHint:={drop:=zAI [(0,[0,2,3]),(1,[12,13]),(2,[14]),(3,[4,16]),(4,[17,18,19]),(7,[26,27]),(8,rg 28 6),(9,[34]),(12,[40,41,42]),(13,rg 43 6),(14,[49,50]),(15,[8]++rg 52 12),(16,[64]),(17,[65,66]),(19,[70]),(20,[71,72]),(22,[76]),(23,rg 77 12),(24,[11]++rg 90 14),(25,[104]),(26,[105])],loopDrop:=zAI [(6,[7]++rg 25 10),(11,[8,9]++rg 39 26),(18,[10,11]++rg 69 37),(21,[11]++rg 75 30)],take:=zAI [(3,[2]),(24,[9]),(27,[1])]}
def zYD:FHint:={drop:=zAI [(0,[6]),(1,[0,1,2]++rg 7 10)]}
def zYF:FHint:={drop:=zAI [(0,[0,2]),(1,rg 7 5),(3,rg 13 4),(8,[23,24]),(9,[25,26,27]),(11,[29,30,31]),(12,[32])],loopDrop:=zAI [(7,[2,5]++rg 22 11)]}
def zYA:FHint:={drop:=zAI [(0,[0,2]),(3,[12,13,14]),(4,[3]++rg 15 5),(6,[21]),(9,[27,28,29]),(10,[5]++rg 30 10),(12,[41])],loopDrop:=zAI [(2,[2,3,4]++rg 11 11),(8,[2,5,6]++rg 26 16)]}
def zYT:FHint:={drop:=zAI [(0,[1,4]),(1,[0,5,6,7,8])]}
def zZg:FHint:={drop:=zAI [(0,[3]),(1,[0,1,4,5,6,7])]}
def zZv:FHint:={drop:=zAI [(0,[2]),(1,[0]++rg 3 11)]}
def zZr:FHint:={drop:=zAI [(0,[2]),(1,[4,5,6]),(2,[7]),(3,[9,10]),(4,rg 11 9)],loopDrop:=zAI [(2,[2]++rg 7 14)]}
def zZc:FHint:={drop:=zAI [(0,[4]),(1,[0,1,5,6,7,8])]}
def zYB:FHint:={drop:=zAI [(0,[0,4]),(1,[1,2]++rg 5 12)]}
def zYu:FHint:={drop:=zAI [(0,[4]),(1,rg 6 4),(3,[11]),(5,[15]),(6,[5]++rg 16 8),(8,[25])],loopDrop:=zAI [(4,[4,5]++rg 14 12)]}
def zY0:FHint:={drop:=zAI [(0,[4]),(1,[0,1,5,6,7,8])]}
def zZz:FHint:={drop:=zAI [(0,[1,4]),(1,[6]),(3,[10]),(4,rg 11 5),(5,[5,17]),(6,[18])],loopDrop:=zAI [(2,[4,5]++rg 9 10)],take:=zAI [(5,[1])]}
def zYY:FHint:={drop:=zAI [(0,[1,4]),(1,[0,5,6,7,8])]}
def zX6:FHint:={drop:=zAI [(0,[4]),(3,[11,12]),(4,[6,13,14,15]),(5,[16]),(6,[0,17])],loopDrop:=zAI [(2,[6]++rg 10 7)],take:=zAI [(6,[1])]}
def zZD:FHint:={drop:=zAI [(0,[3]),(1,[0,1,4,5,6,7])]}
def zYJ:FHint:={drop:=zAI [(0,rg 5 4),(2,[12]),(3,[4]++rg 13 14),(4,[28])],loopDrop:=zAI [(1,[4]++rg 11 18)]}
def zX2:FHint:={drop:=zAI [(0,[0,4]),(1,[1]++rg 5 6)]}
def zYv:FHint:={drop:=zAI [(0,[1,4]),(1,[6,7,8]),(2,rg 9 13),(3,[0]++rg 22 7),(4,rg 29 6)],take:=zAI [(4,[3])]}
def zX1:FHint:={drop:=zAI [(0,[0,5]),(1,[1,2,3,6,7,8,9])],frz:=true}
def zZj:FHint:={drop:=zAI [(0,[4]),(1,[6]),(3,[10]),(4,rg 11 5),(5,[5,17]),(6,[18])],loopDrop:=zAI [(2,[4,5]++rg 9 10)],take:=zAI [(5,[1])]}
def zYh:FHint:={drop:=zAI [(0,[2]),(1,rg 4 9),(2,rg 14 11),(3,rg 25 5),(4,rg 30 5),(5,rg 36 14),(6,[0]++rg 50 7),(7,[3]++rg 57 6)],mode:=[1]}
def zYW:FHint:={drop:=zAI [(0,[8,9]),(1,[10,11]),(2,[13,14]),(3,[15]),(4,rg 16 14),(5,[31,32]),(6,rg 33 16)],loopDrop:=zAI [(1,[7]++rg 10 39),(4,rg 16 33)]}
def zYl:FHint:={drop:=zAI [(0,[11]),(2,[1,2,12,13,14]),(3,[15,16,17]),(4,[18]),(5,[20,21]),(6,rg 22 5),(7,[8,27,28]),(8,[29]),(9,[31,32]),(10,rg 33 18),(11,rg 51 5)],loopDrop:=zAI [(4,rg 18 9),(8,rg 29 27)]}
def zYy:FHint:={drop:=zAI [(0,[2,11,12,13]),(1,[14]),(2,[16,17]),(3,[18,19]),(4,rg 20 6),(5,rg 26 7),(6,[34,35]),(7,rg 36 5),(8,[41,42]),(9,[44,45,46]),(10,[10]++rg 47 18)],loopDrop:=zAI [(5,[10]++rg 26 39)]}
def zYw:FHint:={drop:=zAI [(0,[6,7]),(1,[2,13,14,15]),(3,rg 16 5),(4,rg 21 5),(5,[1]++rg 26 5),(6,[31]),(7,[8,33]),(8,[35,36,37]),(9,[38,39,40]),(10,[41,42,43]),(11,[0,10,12]++rg 44 5),(13,[11,50]),(14,[52]),(15,[11,53]),(16,[49,55]),(17,[11,56])],take:=zAI [(13,[1]),(15,[1]),(17,[1])]}
def zZs:FHint:={drop:=zAI [(0,[1,8]),(1,[2,9,10]),(2,[11,12]),(3,rg 14 14),(4,[28,29]),(5,[30,31])],loopDrop:=zAI [(2,rg 11 21)],take:=zAI [(0,[1])]}
def zYL:FHint:={drop:=zAI [(0,[6]),(1,[11,12]),(3,[13]),(4,[15,16]),(5,rg 17 15),(6,[33,34]),(7,[35,36]),(9,[38,39,40]),(11,rg 42 16),(12,[58,59,60]),(13,[62,63]),(14,[64]),(15,[66,67]),(16,rg 68 10),(17,rg 79 16),(18,[95,96,97]),(19,[99,100]),(20,[101,102]),(21,[104,105]),(22,rg 106 10),(23,rg 117 16)],loopDrop:=zAI [(3,[6,9,10]++rg 13 120),(5,rg 17 18),(14,rg 64 31),(20,rg 101 32)]}
def zX8:FHint:={drop:=zAI [(0,[4]),(1,[0,1]++rg 5 12)]}
def zYg:FHint:={drop:=zAI [(0,[8]),(1,[3]++rg 11 14),(2,[2]++rg 25 4),(3,rg 29 14),(4,[44,45]),(5,rg 46 13),(6,[60,61]),(7,[62,63]),(8,rg 65 14),(9,[79,80]),(10,[81,82]),(11,[9,83])],loopDrop:=zAI [(3,rg 29 54),(5,rg 46 16)],take:=zAI [(11,[1])]}
def zYK:FHint:={drop:=zAI [(0,[8,9]),(1,[3]++rg 12 14),(2,[2]++rg 26 4),(3,rg 30 13),(4,[44,45]),(5,rg 46 14),(6,[61,62]),(7,[63,64]),(8,[0,1]++rg 66 14),(9,[11,80]),(10,rg 81 14),(11,[95,96]),(12,[97,98]),(13,rg 99 13),(14,[113,114]),(15,rg 115 14),(16,[130,131]),(17,[132,133]),(18,rg 135 14),(19,[149,150]),(20,[151,152]),(21,[0,1]++rg 153 14),(22,[11,167])],loopDrop:=zAI [(3,rg 30 16),(5,rg 46 17),(13,rg 99 54),(15,rg 115 17)],take:=zAI [(9,[1]),(22,[1])]}
def zY8:FHint:={drop:=zAI [(1,[3]),(2,[5,6]),(4,[7]),(5,[9,10]),(6,[11,12]),(7,[0]++rg 13 6)],intr:=9}
def zZC:FHint:={drop:=zAI [(1,[3]),(2,[5,6]),(4,[7]),(5,[9,10]),(6,[11,12]),(7,[13]),(8,[15,16]),(9,[17,18]),(10,[0]++rg 19 6)],intr:=9}
def zXZ:FHint:={drop:=zAI [(0,rg 11 7),(1,[19,20]),(2,[0,2,3,22,23]),(5,[28,29]),(6,rg 30 6),(7,rg 37 11),(8,[48])],loopDrop:=zAI [(4,[10]++rg 27 22)],mode:=[0,0,1,1,1,1,1]}
def zY3:FHint:={drop:=zAI [(0,[0,4]),(1,[1,2]++rg 5 5)]}
def zZo:FHint:={drop:=zAI [(0,[0,4]),(1,[1,2]++rg 5 9)]}
def zYk:FHint:={drop:=zAI [(0,[1,4]),(1,[0,5,6,7,8])]}
def zYi:FHint:={drop:=zAI [(0,[0,3]),(1,[1]++rg 4 10)]}
def zYx:FHint:={drop:=zAI [(0,[0,2]),(1,rg 3 5)]}
def zYe:FHint:={drop:=zAI [(0,[4]),(1,[0,1,5,6,7,8])]}
def zYR:FHint:={drop:=zAI [(0,[0,3]),(1,[1]++rg 4 5)]}
def zYj:FHint:={drop:=zAI [(0,[4]),(1,[0,1,5,6,7,8])]}
def zZx:FHint:={drop:=zAI [(0,[3]),(1,[0,1,4,5,6,7])]}
def zYa:FHint:={drop:=zAI [(0,[4]),(1,[6]),(3,[10]),(4,rg 11 5),(5,[5,17]),(6,[18])],loopDrop:=zAI [(2,[4,5]++rg 9 10)],take:=zAI [(5,[1])]}
def zZq:FHint:={drop:=zAI [(0,[4]),(1,[6]),(3,[10]),(4,rg 11 5),(5,[5,17]),(6,[18])],loopDrop:=zAI [(2,[4,5]++rg 9 10)],take:=zAI [(5,[1])]}
def zZd:FHint:={drop:=zAI [(0,[0,3]),(1,[1,4,5,6,7])]}
def zYm:FHint:={drop:=zAI [(0,[1,10]),(1,[11,12,13]),(2,[14,15]),(3,rg 17 19),(4,[37,38]),(5,rg 39 13),(6,[8]++rg 53 22),(7,[9,75])],loopDrop:=zAI [(1,[9]++rg 11 65)],take:=zAI [(0,[1]),(7,[1])]}
def zYP:FHint:={drop:=zAI [(0,[2]),(1,[0,3,4,5,6])]}
def zZw:FHint:={drop:=zAI [(0,[2]),(1,rg 3 9),(2,rg 12 9),(3,rg 21 9),(4,[0,30,31,32])]}
def zZe:FHint:={drop:=zAI [(0,[6]),(1,[0,1,2]++rg 7 8)]}
def zZl:FHint:={drop:=zAI [(0,[10]),(1,rg 11 8),(2,[3]++rg 19 8),(3,[0,1,4]++rg 27 8),(4,[2,35])],take:=zAI [(4,[1])]}
def zX3:FHint:={drop:=zAI [(0,[2]),(1,[0,3,4,5])]}
def zX0:FHint:={drop:=zAI [(0,[0,3]),(1,[1,4,5,6,7])]}
def zZy:FHint:={drop:=zAI [(0,[4]),(1,[6]),(3,[10]),(4,rg 11 5),(5,[5,17]),(6,[18])],loopDrop:=zAI [(2,[4,5]++rg 9 10)],take:=zAI [(5,[1])]}
def zYV:FHint:={drop:=zAI [(0,[4]),(1,[6]),(3,[10]),(4,rg 11 5),(5,[5,17]),(6,[18])],loopDrop:=zAI [(2,[4,5]++rg 9 10)],take:=zAI [(5,[1])]}
def zYS:FHint:={drop:=zAI [(0,[8,9]),(1,[0]++rg 10 8),(2,[3]++rg 19 5),(3,[1,2,24,25]),(4,[1,2,26,27])],take:=zAI [(3,[2,3]),(4,[2,3])]}
def zCD:zBh:=fun f=>zXr [(9,nh9),(17,zZ6),(22,zac),(26,zZ2),(28,zZY),(29,zZU),(31,zZQ),(34,zZS),(35,zak),(38,zZW),(46,zZ3),(48,zZO),(49,zZ9),(50,zad),(52,zZK),(54,zZN),(56,zai),(57,zal),(58,zZV),(59,zZM),(60,zZX),(61,zZ0),(62,zZZ),(65,zZ8),(76,zZR),(77,zab),(78,zZ1),(81,zaa),(83,zaf),(86,zah),(89,zae),(90,zZ7),(91,zag),(92,zZL),(97,zZT),(98,zaj),(99,zZ5),(100,zYX),(101,zY9),(105,zXY),(106,zZn),(107,zYn),(108,zZu),(109,zYM),(110,zYI),(116,zXT),(118,zYo),(119,zYf),(121,zZh),(122,zZA),(123,zY7),(127,zXS),(128,zYz),(129,zYO),(130,zX7),(131,zXV),(132,zYt),(133,zXU),(134,zYC),(135,zZb),(136,zY2),(137,zXX),(138,zY5),(139,zYd),(140,zYD),(150,zYF),(151,zYA),(152,zYT),(153,zZg),(154,zZv),(155,zZr),(156,zZc),(157,zYB),(158,zYu),(159,zY0),(161,zZz),(164,zYY),(165,zX6),(168,zZD),(169,zYJ),(170,zX2),(171,zYv),(173,zX1),(174,zZj),(175,zYh),(176,zYW),(177,zYl),(178,zYy),(179,zYw),(180,zZs),(181,zYL),(182,zX8),(183,zYg),(184,zYK),(185,zY8),(186,zZC),(187,zXZ),(188,zY3),(189,zZo),(195,zYk),(196,zYi),(197,zYx),(198,zYe),(199,zYR),(200,zYj),(201,zZx),(202,zYa),(203,zZq),(204,zZd),(205,zYm),(206,zYP),(207,zZw),(208,zZe),(209,zZl),(210,zX3),(221,zX0),(222,zZy),(223,zYV),(224,zYS)] f
end Go.Eng
namespace Go.Eng
open Go
abbrev Al:=PV→Value→Prop
def zCe:Al:=fun _ _=>False
def zEl (w:World) (b:Nat) (c:Array Value):Prop:=∃ e,w.heap[b]? = some (.cells c e (0,0))
def zJq (w:World) (b:Nat) (c:Array Value):Prop:=∃ e fz,w.heap[b]? = some (.cells c e fz)
def seg (c:Array Value) (o n:Nat):List Value:=(c.toList.drop o).take n
def zCi:Value→Bool
 | .agg _=>true
 | _=>false
def flat (us:List Value):List Value:=us.flatMap fun u=>u.cells.toList
mutual
def Rep (w:World) (Φ:Nat→Prop) (A:Al):PV→Value→List Nat→Prop
 | .bad,_,L=>L=[]
 | .und,v,L=>v=undef∧L=[]
 | .int k n,v,L=>v = .int k n∧L=[]
 | .bool b,v,L=>v = .bool b∧L=[]
 | .nilp,v,L=>v = .pointer none∧L=[]
 | .nilf,v,L=>v = .nilFunc∧L=[]
 | .nilm,v,L=>v = .map none∧L=[]
 | .nn,v,L=>L=[]∧∃ a n,v = .slice (some a) 0 n
 | .nils _,v,L=>v = .slice none 0 0∧L=[]
 | .agg cs,v,L=>∃ vs:Array Value,v = .agg vs∧zA2 w Φ A cs vs.toList L
 | .tup cs,v,L=>∃ vs:Array Value,v = .tuple vs∧zA2 w Φ A cs vs.toList L
 | .sl xs,v,L=>L=[]∧((xs=[]∧∃ a n,v = .slice a 0 n∧(a=none→n=0))∨∃ a n c us sz,v = .slice (some a) xs.length n∧a.spot=none∧xs.length≤n∧Φ a.block∧zJq w a.block c ∧
   (∀ x∈xs,x.cells.length=sz)∧((∀ u∈us,u.cells.size=sz)∧us.map zCi=xs.map PV.isAgg)∧seg c a.off (xs.length*sz)=flat us∧zA2 w Φ zCe xs us [])
 | .own sz xs,v,L=>(xs=[]∧L=[]∧v = .slice none 0 0)∨∃ a n c us L',L=a.block::L'∧v = .slice (some a) xs.length n∧a.spot=none∧xs.length≤n∧zEl w a.block c∧a.off+n*sz≤c.size ∧
   (∀ x∈xs,x.cells.length=sz)∧((∀ u∈us,u.cells.size=sz)∧us.map zCi=xs.map PV.isAgg)∧seg c a.off (xs.length*sz)=flat us∧zA2 w Φ zCe xs us L'
 | .ref q,v,L=>L=[]∧∃ a c u,v = .pointer (some a)∧a.spot=none∧Φ a.block∧zJq w a.block c∧seg c a.off q.cells.length=u.cells.toList∧(u.cells.size=q.cells.length∧zCi u=q.isAgg)∧Rep w Φ A q u []
 | .box q,v,L=>∃ a c u L',L=a.block::L'∧v = .pointer (some a)∧a.spot=none∧zEl w a.block c∧seg c a.off q.cells.length=u.cells.toList∧(u.cells.size=q.cells.length∧zCi u=q.isAgg)∧Rep w Φ A q u L'
 | .map es,v,L=>L=[]∧∃ b ents,v = .map (some b)∧Φ b∧w.heap[b]? = some (.map ents es.length)∧zDR w Φ es ents.toList 0
 | .omap es,v,L=>∃ b ents,L=[b]∧v = .map (some b)∧w.heap[b]? = some (.map ents es.length)∧zDR w Φ es ents.toList 0
 | .func f first caps,v,L=>L=[]∧∃ fs cs:Array Value,v = .func (.func f) fs cs∧zA2 w Φ A first fs.toList []∧zA2 w Φ A caps cs.toList []
 | .addr r pre i c sh,v,L=>L=[]∧A (.addr r pre i c sh) v
 | .bor r pre z lo n,v,L=>L=[]∧A (.bor r pre z lo n) v
 | .bsl r pre i c sz ag n,v,L=>L=[]∧A (.bsl r pre i c sz ag n) v
 | .bmap r pre,v,L=>L=[]∧A (.bmap r pre) v
 | .lock q,v,L=>Rep w Φ A q v L
 | .yld h,v,L=>L=[]∧v = .func (.yield h) #[] #[]
 | .log xs k,v,L=>L=[]∧A (.log xs k) v
def zA2 (w:World) (Φ:Nat→Prop) (A:Al):List PV→List Value→List Nat→Prop
 | [],vs,L=>vs=[]∧L=[]
 | p::ps,vs,L=>∃ v vs' L1 L2,vs=v::vs'∧L=L1++L2∧Rep w Φ A p v L1∧zA2 w Φ A ps vs' L2
def zDR (w:World) (Φ:Nat→Prop):List (PV×PV)→List MapEntry→Nat→Prop
 | [],es,_=>es=[]
 | (k,p)::ps,es,i=>∃ e es',es=e::es'∧e.born=i∧Rep w Φ zCe k e.key []∧Rep w Φ zCe p e.val []∧zDR w Φ ps es' (i+1)
end
section
variable {w w':World} {Φ Φ':Nat→Prop}
theorem zHI {f:PV→PV} (hf:∀ p,(f p).isAgg=p.isAgg) (p:PV):(p.mapW f).cells.length=p.cells.length:=by
 have one:∀ p:PV,p.isAgg=false→p.cells.length=1:=by intro p h;cases p<;>simp_all [PV.isAgg,PV.cells]
 have len:∀ ps:List PV,(zCt f ps).length=ps.length:=by
  intro ps;induction ps with
  | nil=>rfl
  | cons p ps ih=>simp [zCt,ih]
 cases p with
 | agg cs=>simp [PV.mapW,PV.cells,len]
 | addr r pre i c sh=>rw [PV.mapW,one _ (by rw [hf];rfl),one _ rfl]
 | bor r pre z lo n=>rw [PV.mapW,one _ (by rw [hf];rfl),one _ rfl]
 | bsl r pre i c z ag n=>rw [PV.mapW,one _ (by rw [hf];rfl),one _ rfl]
 | bmap r pre=>rw [PV.mapW,one _ (by rw [hf];rfl),one _ rfl]
 | log xs k=>rw [PV.mapW,one _ (by rw [hf];rfl),one _ rfl]
 | _=>rfl
theorem zF2 {f:PV→PV} (hf:∀ p,(f p).isAgg=p.isAgg) (p:PV):(p.mapW f).isAgg=p.isAgg:=by
 cases p<;>first | rfl | exact hf _
mutual
theorem Rep.map {A A':Al} {f:PV→PV} (hf:∀ p,(f p).isAgg=p.isAgg) (hΦ:∀ b,Φ b→Φ' b∧w'.heap[b]? = w.heap[b]?) (hA:∀ a v,a.isWay=true→A a v→Rep w' Φ' A' (f a) v []) :
  ∀ (p:PV) (v:Value) (L:List Nat),(∀ b∈L,w'.heap[b]? = w.heap[b]?)→Rep w Φ A p v L→Rep w' Φ' A' (p.mapW f) v L
 | .bad,_,_,_,h=>by simpa [Rep,PV.mapW] using h
 | .und,_,_,_,h=>by simpa [Rep,PV.mapW] using h
 | .int ..,_,_,_,h=>by simpa [Rep,PV.mapW] using h
 | .bool _,_,_,_,h=>by simpa [Rep,PV.mapW] using h
 | .nilp,_,_,_,h=>by simpa [Rep,PV.mapW] using h
 | .nilf,_,_,_,h=>by simpa [Rep,PV.mapW] using h
 | .nilm,_,_,_,h=>by simpa [Rep,PV.mapW] using h
 | .nn,_,_,_,h=>by simpa [Rep,PV.mapW] using h
 | .nils _,_,_,_,h=>by simpa [Rep,PV.mapW] using h
 | .agg cs,v,L,hw,h=>by
  obtain ⟨vs,rfl,h⟩:=h
  exact ⟨vs,rfl,zA2.map hf hΦ hA cs _ L hw h⟩
 | .tup cs,v,L,hw,h=>by
  obtain ⟨vs,rfl,h⟩:=h
  exact ⟨vs,rfl,zA2.map hf hΦ hA cs _ L hw h⟩
 | .sl xs,v,L,hw,h=>by
  obtain ⟨rfl,h | ⟨a,n,c,us,sz,h1,h2,h3,h4,⟨e,fz,h5⟩,h6,h7,h8,h9⟩⟩:=h
  ·exact ⟨rfl,.inl h⟩
  ·have:=zA2.same (A:=zCe) hΦ xs us [] (by simp) h9
   exact ⟨rfl,.inr ⟨a,n,c,us,sz,h1,h2,h3,(hΦ _ h4).1,⟨e,fz,(hΦ _ h4).2.trans h5⟩,h6,h7,h8,this⟩⟩
 | .own sz xs,v,L,hw,h=>by
  obtain h | ⟨a,n,c,us,L',rfl,h1,h2,h3,⟨e,h5⟩,h6,h7,h8,h9,jS⟩:=h
  ·exact .inl h
  ·have:=zA2.same (A:=zCe) hΦ xs us L' (fun b hb=>hw b (by simp [hb])) jS
   exact .inr ⟨a,n,c,us,L',rfl,h1,h2,h3,⟨e,(hw _ (by simp)).trans h5⟩,h6,h7,h8,h9,this⟩
 | .ref q,v,L,hw,h=>by
  obtain ⟨rfl,a,c,u,h1,h2,h3,⟨e,fz,h4⟩,h5,h6,h7⟩:=h
  have hc:(q.mapW f).cells.length=q.cells.length:=zHI hf q
  exact ⟨rfl,a,c,u,h1,h2,(hΦ _ h3).1,⟨e,fz,(hΦ _ h3).2.trans h4⟩,by rw [hc];exact h5,by rw [hc,zF2 hf];exact h6,Rep.map hf hΦ hA q u [] (by simp) h7⟩
 | .box q,v,L,hw,h=>by
  obtain ⟨a,c,u,L',rfl,h1,h2,⟨e,h4⟩,h5,h6,h7⟩:=h
  have hc:(q.mapW f).cells.length=q.cells.length:=zHI hf q
  exact ⟨a,c,u,L',rfl,h1,h2,⟨e,(hw _ (by simp)).trans h4⟩,by rw [hc];exact h5,by rw [hc,zF2 hf];exact h6,Rep.map hf hΦ hA q u L' (fun b hb=>hw b (by simp [hb])) h7⟩
 | .map es,v,L,hw,h=>by
  obtain ⟨rfl,b,ents,h1,h2,h3,h4⟩:=h
  exact ⟨rfl,b,ents,h1,(hΦ _ h2).1,(hΦ _ h2).2.trans h3,zDR.same hΦ es _ _ h4⟩
 | .omap es,v,L,hw,h=>by
  obtain ⟨b,ents,rfl,h1,h3,h4⟩:=h
  exact ⟨b,ents,rfl,h1,(hw _ (by simp)).trans h3,zDR.same hΦ es _ _ h4⟩
 | .func g a b,v,L,hw,h=>by
  obtain ⟨rfl,fs,cs,h1,h2,h3⟩:=h
  exact ⟨rfl,fs,cs,h1,zA2.map hf hΦ hA a _ [] (by simp) h2,zA2.map hf hΦ hA b _ [] (by simp) h3⟩
 | .addr ..,v,L,hw,h=>by obtain ⟨rfl,h⟩:=h;exact hA _ _ rfl h
 | .bor ..,v,L,hw,h=>by obtain ⟨rfl,h⟩:=h;exact hA _ _ rfl h
 | .bsl ..,v,L,hw,h=>by obtain ⟨rfl,h⟩:=h;exact hA _ _ rfl h
 | .bmap ..,v,L,hw,h=>by obtain ⟨rfl,h⟩:=h;exact hA _ _ rfl h
 | .lock q,v,L,hw,h=>Rep.map hf hΦ hA q v L hw h
 | .yld _,v,L,hw,h=>h
 | .log ..,v,L,hw,h=>by obtain ⟨rfl,h⟩:=h;exact hA _ _ rfl h
theorem zA2.map {A A':Al} {f:PV→PV} (hf:∀ p,(f p).isAgg=p.isAgg) (hΦ:∀ b,Φ b→Φ' b∧w'.heap[b]? = w.heap[b]?) (hA:∀ a v,a.isWay=true→A a v→Rep w' Φ' A' (f a) v []) :
  ∀ (ps:List PV) (vs:List Value) (L:List Nat),(∀ b∈L,w'.heap[b]? = w.heap[b]?)→zA2 w Φ A ps vs L→zA2 w' Φ' A' (zCt f ps) vs L
 | [],_,_,_,h=>h
 | p::ps,vs,L,hw,h=>by
  obtain ⟨v,vs',L1,L2,rfl,rfl,h1,h2⟩:=h
  exact ⟨v,vs',L1,L2,rfl,rfl,Rep.map hf hΦ hA p v L1 (fun b hb=>hw b (by simp [hb])) h1,zA2.map hf hΦ hA ps vs' L2 (fun b hb=>hw b (by simp [hb])) h2⟩
theorem Rep.same {A:Al} (hΦ:∀ b,Φ b→Φ' b∧w'.heap[b]? = w.heap[b]?) :
  ∀ (p:PV) (v:Value) (L:List Nat),(∀ b∈L,w'.heap[b]? = w.heap[b]?)→Rep w Φ zCe p v L→Rep w' Φ' A p v L
 | .bad,_,_,_,h=>h
 | .und,_,_,_,h=>h
 | .int ..,_,_,_,h=>h
 | .bool _,_,_,_,h=>h
 | .nilp,_,_,_,h=>h
 | .nilf,_,_,_,h=>h
 | .nilm,_,_,_,h=>h
 | .nn,_,_,_,h=>h
 | .nils _,_,_,_,h=>h
 | .agg cs,v,L,hw,h=>by
  obtain ⟨vs,rfl,h⟩:=h
  exact ⟨vs,rfl,zA2.same hΦ cs _ L hw h⟩
 | .tup cs,v,L,hw,h=>by
  obtain ⟨vs,rfl,h⟩:=h
  exact ⟨vs,rfl,zA2.same hΦ cs _ L hw h⟩
 | .sl xs,v,L,hw,h=>by
  obtain ⟨rfl,h | ⟨a,n,c,us,sz,h1,h2,h3,h4,⟨e,fz,h5⟩,h6,h7,h8,h9⟩⟩:=h
  ·exact ⟨rfl,.inl h⟩
  ·have:=zA2.same (A:=zCe) hΦ xs us [] (by simp) h9
   exact ⟨rfl,.inr ⟨a,n,c,us,sz,h1,h2,h3,(hΦ _ h4).1,⟨e,fz,(hΦ _ h4).2.trans h5⟩,h6,h7,h8,this⟩⟩
 | .own sz xs,v,L,hw,h=>by
  obtain h | ⟨a,n,c,us,L',rfl,h1,h2,h3,⟨e,h5⟩,h6,h7,h8,h9,jS⟩:=h
  ·exact .inl h
  ·have:=zA2.same (A:=zCe) hΦ xs us L' (fun b hb=>hw b (by simp [hb])) jS
   exact .inr ⟨a,n,c,us,L',rfl,h1,h2,h3,⟨e,(hw _ (by simp)).trans h5⟩,h6,h7,h8,h9,this⟩
 | .ref q,v,L,hw,h=>by
  obtain ⟨rfl,a,c,u,h1,h2,h3,⟨e,fz,h4⟩,h5,h6,h7⟩:=h
  exact ⟨rfl,a,c,u,h1,h2,(hΦ _ h3).1,⟨e,fz,(hΦ _ h3).2.trans h4⟩,h5,h6,Rep.same hΦ q u [] (by simp) h7⟩
 | .box q,v,L,hw,h=>by
  obtain ⟨a,c,u,L',rfl,h1,h2,⟨e,h4⟩,h5,h6,h7⟩:=h
  exact ⟨a,c,u,L',rfl,h1,h2,⟨e,(hw _ (by simp)).trans h4⟩,h5,h6,Rep.same hΦ q u L' (fun b hb=>hw b (by simp [hb])) h7⟩
 | .map es,v,L,hw,h=>by
  obtain ⟨rfl,b,ents,h1,h2,h3,h4⟩:=h
  exact ⟨rfl,b,ents,h1,(hΦ _ h2).1,(hΦ _ h2).2.trans h3,zDR.same hΦ es _ _ h4⟩
 | .omap es,v,L,hw,h=>by
  obtain ⟨b,ents,rfl,h1,h3,h4⟩:=h
  exact ⟨b,ents,rfl,h1,(hw _ (by simp)).trans h3,zDR.same hΦ es _ _ h4⟩
 | .func g a b,v,L,hw,h=>by
  obtain ⟨rfl,fs,cs,h1,h2,h3⟩:=h
  exact ⟨rfl,fs,cs,h1,zA2.same hΦ a _ [] (by simp) h2,zA2.same hΦ b _ [] (by simp) h3⟩
 | .addr ..,v,L,hw,h=>h.2.elim
 | .bor ..,v,L,hw,h=>h.2.elim
 | .bsl ..,v,L,hw,h=>h.2.elim
 | .bmap ..,v,L,hw,h=>h.2.elim
 | .lock q,v,L,hw,h=>Rep.same hΦ q v L hw h
 | .yld _,v,L,hw,h=>h
 | .log ..,v,L,hw,h=>h.2.elim
theorem zA2.same {A:Al} (hΦ:∀ b,Φ b→Φ' b∧w'.heap[b]? = w.heap[b]?) :
  ∀ (ps:List PV) (vs:List Value) (L:List Nat),(∀ b∈L,w'.heap[b]? = w.heap[b]?)→zA2 w Φ zCe ps vs L→zA2 w' Φ' A ps vs L
 | [],_,_,_,h=>h
 | p::ps,vs,L,hw,h=>by
  obtain ⟨v,vs',L1,L2,rfl,rfl,h1,h2⟩:=h
  exact ⟨v,vs',L1,L2,rfl,rfl,Rep.same hΦ p v L1 (fun b hb=>hw b (by simp [hb])) h1,zA2.same hΦ ps vs' L2 (fun b hb=>hw b (by simp [hb])) h2⟩
theorem zDR.same (hΦ:∀ b,Φ b→Φ' b∧w'.heap[b]? = w.heap[b]?):∀ (ps:List (PV×PV)) (es:List MapEntry) (i:Nat),zDR w Φ ps es i→zDR w' Φ' ps es i
 | [],_,_,h=>h
 | (k,p)::ps,es,i,h=>by
  obtain ⟨e,es',rfl,h0,h1,h2,h3⟩:=h
  exact ⟨e,es',rfl,h0,Rep.same hΦ k _ [] (by simp) h1,Rep.same hΦ p _ [] (by simp) h2,zDR.same hΦ ps es' (i+1) h3⟩
end
end
mutual
theorem zBk:∀ p:PV,p.mapW (fun x=>x)=p
 | .agg cs=>by rw [PV.mapW,zF4]
 | .tup cs=>by rw [PV.mapW,zF4]
 | .func g a b=>by rw [PV.mapW,zF4,zF4]
 | .ref q=>by rw [PV.mapW,zBk]
 | .box q=>by rw [PV.mapW,zBk]
 | .lock q=>by rw [PV.mapW,zBk]
 | .addr .. => rfl
 | .bor .. => rfl
 | .bsl .. => rfl
 | .bmap .. => rfl
 | .yld .. => rfl
 | .log .. => rfl
 | .bad=>rfl
 | .und=>rfl
 | .int .. => rfl
 | .bool .. => rfl
 | .nilp=>rfl
 | .nilf=>rfl
 | .nilm=>rfl
 | .nn=>rfl
 | .nils _=>rfl
 | .sl _=>rfl
 | .own .. => rfl
 | .map _=>rfl
 | .omap _=>rfl
theorem zF4:∀ ps:List PV,zCt (fun x=>x) ps=ps
 | []=>rfl
 | p::ps=>by rw [zCt,zBk,zF4]
end
def zDc (w w':World) (Φ Φ':Nat→Prop):Prop:=∀ b,Φ b→Φ' b∧w'.heap[b]? = w.heap[b]?
theorem zC2 {w:World} {Φ:Nat→Prop} {A:Al} {a:PV} {v:Value} (hw:a.isWay=true) (h:A a v):Rep w Φ A a v []:=by
 cases a<;>first | exact ⟨rfl,h⟩ | exact absurd hw (by simp [PV.isWay])
section
variable {w w':World} {Φ Φ':Nat→Prop} {A A':Al}
theorem Rep.mono (hΦ:zDc w w' Φ Φ') (hA:∀ a v,a.isWay=true→A a v→A' a v) {p:PV} {v:Value} {L:List Nat} (hw:∀ b∈L,w'.heap[b]? = w.heap[b]?) (h:Rep w Φ A p v L):Rep w' Φ' A' p v L:=by
 have:=Rep.map (f:=fun x=>x) (fun _=>rfl) hΦ (fun a v hw h=>zC2 hw (hA a v hw h)) p v L hw h
 rwa [zBk] at this
theorem zA2.mono (hΦ:zDc w w' Φ Φ') (hA:∀ a v,a.isWay=true→A a v→A' a v) {p:List PV} {v:List Value} {L:List Nat} (hw:∀ b∈L,w'.heap[b]? = w.heap[b]?) (h:zA2 w Φ A p v L):zA2 w' Φ' A' p v L:=by
 have:=zA2.map (f:=fun x=>x) (fun _=>rfl) hΦ (fun a v hw h=>zC2 hw (hA a v hw h)) p v L hw h
 rwa [zF4] at this
theorem zDc.refl:zDc w w Φ Φ:=fun _ h=>⟨h,rfl⟩
theorem zA2.split:∀ {ps:List PV} {vs:List Value} {L:List Nat},zA2 w Φ A ps vs L→∀ {i:Nat} {p:PV},ps[i]? = some p →
  ∃ v La Li Lb,vs[i]? = some v∧L=La++Li++Lb∧Rep w Φ A p v Li ∧
   (∀ w' Φ' (A':Al) p' Li',(∀ a v,a.isWay=true→A a v→A' a v)→zDc w w' Φ Φ'→(∀ b∈La++Lb,w'.heap[b]? = w.heap[b]?)→Rep w' Φ' A' p' v Li'→zA2 w' Φ' A' (ps.set i p') vs (La++Li'++Lb)) ∧
   ∀ j p2,j≠i→ps[j]? = some p2→∃ v2 L2,vs[j]? = some v2∧Rep w Φ A p2 v2 L2∧∀ b∈L2,b∈La++Lb
 | [],_,_,_,_,_,hp=>by simp at hp
 | q :: ps,vs,L,h,0,p,hp=>by
  obtain ⟨v,vs',L1,L2,rfl,rfl,h1,h2⟩:=h
  simp at hp;subst hp
  refine ⟨v,[],L1,L2,rfl,by simp,h1,?_,?_⟩
  ·intro w' Φ' A' p' Li' hA hs hb hr
   exact ⟨v,vs',Li',L2,rfl,by simp,hr,h2.mono hs hA (by simpa using hb)⟩
  ·intro j p2 hj wi
   cases j with
   | zero=>exact absurd rfl hj
   | succ j =>
    obtain ⟨v2,La,Li,Lb,kf,rfl,wj,_⟩:=h2.split (i:=j) (p:=p2) (by simpa using wi)
    exact ⟨v2,Li,by simpa using kf,wj,fun b hb=>by simp [hb]⟩
 | q :: ps,vs,L,h,i+1,p,hp=>by
  obtain ⟨v,vs',L1,L2,rfl,rfl,h1,h2⟩:=h
  obtain ⟨u,La,Li,Lb,hu,rfl,hr,hk,ho⟩:=h2.split (i:=i) (by simpa using hp)
  refine ⟨u,L1++La,Li,Lb,by simpa using hu,by simp,hr,?_,?_⟩
  rotate_left
  ·intro j p2 hj wi
   cases j with
   | zero=>simp at wi;subst wi;exact ⟨v,L1,rfl,h1,fun b hb=>by simp [hb]⟩
   | succ j =>
    obtain ⟨v2,L2,j5,je,wW⟩:=ho j p2 (by omega) (by simpa using wi)
    exact ⟨v2,L2,by simpa using j5,je,fun b hb=>by have:=wW b hb;simp at this ⊢;rcases this with h | h<;>simp [h]⟩
  intro w' Φ' A' p' Li' hA hs hb j6
  exact ⟨v,vs',L1,La++Li'++Lb,rfl,by simp,h1.mono hs hA (fun b h=>hb b (by simp [h])),hk w' Φ' A' p' Li' hA hs (fun b h=>hb b (by rcases List.mem_append.1 h with h | h<;>simp [h])) j6⟩
theorem zA2.length:∀ {ps:List PV} {vs:List Value} {L:List Nat},zA2 w Φ A ps vs L→vs.length=ps.length
 | [],_,_,h=>by simp [h.1]
 | _::_,_,_,h=>by
  obtain ⟨v,vs',L1,L2,rfl,rfl,h1,h2⟩:=h
  simp [h2.length]
end
def zAt (a:Addr) (k:Nat):Addr:=⟨a.block,a.off+k,none⟩
def kid (w:World):Value→PV→Nat→Nat→Option Value
 | .slice (some a) _ _,.own sz _,i,c=>w.cell? (zAt a (i*sz+c))
 | .pointer (some a),.box _,_,c=>w.cell? (zAt a c)
 | .agg vs,.agg _,_,c=>vs[c]?
 | _,_,_,_=>none
def zAR (w:World):Value→PV→zAU→Option (Value×PV)
 | v,p,[]=>some (v,p)
 | v, p, (i,c)::rest =>
  match zA0 p with
  | some xs=>match xs[i]? with
   | some x=>match x.cells[c]? with
    | some q=>match kid w v p i c with
     | some u=>zAR w u q rest
     | none=>none
    | none=>none
   | none=>none
  | none=>none
def zBa:Value→PV→Nat→Nat→Option Addr
 | .slice (some a) _ _,.own sz _,i,c=>some (zAt a (i*sz+c))
 | .pointer (some a),.box _,0,c=>some (zAt a c)
 | _,_,_,_=>none
def zBK (v nv:Value) (sz lo n:Nat):Prop :=
 match nv with
 | .slice none _ _=>v = .slice none 0 0∧n=0
 | .slice (some a) _ cap=>v = .slice (some (zAt a (lo*sz))) n (cap-lo)∧lo+n≤cap
 | _=>False
def zA8 (w:World) (rv:Nat→Value) (E:Nat→PV):Al
 | .addr r pre i c _,v=>r<zAb∧∃ a,v = .pointer (some a)∧a.spot=none∧∀ nv np,zAR w (rv r) (E r).unlock pre=some (nv,np)→∀ a',zBa nv np i c=some a'→a=a'
 | .bor r pre z lo n,v=>r<zAb∧(∃ a cap,v = .slice a n cap∧n≤cap∧(a=none→cap=0)∧∀ b,a=some b→b.spot=none) ∧
   ∀ nv np,zAR w (rv r) (E r).unlock pre=some (nv,np)→np.heavy0=true→∃ sz xs,np = .own sz xs∧z=sz∧zBK v nv sz lo n
 | .bsl r pre i c _ _ n,v=>r<zAb∧∃ a cap,v = .slice (some a) n cap∧n≤cap∧a.spot=none ∧
   ∀ nv np,zAR w (rv r) (E r).unlock pre=some (nv,np)→∀ a',zBa nv np i c=some a'→a=a'
 | .bmap r pre,v=>r<zAb∧(∃ b,v = .map (some b))∧∀ nv np,zAR w (rv r) (E r).unlock pre=some (nv,np)→∀ es,np = .omap es→v=nv
 | _,_=>False
def child (p:PV) (i c:Nat):Option PV:=(zA0 p).bind fun xs=>(xs[i]?).bind fun x=>x.cells[c]?
theorem zCa (p:PV) (i c:Nat) (rest:zAU):zAz p ((i,c)::rest)=(child p i c).bind (zAz · rest):=by
 simp only [zAz,child];split
 ·rename_i xs h;rw [h];simp only [Option.bind_some];split
  ·rename_i x h;rw [h];simp only [Option.bind_some];split
   ·rename_i q h;rw [h];rfl
   ·rename_i h;rw [h];rfl
  ·rename_i h;rw [h];rfl
 ·rename_i h;rw [h];rfl
theorem zA6 (w:World) (v:Value) (p:PV) (i c:Nat) (rest:zAU):zAR w v p ((i,c)::rest)=(child p i c).bind fun q=>(kid w v p i c).bind fun u=>zAR w u q rest:=by
 simp only [zAR,child];split
 ·rename_i xs h;rw [h];simp only [Option.bind_some];split
  ·rename_i x h;rw [h];simp only [Option.bind_some];split
   ·rename_i q h;rw [h];simp only [Option.bind_some];split
    ·rename_i h;rw [h];rfl
    ·rename_i h;rw [h];rfl
   ·rename_i h;rw [h];rfl
  ·rename_i h;rw [h];rfl
 ·rename_i h;rw [h];rfl
def zB1 (p:PV) (i c:Nat) (q':PV):Option PV:=(zA0 p).bind fun xs=>(xs[i]?).bind fun x=>zAC p (xs.set i (zAx x c [q']))
theorem zBt (f:PV→Option PV) (p:PV) (i c:Nat) (rest:zAU):zAu f p ((i,c)::rest)=(child p i c).bind fun q=>(zAu f q rest).bind fun q'=>zB1 p i c q':=by
 simp only [zAu,child,zB1];split
 ·rename_i xs h;rw [h];simp only [Option.bind_some];split
  ·rename_i x h;rw [h];simp only [Option.bind_some];split
   ·rename_i q h;rw [h];simp only [Option.bind_some];split
    ·rename_i h;rw [h];rfl
    ·rename_i h;rw [h];rfl
   ·rename_i h;rw [h];rfl
  ·rename_i h;rw [h];rfl
 ·rename_i h;rw [h];rfl
section
variable {w w':World} {Φ Φ':Nat→Prop} {A:Al}
theorem Rep.cell {p:PV} {v:Value} {L:List Nat} (h:Rep w Φ A p v L) {c:Nat} {q:PV} (hq:p.cells[c]? = some q) (hn:zCi v=p.isAgg) :
  ∃ u La Li Lb,v.cells.toList[c]? = some u∧L=La++Li++Lb∧Rep w Φ A q u Li ∧
   (∀ w' Φ' (A':Al) q' Li',(∀ a v,a.isWay=true→A a v→A' a v)→zDc w w' Φ Φ'→(∀ b∈La++Lb,w'.heap[b]? = w.heap[b]?)→q'.isAgg=q.isAgg→Rep w' Φ' A' q' u Li'→Rep w' Φ' A' (zAx p c [q']) v (La++Li'++Lb)∧(zAx p c [q']).cells.length=p.cells.length∧(zAx p c [q']).isAgg=p.isAgg) ∧
   ∀ c2 q2,c2≠c→p.cells[c2]? = some q2→∃ u2 L2,v.cells.toList[c2]? = some u2∧Rep w Φ A q2 u2 L2∧∀ b∈L2,b∈La++Lb:=by
 cases hp:p.isAgg with
 | true =>
  cases p<;>simp [PV.isAgg] at hp
  rename_i cs
  obtain ⟨vs,rfl,h⟩:=h
  obtain ⟨u,La,Li,Lb,hu,rfl,hr,hk,ho⟩:=h.split hq
  have hc:c<cs.length:=(List.getElem?_eq_some_iff.1 hq).1
  refine ⟨u,La,Li,Lb,hu,rfl,hr,fun w' Φ' A' q' Li' hA hs hb _ j6=>?_,fun c2 q2 hI h2=>ho c2 q2 hI h2⟩
  have he:cs.take c++[q']++cs.drop (c+1)=cs.set c q':=by
   rw [List.set_eq_take_append_cons_drop,if_pos hc];simp
  refine ⟨⟨vs,rfl,?_⟩,?_,rfl⟩
  ·show zA2 w' Φ' A' (cs.take c++[q']++cs.drop (c+1)) _ _
   rw [he];exact hk w' Φ' A' q' Li' hA hs hb j6
  ·show (cs.take c++[q']++cs.drop (c+1)).length=cs.length
   rw [he];simp
 | false =>
  have j7:p.cells=[p]:=by cases p<;>first | rfl | simp [PV.isAgg] at hp
  have hv:v.cells=#[v]:=by rw [hp] at hn;cases v<;>first | rfl | simp [zCi] at hn
  rw [j7] at hq
  have hc:c=0:=by
   have:=(List.getElem?_eq_some_iff.1 hq).1;simp at this;exact this
  subst hc;simp at hq;subst hq
  refine ⟨v,[],L,[],by simp [hv],by simp,h,fun w' Φ' A' q' Li' hA hs hb jf j6=>?_,fun c2 q2 hI h2=>?_⟩
  rotate_left
  ·rw [j7] at h2
   have:=(List.getElem?_eq_some_iff.1 h2).1;simp at this;omega
  replace jf:q'.isAgg=false:=jf.trans hp
  have he:zAx p 0 [q']=q':=by cases p<;>first | rfl | simp [PV.isAgg] at hp
  rw [he]
  refine ⟨by simpa using j6,?_,jf⟩
  rw [j7];cases q'<;>first | rfl | simp [PV.isAgg] at jf
end
theorem zEt {α β:Type} {f:α→β}:∀ {xs:List α} {i:Nat} {x y:α},xs[i]? = some x→f y=f x→(xs.set i y).map f=xs.map f
 | [],_,_,_,h,_=>by simp at h
 | z::xs,0,x,y,h,e=>by simp at h;subst h;simp [e]
 | z::xs,i+1,x,y,h,e=>by
  have:=zEt (xs:=xs) (i:=i) (by simpa using h) e
  simpa using this
theorem zDA {sz:Nat}:∀ {us:List Value},(∀ u∈us,u.cells.size=sz)→∀ {i c:Nat} {x u:Value},us[i]? = some x→x.cells.toList[c]? = some u→(flat us)[i*sz+c]? = some u
 | [],_,_,_,_,_,h,_=>by simp at h
 | y::us,hs,0,c,x,u,h,hc=>by
  simp at h;subst h
  have:c<y.cells.toList.length:=(List.getElem?_eq_some_iff.1 hc).1
  simp only [flat,List.flatMap_cons,Nat.zero_mul,Nat.zero_add]
  rw [List.getElem?_append_left this];exact hc
 | y::us,hs,i+1,c,x,u,h,hc=>by
  have ih:=zDA (us:=us) (fun u hu=>hs u (by simp [hu])) (i:=i) (by simpa using h) hc
  have hy:y.cells.toList.length=sz:=by simpa using hs y (by simp)
  simp only [flat,List.flatMap_cons]
  rw [List.getElem?_append_right (by rw [hy,Nat.succ_mul];omega),hy]
  rw [show (i+1)*sz+c-sz=i*sz+c by rw [Nat.succ_mul];omega]
  exact ih
theorem zCR {c:Array Value} {o n k:Nat} {u:Value} (h:(seg c o n)[k]? = some u):c[o+k]? = some u:=by
 simp only [seg,List.getElem?_take,List.getElem?_drop] at h
 split at h
 ·simpa using h
 ·cases h
theorem zCn {w:World} {b:Nat} {c:Array Value} (h:zJq w b c) (k:Nat):w.cell? ⟨b,k,none⟩=c[k]?:=by
 obtain ⟨e,fz,h⟩:=h
 simp [World.cell?,h]
theorem zEl.any {w:World} {b:Nat} {c:Array Value} (h:zEl w b c):zJq w b c:=by
 obtain ⟨e,h⟩:=h;exact ⟨e,_,h⟩
def zGF (A:Al):PV→Al
 | .own .. => zCe
 | _=>A
theorem zKp {A A':Al} {p:PV} (hA:∀ a v,a.isWay=true→A a v→A' a v):∀ a v,a.isWay=true→zGF A p a v→zGF A' p a v:=by
 intro a v hw h
 cases p<;>first | exact hA a v hw h | exact h.elim
section
variable {w w':World} {Φ Φ':Nat→Prop} {A:Al}
theorem Rep.child {p:PV} {v:Value} {L:List Nat} (h:Rep w Φ A p v L) {i c:Nat} {q:PV} (hq:child p i c=some q) :
  ∃ u La Li Lb,kid w v p i c=some u∧L=La++Li++Lb∧Rep w Φ (zGF A p) q u Li ∧
   (∀ w' Φ' (A':Al) q' Li' p',(∀ a v,a.isWay=true→A a v→A' a v)→zDc w w' Φ Φ'→(∀ b∈La++Lb,w'.heap[b]? = w.heap[b]?)→q'.isAgg=q.isAgg→Rep w' Φ' (zGF A' p) q' u Li'→zB1 p i c q'=some p'→Rep w' Φ' A' p' v (La++Li'++Lb)) ∧
   (∀ w',(∀ b∈La++Lb,w'.heap[b]? = w.heap[b]?)→∀ q' p',zB1 p i c q'=some p'→∀ i2 c2,kid w' v p' i2 c2=kid w v p i2 c2) ∧
   ∀ i2 c2 q2,(i2,c2)≠(i,c)→Eng.child p i2 c2=some q2→∃ u2 L2,kid w v p i2 c2=some u2∧Rep w Φ (zGF A p) q2 u2 L2∧∀ b∈L2,b∈La++Lb:=by
 cases p<;>simp only [Eng.child,zA0,Option.bind_none,Option.bind_some] at hq<;>try cases hq
 case agg cs =>
  obtain ⟨vs,rfl,h⟩:=h
  have hi:i=0:=by
   cases i with
   | zero=>rfl
   | succ i=>simp at hq
  subst hi;simp [PV.cells] at hq
  obtain ⟨u,La,Li,Lb,hu,rfl,hr,hk,ho⟩:=h.split (i:=c) (p:=q) (by simpa using hq)
  refine ⟨u,La,Li,Lb,by simpa [kid] using hu,rfl,hr,fun w' Φ' A' q' Li' p' hA hs hb _ j6 hp=>?_,?_,?_⟩
  rotate_left
  ·intro w' hb q' p' hp i2 c2
   simp only [zB1,zA0,zAC,zAx,Option.bind_some,List.getElem?_cons_zero,List.set_cons_zero] at hp
   cases hp;rfl
  ·intro i2 c2 q2 hI h2
   have vV:i2=0:=by
    cases i2 with
    | zero=>rfl
    | succ i=>simp [Eng.child,zA0] at h2
   subst vV
   simp [Eng.child,zA0,PV.cells] at h2
   obtain ⟨u2,L2,h3,h4,h5⟩:=ho c2 q2 (fun e=>hI (by rw [e])) h2
   exact ⟨u2,L2,by simpa [kid] using h3,h4,h5⟩
  have hc:c<cs.length:=(List.getElem?_eq_some_iff.1 hq).1
  have he:cs.take c++[q']++cs.drop (c+1)=cs.set c q':=by
   rw [List.set_eq_take_append_cons_drop,if_pos hc];simp
  simp only [zB1,zA0,zAC,zAx,Option.bind_some,List.getElem?_cons_zero,List.set_cons_zero,List.length_singleton,he] at hp
  cases hp
  exact ⟨vs,rfl,hk w' Φ' A' q' Li' hA hs hb j6⟩
 case box q0 =>
  obtain ⟨a,r,u0,L',rfl,h1,h2,h4,h5,⟨h6,ue⟩,h7⟩:=h
  have hi:i=0:=by
   cases i with
   | zero=>rfl
   | succ i=>simp at hq
  subst hi;simp at hq
  obtain ⟨u,La,Li,Lb,hu,rfl,hr,hk,ho⟩:=h7.cell hq ue
  have ja:∀ c2 u2,u0.cells.toList[c2]? = some u2→kid w v (.box q0) 0 c2=some u2:=by
   intro c2 u2 h
   subst h1
   have:=zCR (c:=r) (o:=a.off) (n:=q0.cells.length) (k:=c2) (u:=u2) (by rw [h5];exact h)
   simp only [kid,zAt]
   rw [zCn h4.any];exact this
  refine ⟨u,a.block::La,Li,Lb,?_,by simp,hr,fun w' Φ' A' q' Li' p' hA hs hb jf j6 hp=>?_,?_,?_⟩
  rotate_left 2
  ·intro w' hb q' p' hp i2 c2
   simp only [zB1,zA0,zAC,Option.bind_some,List.getElem?_cons_zero,List.set_cons_zero] at hp
   cases hp;subst h1
   simp only [kid,World.cell?,zAt]
   rw [hb a.block (by simp)]
  ·intro i2 c2 q2 hI h2
   have vV:i2=0:=by
    cases i2 with
    | zero=>rfl
    | succ i=>simp [Eng.child,zA0] at h2
   subst vV
   simp [Eng.child,zA0] at h2
   obtain ⟨u2,L2,h3,gC,h5'⟩:=ho c2 q2 (fun e=>hI (by rw [e])) h2
   exact ⟨u2,L2,ja c2 u2 h3,gC,fun b hb=>by have:=h5' b hb;simp at this ⊢;rcases this with h | h<;>simp [h]⟩
  ·subst h1
   have:c<q0.cells.length:=(List.getElem?_eq_some_iff.1 hq).1
   have:=zCR (c:=r) (o:=a.off) (n:=q0.cells.length) (k:=c) (u:=u) (by rw [h5];exact hu)
   simp only [kid,zAt]
   rw [zCn h4.any];exact this
  ·obtain ⟨hx,hl,hg⟩:=hk w' Φ' A' q' Li' hA hs (fun b h=>hb b (by simp at h ⊢;rcases h with h | h<;>simp [h])) jf j6
   simp only [zB1,zA0,zAC,Option.bind_some,List.getElem?_cons_zero,List.set_cons_zero] at hp
   cases hp
   obtain ⟨e,h4⟩:=h4
   refine ⟨a,r,u0,La++Li'++Lb,by simp,h1,h2,⟨e,?_⟩,by rw [hl];exact h5,⟨by rw [hl];exact h6,by rw [hg];exact ue⟩,hx⟩
   rw [hb a.block (by simp)];exact h4
 case own sz xs =>
  obtain ⟨h1,h2,h3⟩ | ⟨a,n,r,us,L',rfl,h1,h2,h3,h4,h5,h6,⟨h7,uI⟩,h8,h9⟩:=h
  ·subst h1;simp at hq
  ·cases hx:xs[i]? with
   | none=>rw [hx] at hq;simp at hq
   | some x =>
    rw [hx] at hq;simp at hq
    obtain ⟨ux,La,Li,Lb,hu,rfl,hr,hk,ho⟩:=h9.split hx
    have hg:zCi ux=x.isAgg:=by
     have h1:(us.map zCi)[i]? = some (zCi ux):=by simp [hu]
     have h2:(xs.map PV.isAgg)[i]? = some x.isAgg:=by simp [hx]
     rw [uI] at h1;rw [h1] at h2;simpa using h2
    obtain ⟨u,La',Li',Lb',hu',rfl,j6,wX,ho'⟩:=hr.cell hq hg
    have ja:∀ i2 c2 x2 u2,us[i2]? = some x2→x2.cells.toList[c2]? = some u2→kid w v (.own sz xs) i2 c2=some u2:=by
     intro i2 c2 x2 u2 jY wk
     subst h1
     have hf:=zDA h7 jY wk
     rw [← h8] at hf
     have:=zCR hf
     simp only [kid,zAt]
     rw [zCn h4.any];exact this
    refine ⟨u,a.block::(La++La'),Li',Lb'++Lb,?_,by simp,j6,fun w' Φ' A' q' Lj p' hA hs hb jf hrq hp=>?_,?_,?_⟩
    rotate_left 2
    ·intro w' hb q' p' hp i2 c2
     simp only [zB1,zA0,zAC,Option.bind_some,hx] at hp
     cases hp;subst h1
     simp only [kid,World.cell?,zAt]
     rw [hb a.block (by simp)]
    ·intro i2 c2 q2 hI h2
     simp only [Eng.child,zA0,Option.bind_some] at h2
     cases jY:xs[i2]? with
     | none=>rw [jY] at h2;cases h2
     | some x2 =>
      rw [jY] at h2;simp only [Option.bind_some] at h2
      by_cases kW:i2=i
      ·subst kW
       rw [hx] at jY;cases jY
       obtain ⟨u2,L2,h3,gC,h5'⟩:=ho' c2 q2 (fun e=>hI (by rw [e])) h2
       exact ⟨u2,L2,ja _ _ _ _ hu h3,gC,fun b hb=>by have:=h5' b hb;simp at this ⊢;rcases this with h | h<;>simp [h]⟩
      ·obtain ⟨ux2,L2,h3,gC,h5'⟩:=ho i2 x2 kW jY
       have qV:zCi ux2=x2.isAgg:=by
        have h1:(us.map zCi)[i2]? = some (zCi ux2):=by simp [h3]
        have h2:(xs.map PV.isAgg)[i2]? = some x2.isAgg:=by simp [jY]
        rw [uI] at h1;rw [h1] at h2;simpa using h2
       obtain ⟨u2,Ma,Mi,Mb,ue,rfl,h7'',_⟩:=gC.cell h2 qV
       exact ⟨u2,Mi,ja _ _ _ _ h3 ue,h7'',fun b hb=>by have:=h5' b (by simp [hb]);simp at this ⊢;rcases this with h | h<;>simp [h]⟩
    ·subst h1
     have hf:=zDA h7 hu hu'
     rw [← h8] at hf
     have:=zCR hf
     simp only [kid,zAt]
     rw [zCn h4.any];exact this
    ·obtain ⟨uQ,hl,hg'⟩:=wX w' Φ' zCe q' Lj (fun _ _ _ h=>h) hs (fun b h=>hb b (by simp at h ⊢;rcases h with h | h<;>simp [h])) jf hrq
     have hk:=hk w' Φ' zCe _ _ (fun _ _ _ h=>h) hs (fun b h=>hb b (by simp at h ⊢;rcases h with h | h<;>simp [h])) uQ
     simp only [zB1,zA0,zAC,Option.bind_some,hx] at hp
     cases hp
     obtain ⟨e,h4⟩:=h4
     refine .inr ⟨a,n,r,us,La++(La'++Lj++Lb')++Lb,by simp,by simpa using h1,h2,by simpa using h3,⟨e,?_⟩,h5,?_,⟨h7,?_⟩,by simpa using h8,hk⟩
     ·rw [hb a.block (by simp)];exact h4
     ·intro y hy
      rcases List.mem_or_eq_of_mem_set hy with hy | hy
      ·exact h6 y hy
      ·rw [hy,hl];exact h6 x (List.mem_of_getElem? hx)
     ·rw [uI,zEt hx hg']
end
def zIp:Al→PV→zAU→Al
 | A,_,[]=>A
 | A,p,(i,c)::rest=>match child p i c with
  | some q=>zIp (zGF A p) q rest
  | none=>zCe
theorem zD4 {p:PV} {i c:Nat} {q' p':PV} (h:zB1 p i c q'=some p'):p'.isAgg=p.isAgg:=by
 simp only [zB1] at h
 cases p<;>simp only [zA0,Option.bind_none,Option.bind_some] at h<;>try cases h
 case own sz xs =>
  cases hx:xs[i]?<;>rw [hx] at h<;>simp [zAC] at h
  subst h;rfl
 case box q =>
  cases i with
  | zero=>simp [zAC] at h;subst h;rfl
  | succ i=>simp at h
 case agg cs =>
  cases i with
  | zero=>simp [zAC,zAx] at h;subst h;rfl
  | succ i=>simp at h
def zCl:PV→PV→Prop
 | .own sz _,.own sz' _=>sz=sz'
 | .box _,.box _=>True
 | .omap _,.omap _=>True
 | _,_=>False
theorem zCl.refl {p:PV} (h:p.heavy0=true):zCl p p:=by
 cases p<;>simp_all [PV.heavy0,zCl]
theorem zL7 {x q q':PV} {c:Nat} (hq:x.cells[c]? = some q) (hg:q'.isAgg=q.isAgg):(zAx x c [q']).cells=x.cells.set c q':=by
 cases hx:x.isAgg with
 | true =>
  cases x<;>simp [PV.isAgg] at hx
  rename_i cs
  have hc:c<cs.length:=(List.getElem?_eq_some_iff.1 hq).1
  show cs.take c++[q']++cs.drop (c+1)=cs.set c q'
  rw [List.set_eq_take_append_cons_drop,if_pos hc];simp
 | false =>
  have j7:x.cells=[x]:=by cases x<;>first | rfl | simp [PV.isAgg] at hx
  rw [j7] at hq ⊢
  have hc:c=0:=by have:=(List.getElem?_eq_some_iff.1 hq).1;simp at this;exact this
  subst hc;simp at hq;subst hq
  have he:zAx x 0 [q']=q':=by cases x<;>first | rfl | simp [PV.isAgg] at hx
  rw [he]
  rw [hx] at hg
  cases q'<;>first | rfl | simp [PV.isAgg] at hg
theorem zSn {p q q' p':PV} {i c:Nat} (hc:Eng.child p i c=some q) (hg:q'.isAgg=q.isAgg) (hp:zB1 p i c q'=some p') :
  Eng.child p' i c=some q'∧∀ i2 c2,(i2,c2)≠(i,c)→Eng.child p' i2 c2=Eng.child p i2 c2:=by
 simp only [Eng.child] at hc
 simp only [zB1] at hp
 cases hh:zA0 p with
 | none=>rw [hh] at hc;cases hc
 | some xs =>
  rw [hh] at hc hp;simp only [Option.bind_some] at hc hp
  cases hx:xs[i]? with
  | none=>rw [hx] at hc;cases hc
  | some x =>
   rw [hx] at hc hp;simp only [Option.bind_some] at hc hp
   have y9:=zL7 hc hg
   have hi:i<xs.length:=(List.getElem?_eq_some_iff.1 hx).1
   have yO:c<x.cells.length:=(List.getElem?_eq_some_iff.1 hc).1
   have wm:zA0 p'=some (xs.set i (zAx x c [q'])):=by
    cases p<;>simp only [zA0] at hh<;>try cases hh
    case agg cs =>
     have jg:i=0:=by simpa using hi
     subst jg
     simp only [List.getElem?_cons_zero,Option.some.injEq] at hx;subst hx
     simp only [zAx,List.set_cons_zero,zAC,Option.some.injEq] at hp ⊢
     subst hp;rfl
    case own sz =>
     simp only [zAC,Option.some.injEq] at hp
     subst hp;rfl
    case box q0 =>
     have jg:i=0:=by simpa using hi
     subst jg
     simp only [List.set_cons_zero,zAC,Option.some.injEq] at hp ⊢
     subst hp;rfl
   refine ⟨?_,fun i2 c2 hI=>?_⟩
   ·simp only [Eng.child,wm,Option.bind_some,List.getElem?_set_self hi,y9,List.getElem?_set_self yO]
   ·simp only [Eng.child,wm,hh,Option.bind_some]
    by_cases kW:i2=i
    ·subst kW
     rw [List.getElem?_set_self hi,hx];simp only [Option.bind_some,y9]
     rw [List.getElem?_set_ne (by intro e;exact hI (by rw [e]))]
    ·rw [List.getElem?_set_ne (by omega)]
section
variable {w w':World} {Φ Φ':Nat→Prop}
theorem zEY {A:Al}:∀ {pre:zAU} {p:PV} {v:Value} {L:List Nat},Rep w Φ A p v L→(∀ b∈L,w'.heap[b]? = w.heap[b]?)→zAR w' v p pre=zAR w v p pre
 | [],_,_,_,_,_=>rfl
 | (i, c)::rest,p,v,L,h,hb=>by
  rw [zA6,zA6]
  cases hc:Eng.child p i c with
  | none=>rfl
  | some q =>
   simp only [Option.bind_some]
   obtain ⟨u,La,Li,Lb,hk,rfl,hr,_⟩:=h.child hc
   have wX:kid w' v p i c=kid w v p i c:=by
    cases p<;>first | (simp [Eng.child,zA0] at hc;done) | skip
    ·obtain ⟨vs,rfl,_⟩:=h;rfl
    ·obtain ⟨h1,h2,h3⟩ | ⟨a,n,r,us,L',h0,h1,h2,_⟩:=h
     ·subst h1;simp [Eng.child,zA0] at hc
     ·subst h1;simp only [kid]
      exact World.cell?_of_block (w:=w) (hb _ (by rw [h0];simp [zAt]))
    ·obtain ⟨a,r,u0,L',h0,h1,_⟩:=h
     subst h1;simp only [kid]
     exact World.cell?_of_block (w:=w) (hb _ (by rw [h0];simp [zAt]))
   rw [wX,hk];simp only [Option.bind_some]
   exact zEY hr fun b h=>hb b (by simp [h])
theorem zK2 {p p' q':PV} {i c:Nat} (hp:zB1 p i c q'=some p') (hh:p'.heavy0=true):zCl p p':=by
 simp only [zB1] at hp
 cases p<;>simp only [zA0,Option.bind_none,Option.bind_some] at hp<;>try cases hp
 case own sz xs =>
  cases hx:xs[i]?<;>rw [hx] at hp<;>simp [zAC] at hp
  subst hp;rfl
 case box q =>
  cases i with
  | zero=>simp [zAC] at hp;subst hp;trivial
  | succ i=>simp at hp
 case agg cs =>
  cases i with
  | zero=>simp [zAC,zAx] at hp;subst hp;cases hh
  | succ i=>simp at hp
theorem Rep.zip : ∀ (pre:zAU) {A:Al} {p:PV} {v:Value} {L:List Nat} {q:PV},Rep w Φ A p v L→zAz p pre=some q →
  ∃ nv La Li Lb,zAR w v p pre=some (nv,q)∧L=La++Li++Lb∧Rep w Φ (zIp A p pre) q nv Li ∧
   (∀ w' Φ' (A':Al) q' Li' p',(∀ a v,a.isWay=true→A a v→A' a v)→zDc w w' Φ Φ'→(∀ b∈La++Lb,w'.heap[b]? = w.heap[b]?)→(pre≠[]→q'.isAgg=q.isAgg)→Rep w' Φ' (zIp A' p pre) q' nv Li' →
    zAu (fun _=>some q') p pre=some p'→Rep w' Φ' A' p' v (La++Li'++Lb)) ∧
   ∀ w' q' p',(∀ b∈La++Lb,w'.heap[b]? = w.heap[b]?)→(pre≠[]→q'.isAgg=q.isAgg)→zAu (fun _=>some q') p pre=some p' →
    ∀ pth nv2 np2,zAR w' v p' pth=some (nv2,np2)→np2.heavy0=true →
     (∃ rest,pth=pre++rest∧zAR w' nv q' rest=some (nv2,np2))∨∃ np0,zAR w v p pth=some (nv2,np0)∧zCl np0 np2
 | [],A,p,v,L,q,h,hq=>by
  simp only [zAz] at hq;cases hq
  refine ⟨v,[],L,[],rfl,by simp,h,fun w' Φ' A' q' Li' p' hA hs hb _ hr hp=>?_,fun w' q' p' hb _ hp pth nv2 np2 hf hh=>?_⟩
  ·simp only [zAu] at hp;cases hp
   simpa [zIp] using hr
  ·simp only [zAu] at hp;cases hp
   exact .inl ⟨pth,rfl,hf⟩
 | (i, c) :: rest,A,p,v,L,q,h,hq=>by
  rw [zCa] at hq
  cases hc:Eng.child p i c with
  | none=>rw [hc] at hq;cases hq
  | some q1 =>
   rw [hc] at hq;simp only [Option.bind_some] at hq
   obtain ⟨u,La,Li,Lb,hu,rfl,hr,hk,ja,vE⟩:=h.child hc
   obtain ⟨nv,Ma,Mi,Mb,hf,rfl,wj,wn,uR⟩:=Rep.zip rest hr hq
   have yv:∀ q' q1',zAu (fun _=>some q') q1 rest=some q1'→q'.isAgg=q.isAgg→q1'.isAgg=q1.isAgg:=by
    intro q' q1' hm jf
    cases rest with
    | nil =>
     simp only [zAu] at hm;cases hm
     simp only [zAz] at hq;cases hq
     exact jf
    | cons x rest =>
     obtain ⟨i2,c2⟩:=x
     rw [zBt] at hm
     cases jE:Eng.child q1 i2 c2 with
     | none=>rw [jE] at hm;cases hm
     | some q2 =>
      rw [jE] at hm;simp only [Option.bind_some] at hm
      cases vW:zAu (fun _=>some q') q2 rest with
      | none=>rw [vW] at hm;cases hm
      | some q2'=>rw [vW] at hm;exact zD4 (by simpa using hm)
   refine ⟨nv,La++Ma,Mi,Mb++Lb,?_,by simp,?_,fun w' Φ' A' q' Li' p' hA hs hb jf j6 hp=>?_,fun w' q' p' hb jf hp pth nv2 np2 jp hh=>?_⟩
   rotate_left 3
   ·rw [zBt,hc] at hp;simp only [Option.bind_some] at hp
    cases hm:zAu (fun _=>some q') q1 rest with
    | none=>rw [hm] at hp;cases hp
    | some q1' =>
     rw [hm] at hp;simp only [Option.bind_some] at hp
     have y7:∀ b∈La++Lb,w'.heap[b]? = w.heap[b]?:=fun b h=>hb b (by simp at h ⊢;rcases h with h | h<;>simp [h])
     have j1:∀ b∈Ma++Mb,w'.heap[b]? = w.heap[b]?:=fun b h=>hb b (by simp at h ⊢;rcases h with h | h<;>simp [h])
     have hg:q1'.isAgg=q1.isAgg:=yv q' q1' hm (jf (by simp))
     obtain ⟨yd,hoc⟩:=zSn hc hg hp
     cases pth with
     | nil =>
      simp only [zAR,Option.some.injEq,Prod.mk.injEq] at jp
      obtain ⟨rfl,rfl⟩:=jp
      exact .inr ⟨p,rfl,zK2 hp hh⟩
     | cons x pth =>
      obtain ⟨i2,c2⟩:=x
      rw [zA6] at jp
      by_cases yf:(i2,c2)=(i,c)
      ·cases yf
       rw [yd] at jp;simp only [Option.bind_some] at jp
       rw [ja w' y7 q1' p' hp,hu] at jp;simp only [Option.bind_some] at jp
       rcases uR w' q' q1' j1 (fun _=>jf (by simp)) hm pth nv2 np2 jp hh with ⟨rst,rfl,h3⟩ | ⟨np0,h3,h4⟩
       ·exact .inl ⟨rst,rfl,h3⟩
       ·refine .inr ⟨np0,?_,h4⟩
        rw [zA6,hc];simp only [Option.bind_some];rw [hu];exact h3
      ·rw [hoc i2 c2 yf] at jp
       cases jE:Eng.child p i2 c2 with
       | none=>rw [jE] at jp;cases jp
       | some q2 =>
        rw [jE] at jp;simp only [Option.bind_some] at jp
        obtain ⟨u2,L2,h3,h4,h5⟩:=vE i2 c2 q2 yf jE
        rw [ja w' y7 q1' p' hp,h3] at jp;simp only [Option.bind_some] at jp
        rw [zEY h4 fun b yG=>y7 b (h5 b yG)] at jp
        refine .inr ⟨np2,?_,zCl.refl hh⟩
        rw [zA6,jE];simp only [Option.bind_some];rw [h3];exact jp
   ·rw [zA6,hc];simp only [Option.bind_some];rw [hu];simpa using hf
   ·simpa only [zIp,hc] using wj
   ·rw [zBt,hc] at hp;simp only [Option.bind_some] at hp
    cases hm:zAu (fun _=>some q') q1 rest with
    | none=>rw [hm] at hp;cases hp
    | some q1' =>
     rw [hm] at hp;simp only [Option.bind_some] at hp
     simp only [zIp,hc] at j6
     have h2:=wn w' Φ' (zGF A' p) q' Li' q1' (zKp hA) hs (fun b h=>hb b (by simp at h ⊢;rcases h with h | h<;>simp [h])) (fun _=>jf (by simp)) j6 hm
     have hg:q1'.isAgg=q1.isAgg:=yv q' q1' hm (jf (by simp))
     have:=hk w' Φ' A' q1' _ p' hA hs (fun b h=>hb b (by simp at h ⊢;rcases h with h | h<;>simp [h])) hg h2 hp
     simpa using this
end
section
variable {w:World} {Φ:Nat→Prop} {rv:Nat→Value} {E:Nat→PV}
theorem zL9 {r:Nat} {pre:zAU} {p:PV} {v:Value} {L:List Nat} (hr:r<zAb) (hf:zAR w (rv r) (E r).unlock pre=some (v,p))
  (h:Rep w Φ (zA8 w rv E) p v L):Rep w Φ (zA8 w rv E) (zHo r pre p) v []:=by
 cases p with
 | own sz xs =>
  refine ⟨rfl,hr,?_,?_⟩
  ·obtain ⟨h1,h2,h3⟩ | ⟨a,n,c,us,L',h0,h1,h2,h3,h4⟩:=h
   ·subst h1;exact ⟨none,0,h3,by simp,by simp,by simp⟩
   ·exact ⟨some a,n,h1,h3,by simp,fun b hb=>by cases hb;exact h2⟩
  ·intro nv np hn _
   rw [hf] at hn;cases hn
   refine ⟨sz,xs,rfl,rfl,?_⟩
   obtain ⟨h1,h2,h3⟩ | ⟨a,n,c,us,L',h0,h1,h2,h3,h4⟩:=h
   ·subst h1;subst h3;exact ⟨rfl,rfl⟩
   ·subst h1
    have:zAt a (0*sz)=a:=by cases a;simp_all [zAt]
    exact ⟨by rw [this];rfl,by simpa using h3⟩
 | box q =>
  obtain ⟨a,c,u,L',h0,h1,h2,h4⟩:=h
  refine ⟨rfl,hr,a,h1,h2,?_⟩
  intro nv np hn a' ha
  rw [hf] at hn;cases hn;subst h1
  have:zAt a 0=a:=by cases a;simp_all [zAt]
  simp only [zBa,this] at ha;cases ha;rfl
 | omap es =>
  obtain ⟨b,ents,h0,h1,h4⟩:=h
  refine ⟨rfl,hr,⟨b,h1⟩,?_⟩
  intro nv np hn es' he
  rw [hf] at hn;cases hn;rfl
 | agg cs=>rfl
 | tup cs=>rfl
 | lock q=>rfl
 | _=>simp_all [zHo,Rep]
end
end Go.Eng
namespace Go.Eng
open Go
theorem zDK {p q:PV} (h:zCl p q):p.heavy0=true:=by cases p<;>cases q<;>first | rfl | cases h
def zA9:PV→Nat×zAU
 | .addr r pre .. => (r,pre)
 | .bor r pre .. => (r,pre)
 | .bsl r pre .. => (r,pre)
 | .bmap r pre=>(r,pre)
 | _=>(0,[])
theorem zEm {nv:Value} {p q:PV} {i c:Nat} (h:zCl p q):zBa nv p i c=zBa nv q i c:=by
 cases p<;>cases q<;>simp only [zCl] at h
 ·subst h;cases nv with
  | slice a _ _=>cases a<;>rfl
  | pointer a=>cases a<;>rfl
  | _=>rfl
 ·cases nv with
  | pointer a=>cases a<;>cases i<;>rfl
  | slice a _ _=>cases a<;>rfl
  | _=>rfl
 ·cases nv with
  | pointer a=>cases a<;>cases i<;>rfl
  | slice a _ _=>cases a<;>rfl
  | _=>rfl
section
variable {w w':World} {Φ Φ':Nat→Prop} {rv rv':Nat→Value} {E E':Nat→PV}
theorem zA8.mono {a:PV} {v:Value} (h:zA8 w rv E a v)
  (hf:∀ nv np,zAR w' (rv' (zA9 a).1) (E' (zA9 a).1).unlock (zA9 a).2=some (nv,np)→np.heavy0=true →
   ∃ np0,zAR w (rv (zA9 a).1) (E (zA9 a).1).unlock (zA9 a).2=some (nv,np0)∧zCl np0 np):zA8 w' rv' E' a v:=by
 have key:∀ nv np i c a',zBa nv np i c=some a'→np.heavy0=true:=by
  intro nv np i c a' h
  cases np<;>first | rfl | (simp [zBa] at h)
 have key2:∀ nv np np0 i c a',zBa nv np i c=some a'→zCl np0 np→zBa nv np0 i c=some a':=by
  intro nv np np0 i c a' h hl;rw [zEm hl];exact h
 cases a<;>simp only [zA8] at h ⊢
 case addr r pre i c sh =>
  obtain ⟨hr,a,h1,h2,h3⟩:=h
  refine ⟨hr,a,h1,h2,fun nv np hn a' ha=>?_⟩
  obtain ⟨np0,kK,hl⟩:=hf nv np hn (key _ _ _ _ _ ha)
  exact h3 nv np0 kK a' (key2 _ _ _ _ _ _ ha hl)
 case bor r pre z lo n =>
  obtain ⟨hr,h1,h3⟩:=h
  refine ⟨hr,h1,fun nv np hn hh=>?_⟩
  obtain ⟨np0,kK,hl⟩:=hf nv _ hn hh
  obtain ⟨sz,xs,he,hz,jP⟩:=h3 nv np0 kK (zDK hl)
  subst he
  cases np<;>simp only [zCl] at hl
  subst hl
  exact ⟨_,_,rfl,hz,jP⟩
 case bsl r pre i c sz ag n =>
  obtain ⟨hr,a,cap,h1,h2,je,h3⟩:=h
  refine ⟨hr,a,cap,h1,h2,je,fun nv np hn a' ha=>?_⟩
  obtain ⟨np0,kK,hl⟩:=hf nv np hn (key _ _ _ _ _ ha)
  exact h3 nv np0 kK a' (key2 _ _ _ _ _ _ ha hl)
 case bmap r pre =>
  obtain ⟨hr,h1,h3⟩:=h
  refine ⟨hr,h1,fun nv np hn es he=>?_⟩
  subst he
  obtain ⟨np0,kK,hl⟩:=hf nv _ hn rfl
  cases np0<;>simp only [zCl] at hl
  exact h3 nv _ kK _ rfl
theorem zEp:∀ {ps:List PV} {i:Nat} {p:PV},zC5 ps=false→ps[i]? = some p→p.heavy=false
 | [],_,_,_,h=>by simp at h
 | q::ps,0,p,hh,h=>by
  simp at h;subst h
  simp only [zC5,Bool.or_eq_false_iff] at hh;exact hh.1
 | q::ps,i+1,p,hh,h=>by
  simp only [zC5,Bool.or_eq_false_iff] at hh
  exact zEp hh.2 (by simpa using h)
theorem zEr:∀ {pre:zAU} {p:PV} {v nv:Value} {np:PV},p.heavy=false→zAR w v p pre=some (nv,np)→np.heavy=false
 | [],p,v,nv,np,hp,h=>by simp only [zAR] at h;cases h;exact hp
 | (i, c)::rest,p,v,nv,np,hp,h=>by
  rw [zA6] at h
  cases hc:Eng.child p i c with
  | none=>rw [hc] at h;cases h
  | some q =>
   rw [hc] at h;simp only [Option.bind_some] at h
   cases hk:kid w v p i c with
   | none=>rw [hk] at h;cases h
   | some u =>
    rw [hk] at h;simp only [Option.bind_some] at h
    refine zEr ?_ h
    cases p<;>first | (simp [Eng.child,zA0] at hc;done) | (simp [PV.heavy] at hp;done) | skip
    rename_i cs
    cases i with
    | zero=>simp [Eng.child,zA0,PV.cells] at hc;exact zEp hp hc
    | succ i=>simp [Eng.child,zA0] at hc
theorem zFs {p:PV} (h:p.heavy0=true):p.heavy=true:=by
 cases p<;>simp_all [PV.heavy0,PV.heavy]
structure Conf (w0:World) (U Φ0:Nat→Prop) (w:World) (Φ:Nat→Prop) (rv:Nat→Value) (E:Nat→PV) (L:Nat→List Nat):Prop where
 rep:∀ s,Rep w Φ (zA8 w rv E) (E s) (rv s) (L s)
 nodup:∀ s,(L s).Nodup
 disj:∀ s s',s≠s'→∀ b∈L s,b∉L s'
 own:∀ s,∀ b∈L s,b<w.heap.size∧¬ Φ b∧(U b∨w0.heap.size≤b)
 frz:∀ b,Φ b→b<w.heap.size∧(Φ0 b∨U b∨w0.heap.size≤b)
 frz0:∀ b,Φ0 b→Φ b
 size:w0.heap.size≤w.heap.size
 kept:∀ b,b<w0.heap.size→¬ U b→w.heap[b]? = w0.heap[b]?
 os:w.os=w0.os
 tape:w.tape=w0.tape
 output:w.output=w0.output
def upd {α:Type} (f:Nat→α) (s:Nat) (x:α):Nat→α:=fun t=>if t=s then x else f t
theorem zAj {α:Type} {f:Nat→α} {s:Nat} {x:α}:upd f s x s=x:=if_pos rfl
theorem zAf {α:Type} {f:Nat→α} {s t:Nat} {x:α} (h:t≠s):upd f s x t=f t:=if_neg h
theorem zB7 {A:Al} {p:PV} {v:Value} {L:List Nat} (h:Rep w Φ A p v L):Rep w Φ A p.unlock v L:=by cases p<;>exact h
theorem zDg:∀ (a b:zAU) (v:Value) (p:PV),zAR w v p (a++b)=(zAR w v p a).bind fun x=>zAR w x.1 x.2 b
 | [],b,v,p=>rfl
 | (i,c)::a,b,v,p=>by
  rw [List.cons_append,zA6,zA6]
  cases Eng.child p i c with
  | none=>rfl
  | some q =>
   simp only [Option.bind_some]
   cases kid w v p i c with
   | none=>rfl
   | some u=>simp only [Option.bind_some];exact zDg a b u q
theorem zHC {v:Value} {p:PV} {i c:Nat}:zAR w v p [(i,c)]=(Eng.child p i c).bind fun q=>(kid w v p i c).bind fun u=>some (u,q):=by
 rw [zA6];rfl
theorem zA2.part {A:Al}:∀ {ps:List PV} {us:List Value} {L:List Nat},zA2 w Φ A ps us L→∀ c n,∃ L',zA2 w Φ A ((ps.drop c).take n) ((us.drop c).take n) L'
 | [],us,L,h,c,n=>by rw [h.1];exact ⟨[],by simp [zA2]⟩
 | p::ps,us,L,h,0,0=>⟨[],by simp [zA2]⟩
 | p::ps,us,L,h,0,n+1=>by
  obtain ⟨v,vs,L1,L2,rfl,rfl,h1,h2⟩:=h
  obtain ⟨L',h'⟩:=h2.part 0 n
  exact ⟨L1++L',v,_,L1,L',rfl,rfl,h1,by simpa using h'⟩
 | p::ps,us,L,h,c+1,n=>by
  obtain ⟨v,vs,L1,L2,rfl,rfl,h1,h2⟩:=h
  simpa using h2.part c n
theorem zG9 {p:PV} {xs:List PV} (h:zBg p=some xs):zA0 p=some xs:=by cases p<;>first | exact h | cases h
theorem zBZ {a:Addr} (h:a.spot=none) (j:Nat):a.add j=zAt a j:=by
 obtain ⟨b,o,sp⟩:=a
 simp only at h;subst h
 simp only [Addr.add,zAt]
 split
 ·rename_i hj;subst hj;rfl
 ·rfl
theorem zFW (a:Addr) (k j:Nat):(zAt a k).add j=zAt a (k+j):=by
 rw [zBZ rfl];simp [zAt,Nat.add_assoc]
theorem zSU {nv:Value} {np:PV} {xs:List PV} {i c j:Nat} {ad:Addr} (h:zBg np=some xs) (ha:zBa nv np i c=some ad):kid w nv np i (c+j)=w.cell? (ad.add j):=by
 cases np<;>simp only [zBg] at h<;>try cases h
 ·cases nv with
  | slice a _ _ =>
   cases a with
   | none=>cases ha
   | some a=>simp only [zBa] at ha;cases ha;rw [zFW];simp [kid,Nat.add_assoc]
  | pointer a=>cases a<;>cases ha
  | _=>cases ha
 ·cases nv with
  | pointer a =>
   cases a with
   | none=>cases i<;>cases ha
   | some a=>cases i<;>simp only [zBa] at ha<;>cases ha;rw [zFW];simp [kid,Nat.add_assoc]
  | slice a _ _=>cases a<;>cases ha
  | _=>cases ha
theorem zFV {A:Al} {p:PV} {a:PV} {v:Value} (h:zGF A p a v):A a v:=by
 cases p<;>first | exact h | exact h.elim
theorem zEx:∀ {pre:zAU} {A:Al} {p:PV} {a:PV} {v:Value},zIp A p pre a v→A a v
 | [],_,_,_,_,h=>h
 | (i,c)::rest,A,p,a,v,h=>by
  simp only [zIp] at h
  cases hc:Eng.child p i c with
  | none=>rw [hc] at h;exact h.elim
  | some q=>rw [hc] at h;exact zFV (zEx h)
theorem Rep.cellsAll {A:Al} {p:PV} {v:Value} {L:List Nat} (h:Rep w Φ A p v L) (hn:zCi v=p.isAgg):zA2 w Φ A p.cells v.cells.toList L:=by
 cases hp:p.isAgg with
 | true =>
  cases p<;>simp [PV.isAgg] at hp
  obtain ⟨vs,rfl,h⟩:=h
  exact h
 | false =>
  have j7:p.cells=[p]:=by cases p<;>first | rfl | simp [PV.isAgg] at hp
  have hv:v.cells=#[v]:=by rw [hp] at hn;cases v<;>first | rfl | simp [zCi] at hn
  rw [j7,hv]
  exact ⟨v,[],L,[],rfl,by simp,h,rfl,rfl⟩
theorem zRp {A:Al} {np:PV} {nv:Value} {Li:List Nat} (h:Rep w Φ A np nv Li) {xs:List PV} (hx:zBg np=some xs) {i:Nat} {x:PV} (hi:xs[i]? = some x) (c:Nat) :
  ∃ ux ad Lx,(∀ b∈Lx,b∈Li)∧zBa nv np i c=some ad∧ad.spot=none∧(∀ k u,ux.cells.toList[k]? = some u→∀ j,k=c+j→w.cell? (ad.add j)=some u)∧zCi ux=x.isAgg∧ux.cells.size=x.cells.length∧zA2 w Φ (zGF A np) x.cells ux.cells.toList Lx:=by
 cases np<;>simp only [zBg] at hx<;>try cases hx
 case own sz =>
  obtain ⟨h1,h2,h3⟩ | ⟨a,n,r,us,L',rfl,h1,h2,h3,h4,h5,h6,⟨h7,uI⟩,h8,h9⟩:=h
  ·subst h1;simp at hi
  ·obtain ⟨ux,La,Lx,Lb,hu,rfl,hr,_,_⟩:=h9.split hi
   have hg:zCi ux=x.isAgg:=by
    have h1:(us.map zCi)[i]? = some (zCi ux):=by simp [hu]
    have h2:(xs.map PV.isAgg)[i]? = some x.isAgg:=by simp [hi]
    rw [uI] at h1;rw [h1] at h2;simpa using h2
   subst h1
   refine ⟨ux,zAt a (i*sz+c),Lx,fun b hb=>by simp [hb],rfl,rfl,?_,hg,?_,hr.cellsAll hg⟩
   ·intro k u hk j hkj
    have hf:=zDA h7 hu hk
    rw [← h8] at hf
    have:=zCR hf
    rw [zFW,show i*sz+c+j=i*sz+k by omega]
    simp only [zAt];rw [zCn h4.any];exact this
   ·rw [h7 ux (List.mem_of_getElem? hu),h6 x (List.mem_of_getElem? hi)]
 case box q0 =>
  obtain ⟨a,r,u0,L',rfl,h1,h2,h4,h5,⟨h6,ue⟩,h7⟩:=h
  have jg:i=0:=by
   cases i with
   | zero=>rfl
   | succ i=>simp at hi
  subst jg;simp at hi;subst hi
  subst h1
  refine ⟨u0,zAt a c,L',fun b hb=>by simp [hb],rfl,rfl,?_,ue,h6,h7.cellsAll ue⟩
  intro k u hk j hkj
  have:=zCR (c:=r) (o:=a.off) (n:=q0.cells.length) (k:=k) (u:=u) (by rw [h5];exact hk)
  rw [zFW,← hkj]
  simp only [zAt];rw [zCn h4.any];exact this
theorem zE9 {r i:Nat} {pre:zAU} (hr:r<zAb):∀ {ps:List PV} {us:List Value} {L:List Nat} {c:Nat},zA2 w Φ (zA8 w rv E) ps us L →
  (∀ j p u,ps[j]? = some p→us[j]? = some u→zAR w (rv r) (E r).unlock (pre++[(i,c+j)])=some (u,p))→zA2 w Φ (zA8 w rv E) (zBD r pre i c ps) us []
 | [],us,L,c,h,_=>⟨h.1,rfl⟩
 | p::ps,us,L,c,h,hf=>by
  obtain ⟨v,vs,L1,L2,rfl,rfl,h1,h2⟩:=h
  refine ⟨v,vs,[],[],rfl,rfl,zL9 hr (hf 0 p v rfl rfl) h1,zE9 hr h2 fun j q u hq hu=>?_⟩
  have:=hf (j+1) q u (by simpa using hq) (by simpa using hu)
  rwa [show c+1+j=c+(j+1) by omega]
section
variable {w0:World} {U Φ0:Nat→Prop} {L:Nat→List Nat}
theorem Conf.view (h:Conf w0 U Φ0 w Φ rv E L) {s:Nat} (hs:s<zAb):Rep w Φ (zA8 w rv E) (view s (E s)) (rv s) []:=by
 have hr:=zB7 (h.rep s)
 have hv:Eng.view s (E s)=zTl s (E s).unlock:=by cases E s<;>rfl
 rw [hv]
 have hf:zAR w (rv s) (E s).unlock []=some (rv s,(E s).unlock):=rfl
 have key:∀ p,(E s).unlock=p→Rep w Φ (zA8 w rv E) (zTl s p) (rv s) []:=by
  intro p hp
  rw [hp] at hr hf
  cases p with
  | agg cs =>
   obtain ⟨vs,hv,hr⟩:=hr
   refine ⟨vs,hv,zE9 hs hr fun j p u hj hu=>?_⟩
   rw [zDg,hp,hf,hv]
   show (zAR w (.agg vs) (.agg cs) [(0,0+j)])=_
   rw [zHC]
   have hu:vs[j]? = some u:=by simpa using hu
   simp [Eng.child,zA0,PV.cells,kid,hj,hu]
  | tup cs=>rfl
  | _=>exact zL9 (pre:=[]) hs (by rw [hp];exact hf) hr
 exact key _ rfl
theorem Conf.cells (h:Conf w0 U Φ0 w Φ rv E L) {r:Nat} {pre:zAU} {i c n:Nat} {a:Bool} {qs:List PV} (hr:r<zAb) (hc:zAr r (E r) pre i c n=some (a,qs)) :
  ∃ nv np ad us,zAR w (rv r) (E r).unlock pre=some (nv,np)∧zBa nv np i c=some ad∧ad.spot=none∧us.length=n∧(∀ j u,us[j]? = some u→w.cell? (ad.add j)=some u)∧zA2 w Φ (zA8 w rv E) qs us []:=by
 simp only [zAr] at hc
 cases hn:zAz (E r).unlock pre with
 | none=>rw [hn] at hc;cases hc
 | some np =>
  rw [hn] at hc;simp only at hc
  obtain ⟨nv,La,Li,Lb,hf,hL,hX,_,_⟩:=Rep.zip pre (zB7 (h.rep r)) hn
  cases hx:zBg np with
  | none=>rw [hx] at hc;cases hc
  | some xs =>
   rw [hx] at hc;simp only at hc
   cases hxi:xs[i]? with
   | none=>rw [hxi] at hc;cases hc
   | some x =>
    rw [hxi] at hc;simp only at hc
    by_cases yN:c+n≤x.cells.length
    ·rw [Nat.ble_eq_true_of_le yN] at hc
     simp only [cond_true,Option.some.injEq,Prod.mk.injEq] at hc
     obtain ⟨rfl,rfl⟩:=hc
     obtain ⟨ux,ad,Lx,hA,jH,y4,jT,wo,yD,uf⟩:=zRp hX hx hxi c
     have hZ:ux.cells.toList.length=x.cells.length:=(uf.length)
     refine ⟨nv,np,ad,(ux.cells.toList.drop c).take n,hf,jH,y4,by simp at hZ ⊢;omega,?_,?_⟩
     ·intro j u hj
      simp only [List.getElem?_take,List.getElem?_drop] at hj
      split at hj
      ·exact jT (c+j) u hj j rfl
      ·cases hj
     ·obtain ⟨L',ya⟩:=uf.part c n
      refine zE9 hr (ya.mono (A':=zA8 w rv E) zDc.refl (fun a v hw ha=>zEx (zFV ha)) (fun _ _=>rfl)) fun j p u hp hu=>?_
      simp only [List.getElem?_take,List.getElem?_drop] at hp hu
      split at hp
      ·rename_i hjn
       rw [if_pos hjn] at hu
       rw [zDg,hf];simp only [Option.bind_some];rw [zHC]
       have yd:Eng.child np i (c+j)=some p:=by
        simp only [Eng.child]
        rw [zG9 hx];simp [hxi,hp]
       rw [yd];simp only [Option.bind_some]
       rw [zSU hx jH (j:=j),jT (c+j) u hu j rfl];rfl
      ·cases hp
    ·have:Nat.ble (c+n) x.cells.length=false:=by
      cases hb:Nat.ble (c+n) x.cells.length with
      | false=>rfl
      | true=>exact absurd (Nat.le_of_ble_eq_true hb) yN
     rw [this] at hc;simp at hc
theorem Conf.put (h:Conf w0 U Φ0 w Φ rv E L) {s:Nat} {p:PV} {v:Value} (hp:p.heavy=false) (hr:Rep w Φ (zA8 w rv E) p v []) :
  Conf w0 U Φ0 w Φ (upd rv s v) (upd E s p) (upd L s []):=by
 have hA:∀ a u,a.isWay=true→zA8 w rv E a u→zA8 w (upd rv s v) (upd E s p) a u:=by
  intro a u _ ha
  refine ha.mono fun nv np hn hh=>?_
  by_cases hs:(zA9 a).1=s
  ·rw [hs,zAj,zAj] at hn
   have hu:p.unlock=p:=by cases p<;>first | rfl | simp [PV.heavy] at hp
   rw [hu] at hn
   have:=zEr hp hn
   rw [zFs hh] at this;cases this
  ·rw [zAf hs,zAf hs] at hn
   exact ⟨np,hn,zCl.refl hh⟩
 refine {h with rep:=?_,nodup:=?_,disj:=?_,own:=?_}
 ·intro t
  by_cases ht:t=s
  ·subst ht;rw [zAj,zAj,zAj];exact hr.mono zDc.refl hA (by simp)
  ·rw [zAf ht,zAf ht,zAf ht];exact (h.rep t).mono zDc.refl hA (fun _ _=>rfl)
 ·intro t
  by_cases ht:t=s
  ·subst ht;rw [zAj];simp
  ·rw [zAf ht];exact h.nodup t
 ·intro t t' hI b hb
  by_cases ht:t=s
  ·subst ht;rw [zAj] at hb;simp at hb
  ·rw [zAf ht] at hb
   by_cases LH:t'=s
   ·subst LH;rw [zAj];simp
   ·rw [zAf LH];exact h.disj t t' hI b hb
 ·intro t b hb
  by_cases ht:t=s
  ·subst ht;rw [zAj] at hb;simp at hb
  ·rw [zAf ht] at hb;exact h.own t b hb
end
end
def PV.dull:PV→Bool
 | .own .. | .box .. | .omap .. | .agg _ | .lock _=>false
 | _=>true
structure Tame (f:PV→PV):Prop where
 agg:∀ p,(f p).isAgg=p.isAgg
 dull:∀ p,p.isWay=true→(f p).dull=true
theorem zNf {p:PV} (h:p.dull=true):zA0 p=none:=by cases p<;>first | rfl | cases h
theorem zNQ {p:PV} (h:p.dull=true):p.heavy0=false:=by cases p<;>first | rfl | cases h
theorem zNz {p:PV} (h:p.dull=true):p.unlock=p:=by cases p<;>first | rfl | cases h
theorem zHd {f:PV→PV}:∀ (ps:List PV) (i:Nat),(zCt f ps)[i]? = (ps[i]?).map fun p=>p.mapW f
 | [],i=>by simp [zCt]
 | p::ps,0=>by simp [zCt]
 | p::ps,i+1=>by simp only [zCt,List.getElem?_cons_succ];exact zHd ps i
theorem zPL {f:PV→PV} (hf:Tame f) (q:PV) (c:Nat):(q.mapW f).cells[c]? = (q.cells[c]?).map fun p=>p.mapW f:=by
 cases hq:q.isAgg with
 | true =>
  cases q<;>simp [PV.isAgg] at hq
  simp only [PV.mapW,PV.cells];exact zHd _ _
 | false =>
  have h1:q.cells=[q]:=by cases q<;>first | rfl | simp [PV.isAgg] at hq
  have h2:(q.mapW f).isAgg=false:=by rw [zF2 hf.agg];exact hq
  have h3:(q.mapW f).cells=[q.mapW f]:=by revert h2;cases q.mapW f<;>intro h2<;>first | rfl | simp [PV.isAgg] at h2
  rw [h1,h3];cases c<;>simp
theorem zFZ {f:PV→PV} {p:PV} (h:p.isWay=true):p.mapW f=f p:=by cases p<;>first | rfl | cases h
theorem zDv {f:PV→PV} (hf:Tame f) (p:PV):(p.mapW f).unlock=p.unlock.mapW f:=by
 cases hp:p.isWay with
 | true =>
  have h1:p.unlock=p:=by cases p<;>first | rfl | cases hp
  rw [h1,zFZ hp,zNz (hf.dull p hp)]
 | false=>cases p<;>first | rfl | cases hp
section
variable {w w':World} {Φ Φ':Nat→Prop} {rv rv':Nat→Value} {E E':Nat→PV}
theorem zUU {v:Value} {p q:PV} {i c:Nat}:kid w v (.box p) i c=kid w v (.box q) i c:=by
 cases v with
 | pointer a=>cases a<;>rfl
 | slice a _ _=>cases a<;>rfl
 | _=>rfl
theorem zU5 {v:Value} {p q:List PV} {i c:Nat}:kid w v (.agg p) i c=kid w v (.agg q) i c:=by
 cases v with
 | pointer a=>cases a<;>rfl
 | slice a _ _=>cases a<;>rfl
 | _=>rfl
theorem zCX {f:PV→PV} (hf:Tame f):∀ {pre:zAU} {p:PV} {v nv:Value} {np':PV},zAR w v (p.mapW f) pre=some (nv,np')→np'.heavy0=true →
  ∃ np,zAR w v p pre=some (nv,np)∧zCl np np'
 | [],p,v,nv,np',h,hh=>by
  simp only [zAR,Option.some.injEq,Prod.mk.injEq] at h
  obtain ⟨rfl,rfl⟩:=h
  refine ⟨p,rfl,?_⟩
  cases hp:p.isWay with
  | true=>rw [zFZ hp,zNQ (hf.dull p hp)] at hh;cases hh
  | false=>cases p<;>first | (cases hp;done) | (simp [PV.mapW,PV.heavy0] at hh;done) | simp [PV.mapW,zCl]
 | (i, c) :: rest,p,v,nv,np',h,hh=>by
  rw [zA6] at h
  cases hc:Eng.child (p.mapW f) i c with
  | none=>rw [hc] at h;cases h
  | some q' =>
   rw [hc] at h;simp only [Option.bind_some] at h
   cases hk:kid w v (p.mapW f) i c with
   | none=>rw [hk] at h;cases h
   | some u =>
    rw [hk] at h;simp only [Option.bind_some] at h
    have go:∀ q,Eng.child p i c=some q→kid w v p i c=some u→q'=q.mapW f→∃ np,zAR w v p ((i,c)::rest)=some (nv,np)∧zCl np np':=by
     intro q h1 h2 h3
     subst h3
     obtain ⟨np,hn,hl⟩:=zCX hf h hh
     exact ⟨np,by rw [zA6,h1];simp only [Option.bind_some];rw [h2];exact hn,hl⟩
    cases hp:p.isWay with
    | true =>
     rw [zFZ hp] at hc
     simp [Eng.child,zNf (hf.dull p hp)] at hc
    | false =>
     cases p<;>first | (cases hp;done) | (simp [PV.mapW,Eng.child,zA0] at hc;done) | skip
     case own sz xs=>exact ⟨np',by rw [zA6];simp only [PV.mapW] at hc hk;rw [hc];simp only [Option.bind_some];rw [hk];exact h,zCl.refl hh⟩
     case box q0 =>
      simp only [PV.mapW,Eng.child,zA0,Option.bind_some] at hc
      cases i with
      | succ i=>simp at hc
      | zero =>
       simp only [List.getElem?_cons_zero,Option.bind_some] at hc
       rw [zPL hf] at hc
       cases hq:q0.cells[c]? with
       | none=>rw [hq] at hc;cases hc
       | some q =>
        rw [hq] at hc;simp only [Option.map_some,Option.some.injEq] at hc
        exact go q (by simp [Eng.child,zA0,hq]) (by rw [← hk,PV.mapW];exact zUU) hc.symm
     case agg cs =>
      simp only [PV.mapW,Eng.child,zA0,Option.bind_some] at hc
      cases i with
      | succ i=>simp at hc
      | zero =>
       simp only [List.getElem?_cons_zero,Option.bind_some,PV.cells] at hc
       rw [zHd] at hc
       cases hq:cs[c]? with
       | none=>rw [hq] at hc;cases hc
       | some q =>
        rw [hq] at hc;simp only [Option.map_some,Option.some.injEq] at hc
        exact go q (by simp [Eng.child,zA0,PV.cells,hq]) (by rw [← hk,PV.mapW];exact zU5) hc.symm
section
variable {w0:World} {U Φ0:Nat→Prop} {L L':Nat→List Nat}
theorem zC3 {a:PV} {v:Value} (h:zA8 w rv E a v):(zA9 a).1<zAb:=by
 cases a<;>simp only [zA8] at h<;>first | exact h.1 | exact h.elim
theorem zCM (h:Conf w0 U Φ0 w Φ rv E L) {f:PV→PV} (hf:Tame f) {a:PV} {v:Value} (ha:zA8 w rv E a v) (hE:E' (zA9 a).1=(E (zA9 a).1).mapW f) (hv:rv' (zA9 a).1=rv (zA9 a).1)
  (hb:∀ b∈L (zA9 a).1,w'.heap[b]? = w.heap[b]?):zA8 w' rv' E' a v:=by
 refine ha.mono fun nv np hn hh=>?_
 rw [hE,hv,zDv hf] at hn
 obtain ⟨np0,kK,hl⟩:=zCX hf hn hh
 rw [zEY (zB7 (h.rep _)) hb] at kK
 exact ⟨np0,kK,hl⟩
theorem zLf {a:PV} {v:Value} (ha:zA8 w rv E a v) (hE:(E' (zA9 a).1).unlock.heavy=false):zA8 w' rv' E' a v:=by
 refine ha.mono fun nv np hn hh=>?_
 have:=zEr hE hn
 rw [zFs hh] at this;cases this
theorem Conf.step2 (h:Conf w0 U Φ0 w Φ rv E L) (σ:Nat→Option Nat) (f:PV→PV) (hf:Tame f)
  (hσ:∀ s s' t,σ s=some t→σ s'=some t→s=s')
  (hE:∀ s t,σ s=some t→E' s=(E t).mapW f∧rv' s=rv t∧L' s=L t)
  (hN:∀ s,σ s=none→Rep w' Φ (zA8 w' rv' E') (E' s) (rv' s) (L' s))
  (hA:∀ a v,a.isWay=true→zA8 w rv E a v→Rep w' Φ (zA8 w' rv' E') (f a) v [])
  (hd:∀ s,σ s=none→(L' s).Nodup) (wY:∀ s s',σ s=none→σ s'=none→s≠s'→∀ b∈L' s,b∉L' s')
  (ho:∀ s,σ s=none→∀ b∈L' s,(∃ t,b∈L t∧∀ s,σ s≠some t)∨(w.heap.size≤b∧b<w'.heap.size))
  (hw:w.heap.size≤w'.heap.size) (hk:∀ b,b<w.heap.size→(∀ t,b∈L t→∃ s,σ s=some t)→w'.heap[b]? = w.heap[b]?)
  (uJ:w'.os=w.os∧w'.tape=w.tape∧w'.output=w.output):Conf w0 U Φ0 w' Φ rv' E' L':=by
 have LI:∀ s t,σ s=some t→∀ b∈L t,w'.heap[b]? = w.heap[b]?:=by
  intro s t hs b hb
  refine hk b (h.own t b hb).1 fun t' yG=>?_
  have:t'=t:=Classical.byContradiction fun hI=>h.disj t' t hI b yG hb
  exact ⟨s,this▸hs⟩
 have hΦ:zDc w w' Φ Φ:=fun b hb=>⟨hb,hk b (h.frz b hb).1 fun t kX=>absurd hb (h.own t b kX).2.1⟩
 have vj:∀ g,σ g=none→∀ b∈L' g,∀ t,b∈L t→∀ s,σ s≠some t:=by
  intro g hg b hb t kX s hs
  rcases ho g hg b hb with ⟨t',h1,h2⟩ | ⟨h1,h2⟩
  ·have:t'=t:=Classical.byContradiction fun hI=>h.disj t' t hI b h1 kX
   exact h2 s (this▸hs)
  ·have:=(h.own t b kX).1;omega
 refine ⟨?_,?_,?_,?_,?_,h.frz0,Nat.le_trans h.size hw,?_,uJ.1.trans h.os,uJ.2.1.trans h.tape,uJ.2.2.trans h.output⟩
 ·intro s
  cases hs:σ s with
  | some t =>
   obtain ⟨h1,h2,h3⟩:=hE s t hs
   rw [h1,h2,h3]
   exact Rep.map hf.agg hΦ hA _ _ _ (LI s t hs) (h.rep t)
  | none=>exact hN s hs
 ·intro s
  cases hs:σ s with
  | some t=>rw [(hE s t hs).2.2];exact h.nodup t
  | none=>exact hd s hs
 ·intro s s' hI b hb yG
  cases hs:σ s with
  | some t =>
   rw [(hE s t hs).2.2] at hb
   cases yt:σ s' with
   | some t' =>
    rw [(hE s' t' yt).2.2] at yG
    have:t≠t':=fun e=>hI (hσ s s' t hs (e▸yt))
    exact h.disj t t' this b hb yG
   | none=>exact vj s' yt b yG t hb s hs
  | none =>
   cases yt:σ s' with
   | some t'=>rw [(hE s' t' yt).2.2] at yG;exact vj s hs b hb t' yG s' yt
   | none=>exact wY s s' hs yt hI b hb yG
 ·intro s b hb
  cases hs:σ s with
  | some t =>
   rw [(hE s t hs).2.2] at hb
   have:=h.own t b hb
   exact ⟨Nat.lt_of_lt_of_le this.1 hw,this.2⟩
  | none =>
   rcases ho s hs b hb with ⟨t,h1,_⟩ | ⟨h1,h2⟩
   ·have:=h.own t b h1
    exact ⟨Nat.lt_of_lt_of_le this.1 hw,this.2⟩
   ·exact ⟨h2,fun hp=>absurd (h.frz b hp).1 (by omega),.inr (Nat.le_trans h.size h1)⟩
 ·intro b hb
  have:=h.frz b hb
  exact ⟨Nat.lt_of_lt_of_le this.1 hw,this.2⟩
 ·intro b hb hu
  rw [hk b (Nat.lt_of_lt_of_le hb h.size) fun t kX=>?_]
  ·exact h.kept b hb hu
  ·rcases (h.own t b kX).2.2 with h1 | h1
   ·exact absurd h1 hu
   ·omega
theorem Conf.step (h:Conf w0 U Φ0 w Φ rv E L) (σ:Nat→Option Nat) (f:PV→PV) (g:Nat) (hf:Tame f)
  (hσ:∀ s s' t,σ s=some t→σ s'=some t→s=s')
  (hE:∀ s t,σ s=some t→E' s=(E t).mapW f∧rv' s=rv t∧L' s=L t)
  (hN:∀ s,σ s=none→Rep w' Φ (zA8 w' rv' E') (E' s) (rv' s) (L' s)∧(s≠g→L' s=[]))
  (hA:∀ a v,a.isWay=true→zA8 w rv E a v→Rep w' Φ (zA8 w' rv' E') (f a) v [])
  (hd:σ g=none→(L' g).Nodup) (ho:σ g=none→∀ b∈L' g,(∃ t,b∈L t∧∀ s,σ s≠some t)∨(w.heap.size≤b∧b<w'.heap.size))
  (hw:w.heap.size≤w'.heap.size) (hk:∀ b,b<w.heap.size→(∀ t,b∈L t→∃ s,σ s=some t)→w'.heap[b]? = w.heap[b]?)
  (uJ:w'.os=w.os∧w'.tape=w.tape∧w'.output=w.output):Conf w0 U Φ0 w' Φ rv' E' L':=by
 refine h.step2 σ f hf hσ hE (fun s hs=>(hN s hs).1) hA (fun s hs=>?_) (fun s s' hs yt hI b hb yG=>?_) (fun s hs b hb=>?_) hw hk uJ
 ·by_cases yg:s=g
  ·subst yg;exact hd hs
  ·rw [(hN s hs).2 yg];exact List.nodup_nil
 ·by_cases yg:s=g
  ·rw [(hN s' yt).2 (by rw [← yg];exact Ne.symm hI)] at yG;cases yG
  ·rw [(hN s hs).2 yg] at hb;cases hb
 ·by_cases yg:s=g
  ·subst yg;exact ho hs b hb
  ·rw [(hN s hs).2 yg] at hb;cases hb
theorem Conf.turn (h:Conf w0 U Φ0 w Φ rv E L) (σ:Nat→Option Nat) (f:PV→PV) (hf:Tame f)
  (hσ:∀ s s' t,σ s=some t→σ s'=some t→s=s')
  (hE:∀ s t,σ s=some t→E' s=(E t).mapW f∧rv' s=rv t∧L' s=L t)
  (hN:∀ s,σ s=none→E' s = .bad∧L' s=[])
  (hA:∀ a v,a.isWay=true→zA8 w rv E a v→Rep w Φ (zA8 w rv' E') (f a) v []):Conf w0 U Φ0 w Φ rv' E' L':=by
 refine h.step σ f 0 hf hσ hE (fun s hs=>?_) hA (fun hs=>?_) (fun hs=>?_) (Nat.le_refl _) (fun _ _ _=>rfl) ⟨rfl,rfl,rfl⟩
 ·obtain ⟨h1,h2⟩:=hN s hs
  rw [h1,h2];exact ⟨rfl,fun _=>rfl⟩
 ·rw [(hN _ hs).2];exact List.nodup_nil
 ·rw [(hN _ hs).2];simp
theorem zCk:Tame (fun x=>x):=⟨fun _=>rfl,fun p h=>by cases p<;>first | rfl | cases h⟩
theorem zDr {f:PV→PV} (h:∀ p,f p=p∨(p.isWay=true∧f p = .bad)):Tame f:=by
 refine ⟨fun p=>?_,fun p hp=>?_⟩
 ·rcases h p with h | ⟨h1,h2⟩
  ·rw [h]
  ·rw [h2];cases p<;>first | rfl | cases h1
 ·rcases h p with h | ⟨h1,h2⟩
  ·rw [h];cases p<;>first | rfl | cases hp
  ·rw [h2];rfl
theorem zGw (r:Nat) (pre:zAU) (p:PV):lose r pre p=p∨(p.isWay=true∧lose r pre p = .bad):=by
 cases p<;>first | exact .inl rfl | skip
 all_goals
  simp only [Eng.lose,PV.isWay,true_and]
  cases (Nat.beq _ r&&_)<;>simp
theorem zPU {r:Nat} {p:PV} {v:Value} (h:p.isWay=true) (hl:lose r [] p=p) (ha:zA8 w rv E p v):(zA9 p).1≠r:=by
 intro hr
 cases p<;>first | cases h | skip
 case log=>exact False.elim ha
 all_goals
  simp only [zA9] at hr;subst hr
  simp [Eng.lose] at hl
theorem Conf.take (h:Conf w0 U Φ0 w Φ rv E L) {s g:Nat} (hs:s<zAb) (hg:zAb≤g):Conf w0 U Φ0 w Φ (upd rv g (rv s)) (upd (upd E s .bad) g (E s)) (upd (upd L s []) g (L s)):=by
 have yg:s≠g:=by omega
 refine h.turn (fun t=>if t=g then some s else if t=s then none else some t) (fun x=>x) zCk ?_ ?_ ?_ ?_
 ·intro a b t ha hb
  split at ha<;>split at hb<;>simp_all<;>split at ha<;>simp_all
  all_goals (try split at hb)<;>simp_all
 ·intro a t ha
  split at ha
  ·rename_i e;cases ha;subst e;simp [zAj,zBk]
  ·rename_i e
   split at ha
   ·cases ha
   ·rename_i e2;cases ha;simp [zAf e,zAf e2,zBk]
 ·intro a ha
  split at ha
  ·cases ha
  ·rename_i e
   split at ha
   ·rename_i e2;subst e2;simp [zAf e,zAj]
   ·cases ha
 ·intro a v hw ha
  have hr:(zA9 a).1<zAb:=zC3 ha
  refine zC2 hw ?_
  by_cases jI:(zA9 a).1=s
  ·refine zLf ha ?_
   rw [zAf (by omega),jI,zAj];rfl
  ·refine zCM h zCk ha ?_ ?_ (fun _ _=>rfl)
   ·rw [zAf (by omega),zAf jI,zBk]
   ·rw [zAf (by omega)]
theorem Conf.lay (h:Conf w0 U Φ0 w Φ rv E L) {d g:Nat} (hd:d<zAb) (hg:zAb≤g):Conf w0 U Φ0 w Φ (upd rv d (rv g)) (upd (upd (fun s=>(E s).mapW (lose d [])) d ((E g).mapW (lose d []))) g .bad) (upd (upd L d (L g)) g []):=by
 have ug:d≠g:=by omega
 refine h.turn (fun t=>if t=g then none else if t=d then some g else some t) (lose d []) (zDr (zGw d [])) ?_ ?_ ?_ ?_
 ·intro a b t ha hb
  split at ha<;>split at hb<;>simp_all<;>split at ha<;>simp_all
  all_goals (try split at hb)<;>simp_all
 ·intro a t ha
  split at ha
  ·cases ha
  ·rename_i e
   split at ha
   ·rename_i e2;cases ha;subst e2;simp [zAf e,zAj]
   ·rename_i e2;cases ha;simp [zAf e,zAf e2]
 ·intro a ha
  split at ha
  ·rename_i e;subst e;simp [zAj]
  ·split at ha<;>cases ha
 ·intro a v hw ha
  have hr:(zA9 a).1<zAb:=zC3 ha
  rcases zGw d [] a with hl | ⟨_,hl⟩
  ·rw [hl]
   have hI:=zPU hw hl ha
   refine zC2 hw (zCM h (zDr (zGw d [])) ha ?_ ?_ (fun _ _=>rfl))
   ·rw [zAf (by omega),zAf hI]
   ·rw [zAf hI]
  ·rw [hl];rfl
theorem Conf.lose (h:Conf w0 U Φ0 w Φ rv E L) {f:PV→PV} (hf:∀ p,f p=p∨(p.isWay=true∧f p = .bad)):Conf w0 U Φ0 w Φ rv (fun s=>(E s).mapW f) L:=by
 refine h.turn some f (zDr hf) (fun a b t ha hb=>by cases ha;cases hb;rfl) (fun a t ha=>by cases ha;exact ⟨rfl,rfl,rfl⟩) (fun a ha=>by cases ha) fun a v hw ha=>?_
 rcases hf a with hl | ⟨_,hl⟩
 ·rw [hl];exact zC2 hw (zCM h (zDr hf) ha rfl rfl (fun _ _=>rfl))
 ·rw [hl];rfl
theorem Conf.drop (h:Conf w0 U Φ0 w Φ rv E L) (D:Nat→Bool):Conf w0 U Φ0 w Φ rv (fun s=>if D s then .bad else E s) (fun s=>if D s then [] else L s):=by
 refine h.turn (fun s=>if D s then none else some s) (fun x=>x) zCk ?_ ?_ ?_ ?_
 ·intro a b t ha hb;split at ha<;>split at hb<;>simp_all
 ·intro a t ha;split at ha
  ·cases ha
  ·rename_i e;cases ha;simp [e,zBk]
 ·intro a ha;split at ha
  ·rename_i e;simp [e]
  ·cases ha
 ·intro a v hw ha
  refine zC2 hw ?_
  by_cases hd:D (zA9 a).1=true
  ·exact zLf ha (by simp [hd];rfl)
  ·exact zCM h zCk ha (by simp [hd,zBk]) rfl (fun _ _=>rfl)
theorem Conf.hold (h:Conf w0 U Φ0 w Φ rv E L) {g:Nat} (hg:zAb≤g) {p:PV} {v:Value} (hr:Rep w Φ (zA8 w rv E) p v []) :
  Conf w0 U Φ0 w Φ (upd rv g v) (upd E g p) (upd L g []):=by
 have hA:∀ a u,a.isWay=true→zA8 w rv E a u→zA8 w (upd rv g v) (upd E g p) a u:=by
  intro a u _ ha
  have:=zC3 ha
  exact zCM h zCk ha (by rw [zAf (by omega),zBk]) (by rw [zAf (by omega)]) (fun _ _=>rfl)
 refine h.step (fun s=>if s=g then none else some s) (fun x=>x) g zCk ?_ ?_ ?_ (fun a u hw ha=>zC2 hw (hA a u hw ha)) (fun _=>?_) (fun _=>?_) (Nat.le_refl _) (fun _ _ _=>rfl) ⟨rfl,rfl,rfl⟩
 ·intro a b t ha hb;split at ha<;>split at hb<;>simp_all
 ·intro a t ha;split at ha
  ·cases ha
  ·rename_i e;cases ha;simp [zAf e,zBk]
 ·intro a ha;split at ha
  ·rename_i e;subst e
   rw [zAj,zAj,zAj]
   exact ⟨hr.mono zDc.refl hA (by simp),fun h=>absurd rfl h⟩
  ·cases ha
 ·rw [zAj];exact List.nodup_nil
 ·rw [zAj];simp
theorem Conf.make (h:Conf w0 U Φ0 w Φ rv E L) {w':World} (G:Nat→Bool) (hG:∀ s,G s=true→zAb≤s) {g:Nat} (hg:zAb≤g) {p:PV} {v:Value} {Lp:List Nat}
  (hr:∀ A:Al,(∀ a u,a.isWay=true→zA8 w rv E a u→A a u)→Rep w' Φ A p v Lp) (hd:Lp.Nodup)
  (ho:∀ b∈Lp,(∃ t,b∈L t∧G t=true)∨(w.heap.size≤b∧b<w'.heap.size))
  (hw:w.heap.size≤w'.heap.size) (hk:∀ b,b<w.heap.size→(∀ t,b∈L t→G t=false)→w'.heap[b]? = w.heap[b]?)
  (uJ:w'.os=w.os∧w'.tape=w.tape∧w'.output=w.output) :
  Conf w0 U Φ0 w' Φ (upd rv g v) (upd (fun s=>if G s then .bad else E s) g p) (upd (fun s=>if G s then [] else L s) g Lp):=by
 have hA:∀ a u,a.isWay=true→zA8 w rv E a u→zA8 w' (upd rv g v) (upd (fun s=>if G s then .bad else E s) g p) a u:=by
  intro a u _ ha
  have yK:=zC3 ha
  have hI:(zA9 a).1≠g:=by omega
  have hGn:G (zA9 a).1=false:=by
   cases hb:G (zA9 a).1 with
   | false=>rfl
   | true=>have:=hG _ hb;omega
  refine zCM h zCk ha (by rw [zAf hI];simp [hGn,zBk]) (by rw [zAf hI]) fun b hb=>hk b (h.own _ b hb).1 fun t ht=>?_
  have:t=(zA9 a).1:=Classical.byContradiction fun hn=>h.disj t _ hn b ht hb
  rw [this];exact hGn
 refine h.step (fun s=>if s=g then none else if G s then none else some s) (fun x=>x) g zCk ?_ ?_ ?_ (fun a u hw ha=>zC2 hw (hA a u hw ha)) (fun _=>?_) (fun _=>?_) hw ?_ uJ
 ·intro a b t ha hb
  split at ha<;>split at hb<;>simp_all
 ·intro a t ha
  split at ha
  ·cases ha
  ·rename_i e
   split at ha
   ·cases ha
   ·rename_i e2;cases ha;simp [zAf e,zBk,e2]
 ·intro a ha
  split at ha
  ·rename_i e;subst e
   rw [zAj,zAj,zAj]
   exact ⟨hr _ hA,fun h=>absurd rfl h⟩
  ·rename_i e
   split at ha
   ·rename_i e2
    rw [zAf e,zAf e,zAf e]
    exact ⟨by simp [e2,Rep],fun _=>by simp [e2]⟩
   ·cases ha
 ·rw [zAj];exact hd
 ·rw [zAj]
  intro b hb
  rcases ho b hb with ⟨t,h1,h2⟩ | h1
  ·refine .inl ⟨t,h1,fun s hs=>?_⟩
   split at hs
   ·cases hs
   ·split at hs
    ·cases hs
    ·rename_i e2;cases hs;exact e2 h2
  ·exact .inr h1
 ·intro b hb hc
  refine hk b hb fun t ht=>?_
  obtain ⟨s,hs⟩:=hc t ht
  split at hs
  ·cases hs
  ·split at hs
   ·cases hs
   ·rename_i e2;cases hs;simpa using e2
theorem zCl.trans {p q r:PV} (h1:zCl p q) (h2:zCl q r):zCl p r:=by
 cases p<;>cases q<;>simp only [zCl] at h1<;>cases r<;>simp_all [zCl]
theorem zMF {A A':Al} (hA:∀ a v,a.isWay=true→A a v→A' a v):∀ {pre:zAU} {p:PV},∀ a v,a.isWay=true→zIp A p pre a v→zIp A' p pre a v
 | [],p,a,v,hw,h=>hA a v hw h
 | (i,c)::rest,p,a,v,hw,h=>by
  simp only [zIp] at h ⊢
  cases hc:Eng.child p i c with
  | none=>rw [hc] at h;exact h.elim
  | some q =>
   rw [hc] at h
   exact zMF (zKp hA) a v hw h
def stays (f:PV→PV) (A:Al):Al:=fun a v=>A a v∧f a=a
theorem Conf.stays (h:Conf w0 U Φ0 w Φ rv E L) {f:PV→PV} (hf:∀ p,f p=p∨(p.isWay=true∧f p = .bad)) (s:Nat):Rep w Φ (stays f (zA8 w rv E)) ((E s).mapW f) (rv s) (L s):=by
 refine Rep.map (zDr hf).agg zDc.refl (fun a v hw ha=>?_) _ _ _ (fun _ _=>rfl) (h.rep s)
 rcases hf a with hl | ⟨_,hl⟩
 ·rw [hl];exact zC2 hw ⟨ha,hl⟩
 ·rw [hl];rfl
theorem Conf.mod (h:Conf w0 U Φ0 w Φ rv E L) {r:Nat} (hr:r<zAb) {f:PV→PV} (hf:∀ p,f p=p∨(p.isWay=true∧f p = .bad)) {pre:zAU} {q:PV}
  (jU:((E r).mapW f).unlock=(E r).mapW f) (hn:zAz ((E r).mapW f) pre=some q) :
  ∃ nv Li,zAR w (rv r) ((E r).mapW f) pre=some (nv,q)∧Rep w Φ (zIp (Eng.stays f (zA8 w rv E)) ((E r).mapW f) pre) q nv Li∧Li.Nodup∧(∀ b∈Li,b∈L r) ∧
   ∀ (G:Nat→Bool) (w':World) (q' root':PV) (Li':List Nat),(∀ s,G s=true→zAb≤s)→(pre≠[]→q'.isAgg=q.isAgg)→zAu (fun _=>some q') ((E r).mapW f) pre=some root'→root'.unlock=root' →
    (∀ A:Al,(∀ a u,a.isWay=true→Eng.stays f (zA8 w rv E) a u→A a u)→Rep w' Φ (zIp A ((E r).mapW f) pre) q' nv Li')→Li'.Nodup →
    (∀ b∈Li',b∈Li∨(∃ t,b∈L t∧G t=true)∨(w.heap.size≤b∧b<w'.heap.size))→w.heap.size≤w'.heap.size →
    (∀ b,b<w.heap.size→b∉Li→(∀ t,b∈L t→G t=false)→w'.heap[b]? = w.heap[b]?) →
    (∀ rest nv2 np2,zAR w' nv q' rest=some (nv2,np2)→np2.heavy0=true→(∀ a,a.isWay=true→zA9 a=(r,pre++rest)→f a≠a)∨∃ np0,zAR w nv q rest=some (nv2,np0)∧zCl np0 np2) →
    (w'.os=w.os∧w'.tape=w.tape∧w'.output=w.output) →
    ∃ L',(∀ s,s≠r→L' s=if G s then [] else L s)∧Conf w0 U Φ0 w' Φ rv (fun s=>if s=r then root' else if G s then .bad else (E s).mapW f) L':=by
 have hs:=h.stays hf r
 obtain ⟨nv,La,Li,Lb,uS,hL,hX,vk,uR⟩:=Rep.zip pre hs hn
 have yT:=h.nodup r
 rw [hL] at yT
 have hnd1:∀ b∈La++Lb,b∉Li:=by
  intro b hb uh
  simp only [List.nodup_append] at yT
  rcases List.mem_append.1 hb with hb | hb
  ·exact yT.1.2.2 b hb b uh rfl
  ·exact yT.2.2 b (by simp [uh]) b hb rfl
 refine ⟨nv,Li,uS,hX,?_,fun b hb=>by rw [hL];simp [hb],?_⟩
 ·simp only [List.nodup_append] at yT;exact yT.1.2.1
 intro G w' q' root' Li' hG yv hm yF hR hd ho hw hk kY uJ
 have hkL:∀ t,G t=false→∀ b∈L t,b∉Li→w'.heap[b]? = w.heap[b]?:=by
  intro t ht b hb uh
  refine hk b (h.own t b hb).1 uh fun t' LH=>?_
  have:t'=t:=Classical.byContradiction fun hI=>h.disj t' t hI b LH hb
  rw [this];exact ht
 have hGr:G r=false:=by
  cases hb:G r with
  | false=>rfl
  | true=>have:=hG _ hb;omega
 have hbLL:∀ b∈La++Lb,w'.heap[b]? = w.heap[b]?:=by
  intro b hb
  exact hkL r hGr b (by rw [hL];simp at hb ⊢;rcases hb with h | h<;>simp [h]) (hnd1 b hb)
 have hLiL:∀ t,t≠r→∀ b∈L t,b∉Li:=by
  intro t hI b hb uh
  exact h.disj t r hI b hb (by rw [hL];simp [uh])
 have hA : ∀ a u,a.isWay=true→zA8 w rv E a u→f a=a→zA8 w' rv (fun s=>if s=r then root' else if G s then .bad else (E s).mapW f) a u:=by
  intro a u kg ha hfa
  have yK:=zC3 ha
  by_cases uT:(zA9 a).1=r
  ·refine ha.mono fun nv2 np2 j2 hh=>?_
   simp only [uT,if_true] at j2 ⊢
   rw [yF] at j2
   have back:∀ np0,zAR w (rv r) ((E r).mapW f) (zA9 a).2=some (nv2,np0)→zCl np0 np2→∃ np0,zAR w (rv r) (E r).unlock (zA9 a).2=some (nv2,np0)∧zCl np0 np2:=by
    intro np0 h1 h2
    rw [← jU,zDv (zDr hf)] at h1
    obtain ⟨np1,h3,h4⟩:=zCX (zDr hf) h1 (zDK h2)
    exact ⟨np1,h3,h4.trans h2⟩
   rcases uR w' q' root' hbLL yv hm _ nv2 np2 j2 hh with ⟨rest,h1,h2⟩ | ⟨np0,h1,h2⟩
   ·rcases kY rest nv2 np2 h2 hh with h3 | ⟨np0,h3,h4⟩
    ·exact absurd hfa (h3 a kg (Prod.ext uT h1))
    ·refine back np0 ?_ h4
     rw [h1,zDg,uS];exact h3
   ·exact back np0 h1 h2
  ·have hGa:G (zA9 a).1=false:=by
    cases hb:G (zA9 a).1 with
    | false=>rfl
    | true=>have:=hG _ hb;omega
   exact zCM h (zDr hf) ha (by simp [uT,hGa]) rfl fun b hb=>hkL _ hGa b hb (hLiL _ uT b hb)
 have hA':∀ a u,a.isWay=true→zA8 w rv E a u→Rep w' Φ (zA8 w' rv (fun s=>if s=r then root' else if G s then .bad else (E s).mapW f)) (f a) u []:=by
  intro a u kg ha
  rcases hf a with hl | ⟨_,hl⟩
  ·rw [hl];exact zC2 kg (hA a u kg ha hl)
  ·rw [hl];rfl
 have hΦ:zDc w w' Φ Φ:=fun b hb=>⟨hb,hk b (h.frz b hb).1 (fun uh=>(h.own r b (by rw [hL];simp [uh])).2.1 hb) fun t kX=>absurd hb (h.own t b kX).2.1⟩
 refine ⟨fun s=>if s=r then La++Li'++Lb else if G s then [] else L s,fun s yZ=>by simp [yZ],?_⟩
 refine h.step (fun s=>if s=r then none else if G s then none else some s) f r (zDr hf) ?_ ?_ ?_ hA' (fun _=>?_) (fun _=>?_) hw ?_ uJ
 ·intro a b t ha hb
  split at ha<;>split at hb<;>simp_all
 ·intro a t ha
  split at ha
  ·cases ha
  ·rename_i e
   split at ha
   ·cases ha
   ·rename_i e2;cases ha;simp [e,e2]
 ·intro a ha
  by_cases e:a=r
  ·subst e
   simp only [if_true]
   exact ⟨vk w' Φ _ q' Li' root' (fun a u kg ha=>hA a u kg ha.1 ha.2) hΦ hbLL yv (hR _ fun a u kg ha=>hA a u kg ha.1 ha.2) hm,fun h=>absurd rfl h⟩
  ·simp only [e,if_false] at ha ⊢
   split at ha
   ·rename_i e2;exact ⟨by simp [e2,Rep],fun _=>by simp [e2]⟩
   ·cases ha
 ·simp only [if_true]
  simp only [List.nodup_append] at yT ⊢
  have hx:∀ b∈Li',b∈La++Lb→False:=by
   intro b hb j1
   have wZ:b∈L r:=by rw [hL];simp at j1 ⊢;rcases j1 with h | h<;>simp [h]
   rcases ho b hb with h1 | ⟨t,h1,h2⟩ | h1
   ·exact hnd1 b j1 h1
   ·have:t≠r:=fun e=>by rw [e,hGr] at h2;cases h2
    exact h.disj t r this b h1 wZ
   ·have:=(h.own r b wZ).1;omega
  refine ⟨⟨yT.1.1,hd,fun a ha b hb e=>hx b hb (by subst e;simp [ha])⟩,yT.2.1,fun a ha b hb e=>?_⟩
  subst e
  rcases List.mem_append.1 ha with ha | ha
  ·exact yT.2.2 a (by simp [ha]) a hb rfl
  ·exact hx a ha (by simp [hb])
 ·simp only [if_true]
  intro b hb
  have yV:∀ t,t=r∨G t=true→∀ s,(if s=r then none else if G s then none else some s)≠some t:=by
   intro t ht s hs
   split at hs
   ·cases hs
   ·rename_i e
    split at hs
    ·cases hs
    ·rename_i e2;cases hs
     rcases ht with h | h
     ·exact e h
     ·exact e2 h
  rcases List.mem_append.1 hb with hb | hb
  ·rcases List.mem_append.1 hb with hb | hb
   ·exact .inl ⟨r,by rw [hL];simp [hb],yV r (.inl rfl)⟩
   ·rcases ho b hb with h1 | ⟨t,h1,h2⟩ | h1
    ·exact .inl ⟨r,by rw [hL];simp [h1],yV r (.inl rfl)⟩
    ·exact .inl ⟨t,h1,yV t (.inr h2)⟩
    ·exact .inr h1
  ·exact .inl ⟨r,by rw [hL];simp [hb],yV r (.inl rfl)⟩
 ·intro b hb hc
  have kZ:b∉L r:=by
   intro wZ
   obtain ⟨s,hs⟩:=hc r wZ
   split at hs
   ·cases hs
   ·rename_i e
    split at hs
    ·cases hs
    ·cases hs;exact e rfl
  refine hk b hb (fun uh=>kZ (by rw [hL];simp [uh])) fun t ht=>?_
  obtain ⟨s,hs⟩:=hc t ht
  split at hs
  ·cases hs
  ·split at hs
   ·cases hs
   ·rename_i e2;cases hs;simpa using e2
theorem Conf.takeNode (h:Conf w0 U Φ0 w Φ rv E L) {r g:Nat} (hr:r<zAb) (hg:zAb≤g) {pre:zAU} {q root':PV} (jU:(E r).unlock=E r) (hn:zAz (E r) pre=some q) (yv:q.isAgg=false)
  (hm:zAu (fun _=>some .bad) (E r) pre=some root') (yF:root'.unlock=root') :
  ∃ nv Li,zAR w (rv r) (E r) pre=some (nv,q)∧Rep w Φ (zA8 w rv E) q nv Li∧Li.Nodup∧(∀ b∈Li,b∈L r)∧∀ (p':PV) (v':Value) (Lg:List Nat),Rep w Φ (zA8 w rv E) p' v' Lg→Lg.Nodup→(∀ b∈Lg,b∈Li∨b∈L g) →
   ∃ L',Conf w0 U Φ0 w Φ (upd rv g v') (upd (upd E r root') g p') L'∧∀ s,s≠r→s≠g→L' s=L s:=by
 have jq:r≠g:=by omega
 obtain ⟨nv,La,Li,Lb,uS,hL,hX,vk,uR⟩:=Rep.zip pre (h.rep r) hn
 have yT:=h.nodup r
 rw [hL] at yT
 simp only [List.nodup_append] at yT
 have ya:∀ b,b∈La++Lb→b∈L r:=fun b hb=>by rw [hL];simp at hb ⊢;rcases hb with h | h<;>simp [h]
 have qW:∀ b∈Li,b∈L r:=fun b hb=>by rw [hL];simp [hb]
 have vF:∀ b∈Li,b∉La++Lb:=by
  intro b hb j1
  rcases List.mem_append.1 j1 with h2 | h2
  ·exact yT.1.2.2 b h2 b hb rfl
  ·exact yT.2.2 b (by simp [hb]) b h2 rfl
 refine ⟨nv,Li,uS,hX.mono zDc.refl (fun _ _ _ h=>zEx h) (fun _ _=>rfl),yT.1.2.1,qW,fun p' v' Lg jh hLg hLgm=>?_⟩
 have qX:∀ b∈Lg,b∉La++Lb:=by
  intro b hb j1
  rcases hLgm b hb with h1 | h1
  ·exact vF b h1 j1
  ·exact h.disj r g jq b (ya b j1) h1
 have hA:∀ a u,a.isWay=true→zA8 w rv E a u→zA8 w (upd rv g v') (upd (upd E r root') g p') a u:=by
  intro a u kg ha
  have yK:=zC3 ha
  by_cases uT:(zA9 a).1=r
  ·refine ha.mono fun nv2 np2 j2 hh=>?_
   rw [uT] at j2 ⊢
   rw [zAf jq,zAf jq,zAj,yF] at j2
   rcases uR w .bad root' (fun _ _=>rfl) (fun _=>yv.symm) hm _ nv2 np2 j2 hh with ⟨rest,h1,h2⟩ | ⟨np0,h1,h2⟩
   ·cases rest with
    | nil=>simp only [zAR,Option.some.injEq,Prod.mk.injEq] at h2;rw [← h2.2] at hh;cases hh
    | cons x rest=>obtain ⟨i,c⟩:=x;rw [zA6] at h2;simp [Eng.child,zA0] at h2
   ·rw [jU];exact ⟨np0,h1,h2⟩
  ·exact zCM h zCk ha (by rw [zAf (by omega),zAf uT,zBk]) (by rw [zAf (by omega)]) (fun _ _=>rfl)
 refine ⟨upd (upd L r (La++Lb)) g Lg,?_,fun s h1 h2=>by rw [zAf h2,zAf h1]⟩
 refine h.step2 (fun s=>if s=r then none else if s=g then none else some s) (fun x=>x) zCk ?_ ?_ ?_ (fun a u kg ha=>zC2 kg (hA a u kg ha)) ?_ ?_ ?_ (Nat.le_refl _) (fun _ _ _=>rfl) ⟨rfl,rfl,rfl⟩
 ·intro a b t ha hb
  split at ha<;>split at hb<;>simp_all
 ·intro a t ha
  split at ha
  ·cases ha
  ·rename_i e1
   split at ha
   ·cases ha
   ·rename_i e2;cases ha;simp [zAf e1,zAf e2,zBk]
 ·intro a ha
  by_cases e1:a=r
  ·subst e1
   rw [zAf jq,zAf jq,zAf jq,zAj,zAj]
   have:=vk w Φ (zA8 w (upd rv g v') (upd (upd E a root') g p')) .bad [] root' hA zDc.refl (fun _ _=>rfl) (fun _=>yv.symm) rfl hm
   simpa using this
  ·have e2:a=g:=by
    rw [if_neg e1] at ha
    by_cases e2:a=g
    ·exact e2
    ·rw [if_neg e2] at ha;cases ha
   subst e2
   rw [zAj,zAj,zAj]
   exact jh.mono zDc.refl (fun a u hw h=>hA a u hw h) (fun _ _=>rfl)
 ·intro a ha
  by_cases e1:a=r
  ·subst e1
   rw [zAf jq,zAj,List.nodup_append]
   exact ⟨yT.1.1,yT.2.1,fun x hx y hy e=>yT.2.2 x (by simp [hx]) y hy e⟩
  ·rw [if_neg e1] at ha
   by_cases e2:a=g
   ·subst e2;rw [zAj];exact hLg
   ·rw [if_neg e2] at ha;cases ha
 ·intro s s' hs yt hI b hb yG
  have uU:s=r∨s=g:=by by_cases e1:s=r;exact .inl e1;rw [if_neg e1] at hs;by_cases e2:s=g;exact .inr e2;rw [if_neg e2] at hs;cases hs
  have hs2':s'=r∨s'=g:=by by_cases e1:s'=r;exact .inl e1;rw [if_neg e1] at yt;by_cases e2:s'=g;exact .inr e2;rw [if_neg e2] at yt;cases yt
  rcases uU with rfl | rfl<;>rcases hs2' with rfl | rfl
  ·exact hI rfl
  ·rw [zAf jq,zAj] at hb;rw [zAj] at yG;exact qX b yG hb
  ·rw [zAj] at hb;rw [zAf jq,zAj] at yG;exact qX b hb yG
  ·exact hI rfl
 ·intro s hs b hb
  have uU:s=r∨s=g:=by by_cases e1:s=r;exact .inl e1;rw [if_neg e1] at hs;by_cases e2:s=g;exact .inr e2;rw [if_neg e2] at hs;cases hs
  have kZ:∀ t,t=r∨t=g→∀ x,(if x=r then none else if x=g then none else some x)≠some t:=by
   intro t ht x hx
   split at hx
   ·cases hx
   ·rename_i e1
    split at hx
    ·cases hx
    ·rename_i e2;cases hx;rcases ht with h | h<;>contradiction
  rcases uU with rfl | rfl
  ·rw [zAf jq,zAj] at hb;exact .inl ⟨s,ya b hb,kZ s (.inl rfl)⟩
  ·rw [zAj] at hb
   rcases hLgm b hb with h1 | h1
   ·exact .inl ⟨r,qW b h1,kZ r (.inl rfl)⟩
   ·exact .inl ⟨s,h1,kZ s (.inr rfl)⟩
end
end
end Go.Eng
namespace Go.Eng
open Go
theorem zBq:∀ ps:List PV,(zAv ps).length=ps.length
 | []=>rfl
 | p::ps=>by simp [zAv,zBq ps]
theorem zI5:∀ (ps:List PV) (i:Nat),(zAv ps)[i]? = (ps[i]?).map zAV
 | [],i=>by simp [zAv]
 | p::ps,0=>by simp [zAv]
 | p::ps,i+1=>by simp only [zAv,List.getElem?_cons_succ];exact zI5 ps i
theorem zCI:∀ ps:List PV,zAv ps=ps.map zAV
 | []=>rfl
 | p::ps=>by simp [zAv,zCI ps]
theorem zC6 (p:PV):(zAV p).isAgg=p.isAgg:=by cases p<;>rfl
theorem zMo (p:PV):(zAV p).cells=zAv p.cells:=by cases p<;>rfl
theorem zDa (p:PV):(zAV p).cells.length=p.cells.length:=by rw [zMo,zBq]
theorem zHc (ps:List PV):(zAv ps).map PV.isAgg=ps.map PV.isAgg:=by
 rw [zCI,List.map_map];exact List.map_congr_left fun p _=>zC6 p
section
variable {w:World} {Φ Φ':Nat→Prop}
mutual
theorem zD7 {A:Al} (hΦ:∀ b,Φ b→Φ' b):∀ (p:PV) (v:Value) (L:List Nat),(∀ b∈L,Φ' b)→Rep w Φ A p v L→Rep w Φ' A (zAV p) v []
 | .own sz xs,v,L,hL,h=>by
  obtain ⟨h1,h2,h3⟩ | ⟨a,n,c,us,L',rfl,h1,h2,h3,h4,h5,h6,h7,h8,h9⟩:=h
  ·subst h1;exact ⟨rfl,.inl ⟨rfl,none,0,h3,fun _=>rfl⟩⟩
  ·refine ⟨rfl,.inr ⟨a,n,c,us,sz,by rw [zBq];exact h1,h2,by rw [zBq];exact h3,hL _ (by simp),h4.any,?_,⟨h7.1,by rw [zHc];exact h7.2⟩,by rw [zBq];exact h8,?_⟩⟩
   ·intro x hx
    rw [zCI] at hx
    obtain ⟨y,hy,rfl⟩:=List.mem_map.1 hx
    rw [zDa];exact h6 y hy
   ·exact zDt hΦ xs us L' (fun b hb=>hL b (by simp [hb])) h9
 | .box q,v,L,hL,h=>by
  obtain ⟨a,c,u,L',rfl,h1,h2,h4,h5,h6,h7⟩:=h
  exact ⟨rfl,a,c,u,h1,h2,hL _ (by simp),h4.any,by rw [zDa];exact h5,by rw [zDa,zC6];exact h6,zD7 hΦ q u L' (fun b hb=>hL b (by simp [hb])) h7⟩
 | .omap es,v,L,hL,h=>by
  obtain ⟨b,ents,rfl,h1,h3,h4⟩:=h
  exact ⟨rfl,b,ents,h1,hL _ (by simp),h3,zDR.same (fun b hb=>⟨hΦ b hb,rfl⟩) es _ _ h4⟩
 | .agg cs,v,L,hL,h=>by
  obtain ⟨vs,rfl,h⟩:=h
  exact ⟨vs,rfl,zDt hΦ cs _ L hL h⟩
 | .tup _,_,_,_,_=>rfl
 | .lock _,_,_,_,_=>rfl
 | .bad,_,_,_,_=>rfl
 | .und,_,_,_,h=>⟨h.1,rfl⟩
 | .int ..,_,_,_,h=>⟨h.1,rfl⟩
 | .bool _,_,_,_,h=>⟨h.1,rfl⟩
 | .nilp,_,_,_,h=>⟨h.1,rfl⟩
 | .nilf,_,_,_,h=>⟨h.1,rfl⟩
 | .nilm,_,_,_,h=>⟨h.1,rfl⟩
 | .nn,_,_,_,h=>⟨rfl,h.2⟩
 | .nils _,_,_,_,h=>⟨h.1,rfl⟩
 | .sl xs,v,L,_,h=>by have h0:=h.1;subst h0;exact h.mono (fun b hb=>⟨hΦ b hb,rfl⟩) (fun _ _ _ h=>h) (fun _ _=>rfl)
 | .ref q,v,L,_,h=>by have h0:=h.1;subst h0;exact h.mono (fun b hb=>⟨hΦ b hb,rfl⟩) (fun _ _ _ h=>h) (fun _ _=>rfl)
 | .map es,v,L,_,h=>by have h0:=h.1;subst h0;exact h.mono (fun b hb=>⟨hΦ b hb,rfl⟩) (fun _ _ _ h=>h) (fun _ _=>rfl)
 | .func _ _ _,v,L,_,h=>by have h0:=h.1;subst h0;exact h.mono (fun b hb=>⟨hΦ b hb,rfl⟩) (fun _ _ _ h=>h) (fun _ _=>rfl)
 | .addr ..,_,_,_,h=>⟨rfl,h.2⟩
 | .bor ..,_,_,_,h=>⟨rfl,h.2⟩
 | .bsl ..,_,_,_,h=>⟨rfl,h.2⟩
 | .bmap ..,_,_,_,h=>⟨rfl,h.2⟩
 | .yld _,_,_,_,h=>⟨rfl,h.2⟩
 | .log ..,_,_,_,h=>⟨rfl,h.2⟩
theorem zDt {A:Al} (hΦ:∀ b,Φ b→Φ' b):∀ (ps:List PV) (vs:List Value) (L:List Nat),(∀ b∈L,Φ' b)→zA2 w Φ A ps vs L→zA2 w Φ' A (zAv ps) vs []
 | [],_,_,_,h=>⟨h.1,rfl⟩
 | p::ps,vs,L,hL,h=>by
  obtain ⟨v,vs',L1,L2,rfl,rfl,h1,h2⟩:=h
  exact ⟨v,vs',[],[],rfl,rfl,zD7 hΦ p v L1 (fun b hb=>hL b (by simp [hb])) h1,zDt hΦ ps vs' L2 (fun b hb=>hL b (by simp [hb])) h2⟩
end
theorem zH5:∀ {pre:zAU} {p:PV} {v nv:Value} {np:PV},zAR w v (zAV p) pre=some (nv,np)→np.heavy0=false
 | [],p,v,nv,np,h=>by
  simp only [zAR,Option.some.injEq,Prod.mk.injEq] at h
  obtain ⟨_,rfl⟩:=h
  cases p<;>rfl
 | (i, c)::rest,p,v,nv,np,h=>by
  rw [zA6] at h
  cases hc:Eng.child (zAV p) i c with
  | none=>rw [hc] at h;cases h
  | some q =>
   rw [hc] at h;simp only [Option.bind_some] at h
   cases hk:kid w v (zAV p) i c with
   | none=>rw [hk] at h;cases h
   | some u =>
    rw [hk] at h;simp only [Option.bind_some] at h
    cases p<;>first | (simp [Eng.child,zA0,zAV] at hc;done) | skip
    rename_i cs
    cases i with
    | succ i=>simp [Eng.child,zA0,zAV] at hc
    | zero =>
     simp only [Eng.child,zA0,zAV,Option.bind_some,List.getElem?_cons_zero,PV.cells] at hc
     rw [zI5] at hc
     cases hq:cs[c]? with
     | none=>rw [hq] at hc;cases hc
     | some q0=>rw [hq] at hc;simp only [Option.map_some,Option.some.injEq] at hc;subst hc;exact zH5 h
end
theorem zFt {c:Array Value} {o n:Nat} {l:List Value} (hl:l.length=n) (h:∀ k u,l[k]? = some u→c[o+k]? = some u):seg c o n=l:=by
 apply List.ext_getElem?
 intro k
 simp only [seg,List.getElem?_take,List.getElem?_drop]
 by_cases hk:k<n
 ·rw [if_pos hk]
  have : ∃ u, l[k]? = some u := ⟨l[k]'(by omega), by simp [hl, hk]⟩
  obtain ⟨u,hu⟩:=this
  rw [hu,Array.getElem?_toList];exact h k u hu
 ·rw [if_neg hk,List.getElem?_eq_none (by omega)]
section
variable {w:World} {Φ:Nat→Prop}
theorem zLg {A:Al} {np:PV} {nv:Value} {Li:List Nat} (h:Rep w Φ A np nv Li) {xs:List PV} (hx:zBg np=some xs) {i:Nat} {x:PV} (hi:xs[i]? = some x) :
  ∃ ux row ad Lx,ad.block∈Li∧ad.spot=none∧zEl w ad.block row∧(∀ b∈Lx,b∈Li)∧(∀ c,zBa nv np i c=some (zAt ad c)) ∧
   (∀ c n,c+n≤x.cells.length→seg row (ad.off+c) n=(ux.cells.toList.drop c).take n)∧zCi ux=x.isAgg∧ux.cells.size=x.cells.length∧Rep w Φ (zGF A np) x ux Lx:=by
 cases np<;>simp only [zBg] at hx<;>try cases hx
 case own sz =>
  obtain ⟨h1,h2,h3⟩ | ⟨a,n,r,us,L',rfl,h1,h2,h3,h4,h5,h6,⟨h7,uI⟩,h8,h9⟩:=h
  ·subst h1;simp at hi
  ·obtain ⟨ux,La,Lx,Lb,hu,rfl,hr,_,_⟩:=h9.split hi
   have hg:zCi ux=x.isAgg:=by
    have h1:(us.map zCi)[i]? = some (zCi ux):=by simp [hu]
    have h2:(xs.map PV.isAgg)[i]? = some x.isAgg:=by simp [hi]
    rw [uI] at h1;rw [h1] at h2;simpa using h2
   have yD:ux.cells.size=x.cells.length:=by rw [h7 ux (List.mem_of_getElem? hu),h6 x (List.mem_of_getElem? hi)]
   subst h1
   refine ⟨ux,r,zAt a (i*sz),Lx,by simp [zAt],rfl,h4,fun b hb=>by simp [hb],fun c=>by simp [zBa,zAt,Nat.add_assoc],?_,hg,yD,hr⟩
   intro c m hcm
   refine zFt (by simp;omega) fun k u hk=>?_
   simp only [List.getElem?_take,List.getElem?_drop] at hk
   split at hk
   ·have hf:=zDA h7 hu hk
    rw [← h8] at hf
    have:=zCR hf
    simp only [zAt]
    rw [show a.off+i*sz+c+k=a.off+(i*sz+(c+k)) by omega];exact this
   ·cases hk
 case box q0 =>
  obtain ⟨a,r,u0,L',rfl,h1,h2,h4,h5,⟨h6,ue⟩,h7⟩:=h
  have jg:i=0:=by
   cases i with
   | zero=>rfl
   | succ i=>simp at hi
  subst jg;simp at hi;subst hi
  subst h1
  refine ⟨u0,r,a,L',by simp,h2,h4,fun b hb=>by simp [hb],fun c=>rfl,?_,ue,h6,h7⟩
  intro c m hcm
  refine zFt (by simp;omega) fun k u hk=>?_
  simp only [List.getElem?_take,List.getElem?_drop] at hk
  split at hk
  ·have:=zCR (c:=r) (o:=a.off) (n:=q0.cells.length) (k:=c+k) (u:=u) (by rw [h5];exact hk)
   rw [Nat.add_assoc];exact this
  ·cases hk
end
theorem zCw (u:Value) (us:List Value):flat (u::us)=u.cells.toList++flat us:=rfl
theorem zIU {sz:Nat}:∀ {us:List Value},(∀ u∈us,u.cells.size=sz)→∀ lo,(flat us).drop (lo*sz)=flat (us.drop lo)
 | [],_,lo=>by simp [flat]
 | u::us,h,0=>by simp
 | u::us,h,lo+1=>by
  have hu:u.cells.toList.length=sz:=by simpa using h u (by simp)
  rw [zCw,Nat.succ_mul,Nat.add_comm,← List.drop_drop,List.drop_left' hu]
  exact zIU (fun u hu=>h u (by simp [hu])) lo
theorem zJE {sz:Nat}:∀ {us:List Value},(∀ u∈us,u.cells.size=sz)→∀ n,(flat us).take (n*sz)=flat (us.take n)
 | [],_,n=>by simp [flat]
 | u::us,h,0=>by simp [flat]
 | u::us,h,n+1=>by
  have hu:u.cells.toList.length=sz:=by simpa using h u (by simp)
  rw [List.take_succ_cons,zCw,zCw,Nat.succ_mul,Nat.add_comm,List.take_append,List.take_of_length_le (by omega),hu]
  congr 1
  rw [show sz+n*sz-sz=n*sz by omega]
  exact zJE (fun u hu=>h u (by simp [hu])) n
theorem zBr {sz:Nat}:∀ {us:List Value},(∀ u∈us,u.cells.size=sz)→(flat us).length=us.length*sz
 | [],_=>by simp [flat]
 | u::us,h=>by
  have hu:u.cells.toList.length=sz:=by simpa using h u (by simp)
  rw [zCw,List.length_append,hu,zBr (fun u hu=>h u (by simp [hu])),List.length_cons,Nat.succ_mul,Nat.add_comm]
theorem zIv {c:Array Value} {o sz m:Nat} {us:List Value} (hs:∀ u∈us,u.cells.size=sz) (hm:us.length=m) (h:seg c o (m*sz)=flat us) {lo n:Nat} (hn:lo+n≤m) :
  seg c (o+lo*sz) (n*sz)=flat ((us.drop lo).take n):=by
 have h1:seg c (o+lo*sz) (n*sz)=(((seg c o (m*sz)).drop (lo*sz)).take (n*sz)):=by
  apply List.ext_getElem?
  intro k
  simp only [seg,List.getElem?_take,List.getElem?_drop]
  by_cases hk:k<n*sz
  ·have:lo*sz+n*sz≤m*sz:=by rw [← Nat.add_mul];exact Nat.mul_le_mul_right _ hn
   rw [if_pos hk,if_pos hk,if_pos (by omega),Nat.add_assoc]
  ·rw [if_neg hk,if_neg hk]
 rw [h1,h,zIU hs,zJE (fun u hu=>hs u (List.mem_of_mem_drop hu))]
theorem zA2.map_isAgg {us:List Value} {xs:List PV} (h:us.map zCi=xs.map PV.isAgg) (lo n:Nat):((us.drop lo).take n).map zCi=((xs.drop lo).take n).map PV.isAgg:=by
 rw [List.map_take,List.map_drop,h,List.map_take,List.map_drop]
section
variable {w:World} {Φ Φ':Nat→Prop} {rv:Nat→Value} {E E':Nat→PV}
theorem zB0 {A:Al} {ps:List PV} {us:List Value} (h:zA2 w Φ A ps us []) (c n:Nat):zA2 w Φ A ((ps.drop c).take n) ((us.drop c).take n) []:=by
 have key:∀ (ps:List PV) (us:List Value) (c n:Nat),zA2 w Φ A ps us []→zA2 w Φ A ((ps.drop c).take n) ((us.drop c).take n) []:=by
  intro ps
  induction ps with
  | nil=>intro us c n h;rw [h.1];simp [zA2]
  | cons p ps ih =>
   intro us c n h
   obtain ⟨v,vs,L1,L2,rfl,hL,h1,h2⟩:=h
   obtain ⟨rfl,rfl⟩:L1=[]∧L2=[]:=by simpa using hL.symm
   cases c with
   | succ c=>simpa using ih vs c n h2
   | zero =>
    cases n with
    | zero=>simp [zA2]
    | succ n=>exact ⟨v,_,[],[],rfl,rfl,h1,by simpa using ih vs 0 n h2⟩
 exact key ps us c n h
theorem zC8 {a:PV} {v:Value} (hw:a.isWay=true) (h:zA8 w rv E a v):v.oneCell'=true:=by
 cases a<;>first | cases hw | skip
 ·obtain ⟨_,a,rfl,_⟩:=h;rfl
 ·obtain ⟨_,⟨a,c,rfl,_⟩,_⟩:=h;rfl
 ·obtain ⟨_,a,c,rfl,_⟩:=h;rfl
 ·obtain ⟨_,⟨b,rfl⟩,_⟩:=h;rfl
 ·exact h.elim
theorem zCb {A:Al} (hA:∀ a v,a.isWay=true→A a v→v.oneCell'=true) {q:PV} {u:Value} {L:List Nat} (h:Rep w Φ A q u L) (hq:q.oneCell=true):u.oneCell'=true:=by
 cases q<;>first | cases hq | skip
 case int=>rw [h.1];rfl
 case bool=>rw [h.1];rfl
 case nilp=>rw [h.1];rfl
 case nilf=>rw [h.1];rfl
 case nilm=>rw [h.1];rfl
 case nn=>obtain ⟨_,a,n,rfl⟩:=h;rfl
 case nils=>rw [h.1];rfl
 case sl=>obtain ⟨_,⟨_,a,n,rfl,_⟩ | ⟨a,n,c,us,sz,rfl,_⟩⟩:=h<;>rfl
 case own=>obtain ⟨_,_,rfl⟩ | ⟨a,n,c,us,L',_,rfl,_⟩:=h<;>rfl
 case ref=>obtain ⟨_,a,c,u,rfl,_⟩:=h;rfl
 case box=>obtain ⟨a,c,u,L',_,rfl,_⟩:=h;rfl
 case map=>obtain ⟨_,b,e,rfl,_⟩:=h;rfl
 case omap=>obtain ⟨b,e,_,rfl,_⟩:=h;rfl
 case func=>obtain ⟨_,fs,cs,rfl,_⟩:=h;rfl
 all_goals exact hA _ _ rfl h.2
theorem zBN {v:Value} (h:v.oneCell'=true):v.cells=#[v]∧zCi v=false:=by
 cases v<;>first | exact ⟨rfl,rfl⟩ | cases h
theorem zBp {p:PV} (h:p.oneCell=true):p.cells=[p]∧p.isAgg=false:=by
 cases p<;>first | exact ⟨rfl,rfl⟩ | cases h
theorem zPR {A A':Al} (hA1:∀ a v,a.isWay=true→A a v→v.oneCell'=true) (hΦ:∀ b,Φ b→Φ' b) (hA:∀ a v,a.isWay=true→A a v→A' a v) {x:PV} {xv:Value} {Lx:List Nat} (hx:Rep w Φ A x xv Lx) (hL:∀ b∈Lx,Φ' b) {i c:Nat} {sh:Option Nat} {v:Value} {a:Addr}
  (hv:v = .pointer (some a)) (ha:∀ a',zBa xv x i c=some a'→a=a'):Rep w Φ' A' (zDD i c sh x) v []:=by
 simp only [zDD]
 cases hh:zBg x with
 | none=>rfl
 | some xs =>
  simp only
  cases hi:xs[i]? with
  | none=>rfl
  | some y =>
   simp only
   obtain ⟨ux,row,ad,Ly,h1,h2,h3,h4,h5,h6,h7,h8,h9⟩:=zLg hx hh hi
   have jH:=ha _ (h5 c)
   have hbel:∀ a v,a.isWay=true→zGF A x a v→A' a v:=fun a v hw h=>hA a v hw (zFV h)
   cases sh with
   | some m =>
    simp only
    by_cases yN:c+m≤y.cells.length
    ·rw [Nat.ble_eq_true_of_le yN]
     cases hya:y.isAgg with
     | false=>rfl
     | true =>
      simp only [Bool.and_self,cond_true]
      cases y<;>simp [PV.isAgg] at hya
      rename_i cs
      obtain ⟨vs,rfl,hr⟩:=h9
      have j6:=zB0 (zDt hΦ cs _ Ly (fun b hb=>hL b (h4 b hb)) hr) c m
      have hZ:=hr.length
      refine ⟨rfl,a,row,.agg ((vs.toList.drop c).take m).toArray,hv,by rw [jH];rfl,by rw [jH];exact hL _ h1,by rw [jH];exact h3.any,?_,⟨?_,rfl⟩,?_⟩
      ·rw [jH]
       simp only [zAt,PV.cells,zBq,Value.cells]
       have:=h6 c m yN
       simp only [PV.cells] at yN
       rw [show ((cs.drop c).take m).length=m by simp;omega,this];rfl
      ·simp only [Value.cells,PV.cells,zBq];simp at hZ ⊢;omega
      ·refine ⟨_,rfl,?_⟩
       have e:zAv ((cs.drop c).take m)=((zAv cs).drop c).take m:=by rw [zCI,zCI,List.map_take,List.map_drop]
       simp only [PV.cells] 
       rw [e]
       exact j6.mono zDc.refl hbel (by simp)
    ·have:Nat.ble (c+m) y.cells.length=false:=by
      cases hb:Nat.ble (c+m) y.cells.length with
      | false=>rfl
      | true=>exact absurd (Nat.le_of_ble_eq_true hb) yN
     rw [this];rfl
   | none =>
    simp only
    cases hc:y.cells[c]? with
    | none=>rfl
    | some q =>
     simp only
     obtain ⟨u,La,Lu,Lb,hu,vl,kh,_,_⟩:=h9.cell hc h7
     have yO:c<y.cells.length:=(List.getElem?_eq_some_iff.1 hc).1
     cases ka:q.oneCell with
     | false=>rfl
     | true =>
      simp only [cond_true]
      have kb:=zBN (zCb (fun a v hw h=>hA1 a v hw (zFV h)) kh ka)
      have vm:=zBp ka
      refine ⟨rfl,a,row,u,hv,by rw [jH];rfl,by rw [jH];exact hL _ h1,by rw [jH];exact h3.any,?_,⟨?_,?_⟩,?_⟩
      ·rw [jH,zDa,vm.1,kb.1]
       have:=h6 c 1 (by omega)
       simp only [zAt,List.length_singleton]
       rw [this]
       have:c<ux.cells.toList.length:=by simpa [h8] using yO
       rw [List.drop_eq_getElem_cons this]
       have:ux.cells.toList[c]=u:=by rw [List.getElem?_eq_getElem this] at hu;simpa using hu
       simp [this]
      ·rw [zDa,vm.1,kb.1];rfl
      ·rw [zC6,vm.2,kb.2]
      ·exact (zD7 hΦ q u Lu (fun b hb=>hL b (h4 b (by rw [vl];simp [hb]))) kh).mono zDc.refl hbel (by simp)
end
theorem zMD {u u':Value} (h:u.cells.toList=u'.cells.toList) (ha:zCi u=zCi u'):u=u':=by
 have hc:u.cells=u'.cells:=by
  have:=congrArg List.toArray h
  simpa using this
 cases hu:zCi u with
 | true =>
  rw [hu] at ha
  cases u<;>simp [zCi] at hu
  cases u'<;>simp [zCi] at ha
  exact congrArg Value.agg hc
 | false =>
  rw [hu] at ha
  have h1:u.cells=#[u]:=by cases u<;>first | rfl | simp [zCi] at hu
  have h2:u'.cells=#[u']:=by cases u'<;>first | rfl | simp [zCi] at ha
  rw [h1,h2] at hc
  simpa using hc
theorem zOs {sz:Nat}:∀ {us us':List Value},(∀ u∈us,u.cells.size=sz)→(∀ u∈us',u.cells.size=sz)→us.map zCi=us'.map zCi→flat us=flat us'→us=us'
 | [],[],_,_,_,_=>rfl
 | [],_::_,_,_,h,_=>by simp at h
 | _::_,[],_,_,h,_=>by simp at h
 | u :: us,u'::us',h1,h2,ha,hf=>by
  simp only [List.map_cons,List.cons.injEq] at ha
  rw [zCw,zCw] at hf
  have hl:u.cells.toList.length=u'.cells.toList.length:=by
   have:=h1 u (by simp);have:=h2 u' (by simp);simp;omega
  obtain ⟨h3,h4⟩:=List.append_inj hf hl
  rw [zMD h3 ha.1,zOs (fun u hu=>h1 u (by simp [hu])) (fun u hu=>h2 u (by simp [hu])) ha.2 h4]
section
variable {w:World} {Φ Φ':Nat→Prop}
theorem zEl.uniq {b:Nat} {c c':Array Value} (h:zEl w b c) (h':zEl w b c'):c=c':=by
 obtain ⟨e,h⟩:=h;obtain ⟨e',h'⟩:=h'
 rw [h] at h';cases h';rfl
mutual
theorem Rep.uniq {A A':Al}:∀ (p:PV) (v:Value) (L L':List Nat),Rep w Φ A p v L→Rep w Φ' A' p v L'→L=L'
 | .own sz xs,v,L,L',h,h'=>by
  obtain ⟨h1,h2,h3⟩ | ⟨a,n,c,us,M,rfl,h1,h2,h3,h4,h5,h6,h7,h8,h9⟩:=h
  ·obtain ⟨_,g2,_⟩ | ⟨a,n,c,us,M,rfl,g1,_⟩:=h'
   ·rw [h2,g2]
   ·rw [h3] at g1;cases g1
  ·obtain ⟨_,_,g3⟩ | ⟨a',n',c',us',M',rfl,g1,g2,g3,g4,g5,g6,g7,g8,g9⟩:=h'
   ·rw [h1] at g3;cases g3
   ·rw [h1] at g1;cases g1
    have:=h4.uniq g4;subst this
    have:us=us':=zOs h7.1 g7.1 (h7.2.trans g7.2.symm) (h8.symm.trans g8)
    subst this
    rw [zA2.uniq xs us M M' h9 g9]
 | .box q,v,L,L',h,h'=>by
  obtain ⟨a,c,u,M,rfl,h1,h2,h4,h5,h6,h7⟩:=h
  obtain ⟨a',c',u',M',rfl,g1,g2,g4,g5,g6,g7⟩:=h'
  rw [h1] at g1;cases g1
  have:=h4.uniq g4;subst this
  have:u=u':=zMD (h5.symm.trans g5) (h6.2.trans g6.2.symm)
  subst this
  rw [Rep.uniq q u M M' h7 g7]
 | .omap es,v,L,L',h,h'=>by
  obtain ⟨b,ents,rfl,h1,h3,h4⟩:=h
  obtain ⟨b',ents',rfl,g1,g3,g4⟩:=h'
  rw [h1] at g1;cases g1;rfl
 | .agg cs,v,L,L',h,h'=>by
  obtain ⟨vs,rfl,h⟩:=h
  obtain ⟨vs',g1,h'⟩:=h'
  cases g1;exact zA2.uniq cs _ L L' h h'
 | .tup cs,v,L,L',h,h'=>by
  obtain ⟨vs,rfl,h⟩:=h
  obtain ⟨vs',g1,h'⟩:=h'
  cases g1;exact zA2.uniq cs _ L L' h h'
 | .lock q,v,L,L',h,h'=>Rep.uniq q v L L' h h'
 | .bad,_,_,_,h,h'=>by rw [show _=_ from h,show _=_ from h']
 | .und,_,_,_,h,h'=>by rw [h.2,h'.2]
 | .int ..,_,_,_,h,h'=>by rw [h.2,h'.2]
 | .bool _,_,_,_,h,h'=>by rw [h.2,h'.2]
 | .nilp,_,_,_,h,h'=>by rw [h.2,h'.2]
 | .nilf,_,_,_,h,h'=>by rw [h.2,h'.2]
 | .nilm,_,_,_,h,h'=>by rw [h.2,h'.2]
 | .nn,_,_,_,h,h'=>by rw [h.1,h'.1]
 | .nils _,_,_,_,h,h'=>by rw [h.2,h'.2]
 | .sl xs,_,_,_,h,h'=>by rw [h.1,h'.1]
 | .ref q,_,_,_,h,h'=>by rw [h.1,h'.1]
 | .map es,_,_,_,h,h'=>by rw [h.1,h'.1]
 | .func _ _ _,_,_,_,h,h'=>by rw [h.1,h'.1]
 | .addr ..,_,_,_,h,h'=>by rw [h.1,h'.1]
 | .bor ..,_,_,_,h,h'=>by rw [h.1,h'.1]
 | .bsl ..,_,_,_,h,h'=>by rw [h.1,h'.1]
 | .bmap ..,_,_,_,h,h'=>by rw [h.1,h'.1]
 | .yld _,_,_,_,h,h'=>by rw [h.1,h'.1]
 | .log ..,_,_,_,h,h'=>by rw [h.1,h'.1]
theorem zA2.uniq {A A':Al}:∀ (ps:List PV) (vs:List Value) (L L':List Nat),zA2 w Φ A ps vs L→zA2 w Φ' A' ps vs L'→L=L'
 | [],_,_,_,h,h'=>by rw [h.2,h'.2]
 | p::ps,vs,L,L',h,h'=>by
  obtain ⟨v,vs',L1,L2,rfl,rfl,h1,h2⟩:=h
  obtain ⟨v',vs'',M1,M2,g0,rfl,g1,g2⟩:=h'
  cases g0
  rw [Rep.uniq p v L1 M1 h1 g1,zA2.uniq ps vs' L2 M2 h2 g2]
end
end
theorem zH9 {w:World} {Φ Φ':Nat→Prop} {A A':Al} (hΦ:∀ b,Φ b→Φ' b) {x:PV} {xv:Value} {Lx:List Nat} (hx:Rep w Φ A x xv Lx) (hL:∀ b∈Lx,Φ' b) {z lo n:Nat} {v:Value}
  (ha:∀ sz xs,x = .own sz xs→z=sz∧zBK v xv sz lo n):Rep w Φ' A' (zCH lo n x) v []:=by
 cases x<;>try rfl
 rename_i sz xs
 simp only [zCH]
 by_cases yN:lo+n≤xs.length
 ·rw [Nat.ble_eq_true_of_le yN];simp only [cond_true]
  obtain ⟨_,hs⟩:=ha sz xs rfl
  obtain ⟨h1,h2,h3⟩ | ⟨a,m,c,us,M,rfl,h1,h2,h3,h4,h5,h6,h7,h8,h9⟩:=hx
  ·subst h1;subst h3
   have hn:n=0:=by simp at yN;omega
   subst hn
   refine ⟨rfl,.inl ⟨by simp [zAv],none,0,hs.1,fun _=>rfl⟩⟩
  ·subst h1
   obtain ⟨rfl,yR⟩:=hs
   have jB:us.length=xs.length:=by have:=congrArg List.length h7.2;simpa using this
   by_cases hn:n=0
   ·subst hn;exact ⟨rfl,.inl ⟨by simp [zAv],_,_,rfl,fun h=>by cases h⟩⟩
   ·refine ⟨rfl,.inr ⟨zAt a (lo*sz),m-lo,c,(us.drop lo).take n,sz,?_,rfl,?_,hL _ (by simp [zAt]),h4.any,?_,⟨?_,?_⟩,?_,?_⟩⟩
    ·rw [zBq,show ((xs.drop lo).take n).length=n by simp;omega]
    ·rw [zBq];simp;omega
    ·intro y hy
     rw [zCI] at hy
     obtain ⟨y,uK,rfl⟩:=List.mem_map.1 hy
     rw [zDa];exact h6 y (List.mem_of_mem_drop (List.mem_of_mem_take uK))
    ·intro u hu;exact h7.1 u (List.mem_of_mem_drop (List.mem_of_mem_take hu))
    ·rw [zHc];exact zA2.map_isAgg h7.2 lo n
    ·rw [zBq,show ((xs.drop lo).take n).length=n by simp;omega]
     exact zIv h7.1 jB h8 (by omega)
    ·have e:zAv ((xs.drop lo).take n)=((zAv xs).drop lo).take n:=by rw [zCI,zCI,List.map_take,List.map_drop]
     rw [e]
     exact zB0 (zDt hΦ xs us M (fun b hb=>hL b (by simp [hb])) h9) lo n
 ·have:Nat.ble (lo+n) xs.length=false:=by
   cases hb:Nat.ble (lo+n) xs.length with
   | false=>rfl
   | true=>exact absurd (Nat.le_of_ble_eq_true hb) yN
  rw [this];rfl
theorem zGP {w:World} {Φ Φ':Nat→Prop} {A A':Al} (hΦ:∀ b,Φ b→Φ' b) {x:PV} {xv:Value} {Lx:List Nat} (hx:Rep w Φ A x xv Lx) (hL:∀ b∈Lx,Φ' b) {v:Value}
  (ha:∀ es,x = .omap es→v=xv):Rep w Φ' A' (zEN x) v []:=by
 cases x<;>try rfl
 rename_i es
 obtain ⟨b,ents,rfl,h1,h3,h4⟩:=hx
 refine ⟨rfl,b,ents,(ha es rfl).trans h1,hL _ (by simp),h3,zDR.same (fun b hb=>⟨hΦ b hb,rfl⟩) es _ _ h4⟩
section
variable {w:World} {Φ Φ':Nat→Prop}
mutual
theorem Rep.ways {A A':Al}:∀ (p:PV) (v:Value) (L:List Nat),(∀ a v,a.isWay=true→(∀ x∈a.ways,x∈p.ways)→A a v→A' a v)→Rep w Φ A p v L→Rep w Φ A' p v L
 | .bad,_,_,_,h=>h
 | .und,_,_,_,h=>h
 | .int ..,_,_,_,h=>h
 | .bool _,_,_,_,h=>h
 | .nilp,_,_,_,h=>h
 | .nilf,_,_,_,h=>h
 | .nilm,_,_,_,h=>h
 | .nn,_,_,_,h=>h
 | .nils _,_,_,_,h=>h
 | .agg cs,v,L,hA,h=>by
  obtain ⟨vs,rfl,h⟩:=h
  exact ⟨vs,rfl,zA2.ways cs _ L (fun a v hw hx ha=>hA a v hw hx ha) h⟩
 | .tup cs,v,L,hA,h=>by
  obtain ⟨vs,rfl,h⟩:=h
  exact ⟨vs,rfl,zA2.ways cs _ L (fun a v hw hx ha=>hA a v hw hx ha) h⟩
 | .sl xs,_,_,_,h=>h
 | .own sz xs,_,_,_,h=>h
 | .ref q,v,L,hA,h=>by
  obtain ⟨rfl,a,c,u,h1,h2,h3,h4,h5,h6,h7⟩:=h
  exact ⟨rfl,a,c,u,h1,h2,h3,h4,h5,h6,Rep.ways q u [] (fun a v hw hx ha=>hA a v hw hx ha) h7⟩
 | .box q,v,L,hA,h=>by
  obtain ⟨a,c,u,L',h0,h1,h2,h4,h5,h6,h7⟩:=h
  exact ⟨a,c,u,L',h0,h1,h2,h4,h5,h6,Rep.ways q u L' (fun a v hw hx ha=>hA a v hw hx ha) h7⟩
 | .map es,_,_,_,h=>h
 | .omap es,_,_,_,h=>h
 | .func g a b,v,L,hA,h=>by
  obtain ⟨rfl,fs,cs,h1,h2,h3⟩:=h
  exact ⟨rfl,fs,cs,h1,zA2.ways a _ [] (fun x v hw hx ha=>hA x v hw (fun y hy=>List.mem_append.2 (.inl (hx y hy))) ha) h2,zA2.ways b _ [] (fun x v hw hx ha=>hA x v hw (fun y hy=>List.mem_append.2 (.inr (hx y hy))) ha) h3⟩
 | .addr ..,v,L,hA,h=>⟨h.1,hA _ _ rfl (fun _ h=>h) h.2⟩
 | .bor ..,v,L,hA,h=>⟨h.1,hA _ _ rfl (fun _ h=>h) h.2⟩
 | .bsl ..,v,L,hA,h=>⟨h.1,hA _ _ rfl (fun _ h=>h) h.2⟩
 | .bmap ..,v,L,hA,h=>⟨h.1,hA _ _ rfl (fun _ h=>h) h.2⟩
 | .lock q,v,L,hA,h=>Rep.ways q v L (fun a v hw hx ha=>hA a v hw hx ha) h
 | .yld _,v,L,hA,h=>h
 | .log ..,v,L,hA,h=>⟨h.1,hA _ _ rfl (fun _ h=>h) h.2⟩
theorem zA2.ways {A A':Al}:∀ (ps:List PV) (vs:List Value) (L:List Nat),(∀ a v,a.isWay=true→(∀ x∈a.ways,x∈zBA ps)→A a v→A' a v)→zA2 w Φ A ps vs L→zA2 w Φ A' ps vs L
 | [],_,_,_,h=>h
 | p::ps,vs,L,hA,h=>by
  obtain ⟨v,vs',L1,L2,h0,h1,h2,h3⟩:=h
  exact ⟨v,vs',L1,L2,h0,h1,Rep.ways p v L1 (fun a v hw hx ha=>hA a v hw (fun y hy=>List.mem_append.2 (.inl (hx y hy))) ha) h2,zA2.ways ps vs' L2 (fun a v hw hx ha=>hA a v hw (fun y hy=>List.mem_append.2 (.inr (hx y hy))) ha) h3⟩
end
mutual
theorem zGu:∀ p:PV,∀ x∈(zAV p).ways,x∈p.ways
 | .agg cs,x,h=>zGX cs x h
 | .box q,x,h=>zGu q x h
 | .own ..,x,h=>by cases h
 | .omap _,x,h=>by cases h
 | .tup _,x,h=>by cases h
 | .lock _,x,h=>by cases h
 | .bad,_,h=>h
 | .und,_,h=>h
 | .int ..,_,h=>h
 | .bool _,_,h=>h
 | .nilp,_,h=>h
 | .nilf,_,h=>h
 | .nilm,_,h=>h
 | .nn,_,h=>h
 | .nils _,_,h=>h
 | .sl _,_,h=>h
 | .ref _,_,h=>h
 | .map _,_,h=>h
 | .func ..,_,h=>h
 | .addr ..,_,h=>h
 | .bor ..,_,h=>h
 | .bsl ..,_,h=>h
 | .bmap ..,_,h=>h
 | .yld _,_,h=>h
 | .log ..,_,h=>h
theorem zGX:∀ ps:List PV,∀ x∈zBA (zAv ps),x∈zBA ps
 | [],_,h=>h
 | p::ps,x,h=>by
  simp only [zAv,zBA,List.mem_append] at h ⊢
  rcases h with h | h
  ·exact .inl (zGu p x h)
  ·exact .inr (zGX ps x h)
end
theorem zJ6 (p:PV):(zAV p).oneCell=p.oneCell:=by cases p<;>rfl
theorem zD5 (ag:Bool) (sz:Nat):∀ (m:Nat) (cs:List PV),(zCp ag sz m cs).length=m
 | 0,_=>rfl
 | m+1,cs=>by simp [zCp,zD5 ag sz m]
theorem zF1 {A:Al} (hA:∀ a v,a.isWay=true→A a v→v.oneCell'=true) {ag:Bool} {sz:Nat}:∀ (m:Nat) (ps:List PV) (us:List Value),ps.length=m*sz→(ag=false→sz=1∧∀ q∈ps,q.oneCell=true)→zA2 w Φ A ps us [] →
  ∃ us',zA2 w Φ A (zCp ag sz m ps) us' []∧flat us'=us∧(∀ u∈us',u.cells.size=sz)∧us'.map zCi=(zCp ag sz m ps).map PV.isAgg∧∀ x∈zCp ag sz m ps,x.cells.length=sz
 | 0,ps,us,hl,_,h=>by
  have:ps=[]:=List.eq_nil_of_length_eq_zero (by simpa using hl)
  subst this
  exact ⟨[],⟨rfl,rfl⟩,by rw [h.1];rfl,by simp,rfl,by simp [zCp]⟩
 | m + 1,ps,us,hl,ho,h=>by
  have jB:=h.length
  rw [Nat.succ_mul] at hl
  have h1:zA2 w Φ A (ps.take sz) (us.take sz) []:=by simpa using zB0 h 0 sz
  have h2:zA2 w Φ A (ps.drop sz) (us.drop sz) []:=by
   have:=zB0 h sz (ps.length-sz)
   rwa [List.take_of_length_le (by simp),List.take_of_length_le (by simp;omega)] at this
  obtain ⟨us',h3,h4,h5,h6,h7⟩:=zF1 hA (ag:=ag) (sz:=sz) m (ps.drop sz) (us.drop sz) (by simp;omega) (fun jb=>⟨(ho jb).1,fun q hq=>(ho jb).2 q (List.mem_of_mem_drop hq)⟩) h2
  cases ag with
  | true =>
   refine ⟨.agg (us.take sz).toArray::us',⟨_,us',[],[],rfl,rfl,⟨_,rfl,by simpa using h1⟩,h3⟩,?_,?_,?_,?_⟩
   ·rw [zCw,h4];simp [Value.cells]
   ·intro u hu
    rcases List.mem_cons.1 hu with rfl | hu
    ·simp [Value.cells];omega
    ·exact h5 u hu
   ·simp only [zCp,cond_true,List.map_cons,h6];rfl
   ·intro x hx
    simp only [zCp,cond_true] at hx
    rcases List.mem_cons.1 hx with rfl | hx
    ·simp [PV.cells];omega
    ·exact h7 x hx
  | false =>
   obtain ⟨ui,yM⟩:=ho rfl
   subst ui
   match ps,us,h,yM,hl with
   | p :: ps,us,h,yM,hl =>
    obtain ⟨v,vs',L1,L2,rfl,hL,g1,g2⟩:=h
    obtain ⟨rfl,rfl⟩:L1=[]∧L2=[]:=by simpa using hL.symm
    have hp:=yM p (by simp)
    have k1:=zBN (zCb hA g1 hp)
    have k2:=zBp hp
    refine ⟨v::us',⟨v,us',[],[],rfl,rfl,g1,h3⟩,?_,?_,?_,?_⟩
    ·rw [zCw,h4,k1.1];simp
    ·intro u hu
     rcases List.mem_cons.1 hu with rfl | hu
     ·rw [k1.1];rfl
     ·exact h5 u hu
    ·simp only [zCp,cond_false,List.headD_cons,List.map_cons,k1.2,k2.2]
     congr 1
    ·intro x hx
     simp only [zCp,cond_false,List.headD_cons] at hx
     rcases List.mem_cons.1 hx with rfl | hx
     ·rw [k2.1];rfl
     ·exact h7 x hx
end
section
variable {w:World} {Φ Φ':Nat→Prop} {rv:Nat→Value} {E E':Nat→PV} {A:Al}
theorem zGs {ps:List PV} {us:List Value} {Lx:List Nat} (h:zA2 w Φ A ps us Lx) (c n:Nat):∃ Ly,(∀ b∈Ly,b∈Lx)∧zA2 w Φ A ((ps.drop c).take n) ((us.drop c).take n) Ly:=by
 induction ps generalizing us Lx c n with
 | nil=>rw [h.1];exact ⟨[],by simp,by simp [zA2]⟩
 | cons p ps ih =>
  obtain ⟨v,vs',L1,L2,rfl,rfl,g1,g2⟩:=h
  cases c with
  | succ c=>obtain ⟨Ly,h1,h2⟩:=ih g2 c n;exact ⟨Ly,fun b hb=>by simp [h1 b hb],by simpa using h2⟩
  | zero =>
   cases n with
   | zero=>exact ⟨[],by simp,by simp [zA2]⟩
   | succ n =>
    obtain ⟨Ly,h1,h2⟩:=ih g2 0 n
    exact ⟨L1++Ly,fun b hb=>by rcases List.mem_append.1 hb with h | h;simp [h];simp [h1 b h],v,_,L1,Ly,rfl,rfl,g1,by simpa using h2⟩
end
section
variable {w:World} {Φ Φ':Nat→Prop} {rv:Nat→Value} {E E':Nat→PV}
theorem zI0 {a:PV} {v:Value} (hw:a.isWay=true) (h:zA8 w rv E a v):a.ways≠[]:=by
 cases a<;>first | (cases hw;done) | exact h.elim | simp [PV.ways]
theorem zG8 {A A':Al} (hA1:∀ a v,a.isWay=true→A a v→a.ways≠[]) (hΦ:∀ b,Φ b→Φ' b) {x:PV} {xv:Value} {Li:List Nat} (vn:Rep w Φ A x xv Li) (jV:∀ b∈Li,Φ' b) {i c sz m cap:Nat} {ag:Bool} {v:Value} {ad:Addr}
  (hv:v = .slice (some ad) m cap) (yR:m≤cap) (hn:∀ a',zBa xv x i c=some a'→ad=a'):Rep w Φ' A' (zCA i c sz ag m x) v []:=by
 simp only [zCA]
 cases hh:zBg x with
 | none=>rfl
 | some xs =>
  simp only
  cases hi:xs[i]? with
  | none=>rfl
  | some y =>
   simp only
   cases hc:(zCm ag sz m ((y.cells.drop c).take (m*sz))&&(zBA y.cells).isEmpty) with
   | false=>rfl
   | true =>
    simp only [cond_true]
    simp only [Bool.and_eq_true,zCm] at hc
    obtain ⟨⟨yO,vX⟩,uj⟩:=hc
    have yO:=Nat.eq_of_beq_eq_true yO
    obtain ⟨ux,row,ad0,Lx,k1,k2,k3,k4,k5,k6,k7,k8,k9⟩:=zLg vn hh hi
    have jH:=hn _ (k5 c)
    subst jH
    have k9':=k9.mono (A':=A) zDc.refl (fun _ _ _ h=>zFV h) (fun _ _=>rfl)
    have zBg:=k9'.cellsAll k7
    have wp:zA2 w Φ zCe y.cells ux.cells.toList Lx:=zBg.ways _ _ _ fun a v hw hx ha=>by
     have h0:zBA y.cells=[]:=by simpa using uj
     rw [h0] at hx
     have h1:=hA1 a v hw ha
     cases uk:a.ways with
     | nil=>exact absurd uk h1
     | cons z zs=>have:=hx z (by rw [uk];simp);cases this
    obtain ⟨Ly,hly,wq⟩:=zGs wp c (m*sz)
    have vY:=zDt hΦ _ _ Ly (fun b hb=>jV b (k4 b (hly b hb))) wq
    obtain ⟨us',q1,q2,q3,q4,q5⟩:=zF1 (ag:=ag) (sz:=sz) (fun a v _ h=>h.elim) m _ _ (by rw [zBq];exact yO) (fun jb=>by
     simp only [jb,Bool.false_or,Bool.and_eq_true] at vX
     refine ⟨Nat.eq_of_beq_eq_true vX.1,fun q hq=>?_⟩
     rw [zCI] at hq
     obtain ⟨q0,hq0,rfl⟩:=List.mem_map.1 hq
     rw [zJ6];exact List.all_eq_true.1 vX.2 q0 hq0) vY
    have gD:(zCp ag sz m (zAv ((y.cells.drop c).take (m*sz)))).length=m:=zD5 _ _ _ _
    by_cases hm:m=0
    ·subst hm;exact ⟨rfl,.inl ⟨rfl,_,_,hv,fun h=>by cases h⟩⟩
    ·refine ⟨rfl,.inr ⟨zAt ad0 c,cap,row,us',sz,by rw [gD];exact hv,rfl,by rw [gD];exact yR,jV _ k1,k3.any,q5,⟨q3,q4⟩,?_,q1⟩⟩
     rw [gD,q2]
     by_cases ws:m*sz=0
     ·rw [ws];simp [seg]
     ·have:c+m*sz≤y.cells.length:=by simp at yO;omega
      exact k6 c (m*sz) this
end
theorem zIy (r:Nat) (pre:zAU) (q:PV):Tame (inl r pre q):=by
 have h1 : ∀ i c sh x,(zDD i c sh x).isAgg=false∧(zDD i c sh x).dull=true:=by
  intro i c sh x
  simp only [zDD]
  split
  ·split
   ·split
    ·cases (Nat.ble _ _&&PV.isAgg _)<;>exact ⟨rfl,rfl⟩
    ·split
     ·rename_i q _;cases q.oneCell<;>exact ⟨rfl,rfl⟩
     ·exact ⟨rfl,rfl⟩
   ·exact ⟨rfl,rfl⟩
  ·exact ⟨rfl,rfl⟩
 have h2:∀ lo n x,(zCH lo n x).isAgg=false∧(zCH lo n x).dull=true:=by
  intro lo n x
  cases x<;>try exact ⟨rfl,rfl⟩
  simp only [zCH];cases Nat.ble _ _<;>exact ⟨rfl,rfl⟩
 have h5:∀ i c sz ag m x,(zCA i c sz ag m x).isAgg=false∧(zCA i c sz ag m x).dull=true:=by
  intro i c sz ag m x
  simp only [zCA]
  split
  ·split
   ·cases (zCm ag sz m _&&_)<;>exact ⟨rfl,rfl⟩
   ·exact ⟨rfl,rfl⟩
  ·exact ⟨rfl,rfl⟩
 have h3:∀ x,(zEN x).isAgg=false∧(zEN x).dull=true:=by intro x;cases x<;>exact ⟨rfl,rfl⟩
 have h4:∀ (o:Option PV) (f:PV→PV),(∀ x,(f x).isAgg=false∧(f x).dull=true)→(zGi o f).isAgg=false∧(zGi o f).dull=true:=by
  intro o f hf;cases o with
  | none=>exact ⟨rfl,rfl⟩
  | some x=>exact hf x
 constructor
 ·intro p
  cases p<;>try rfl
  all_goals
   rename_i a b
   simp only [inl]
   cases zAL r pre _ _<;>first | rfl | exact (h4 _ _ (h1 _ _ _)).1 | exact (h4 _ _ (h2 _ _)).1 | exact (h4 _ _ h3).1 | exact (h4 _ _ (h5 _ _ _ _ _)).1
 ·intro p hp
  cases p<;>first | (cases hp;done) | skip
  all_goals
   first | rfl | skip
  all_goals
   simp only [inl]
   cases zAL r pre _ _<;>first | rfl | exact (h4 _ _ (h1 _ _ _)).2 | exact (h4 _ _ (h2 _ _)).2 | exact (h4 _ _ h3).2 | exact (h4 _ _ (h5 _ _ _ _ _)).2
theorem zBO {w:World} {Φ:Nat→Prop} {A:Al} {p:PV} {v:Value} {L:List Nat} (h:Rep w Φ A p v L) {pre:zAU} {q:PV} (hq:zAz p pre=some q) :
  ∃ nv Li,zAR w v p pre=some (nv,q)∧(∀ b∈Li,b∈L)∧Rep w Φ (zIp A p pre) q nv Li:=by
 obtain ⟨nv,La,Li,Lb,h1,h2,h3,_⟩:=Rep.zip pre h hq
 exact ⟨nv,Li,h1,fun b hb=>by rw [h2];simp [hb],h3⟩
theorem zEi {r r':Nat} {pre q:zAU}:zAL r pre r' q=true↔r'=r∧∃ rest,q=pre++rest:=by
 simp only [zAL,Bool.and_eq_true,List.isPrefixOf_iff_prefix]
 constructor
 ·rintro ⟨h1,rest,h2⟩;exact ⟨Nat.eq_of_beq_eq_true h1,rest,h2.symm⟩
 ·rintro ⟨rfl,rest,h2⟩;exact ⟨Nat.beq_refl _,rest,h2.symm⟩
section
variable {w w0:World} {U Φ0 Φ:Nat→Prop} {rv:Nat→Value} {E:Nat→PV} {L:Nat→List Nat}
theorem Conf.ice (h:Conf w0 U Φ0 w Φ rv E L) (M:Nat→Bool) {r:Nat} (hr:r<zAb) {pre:zAU} {q root':PV} (jU:(E r).unlock=E r) (hn:zAz (E r) pre=some q)
  (hm:zAu (fun _=>some (zAV q)) (E r) pre=some root') (yF:root'.unlock=root') :
  ∃ nv Li L',zAR w (rv r) (E r) pre=some (nv,q)∧Rep w Φ (zIp (zA8 w rv E) (E r) pre) q nv Li∧(∀ s,s≠r→L' s=L s) ∧
   Conf w0 U Φ0 w (fun b=>Φ b∨b∈Li) rv (fun s=>if s<zAb∨M s=true then (if s=r then root' else E s).mapW (inl r pre q) else E s) L':=by
 obtain ⟨nv,La,Li,Lb,uS,hL,hX,vk,uR⟩:=Rep.zip pre (h.rep r) hn
 have hΦ:∀ b,Φ b→Φ b∨b∈Li:=fun b hb => .inl hb
 have ul:=zIy r pre q
 have yT:=h.nodup r
 rw [hL] at yT
 simp only [List.nodup_append] at yT
 have vF:∀ b∈Li,b∉La++Lb:=by
  intro b hb j1
  rcases List.mem_append.1 j1 with h2 | h2
  ·exact yT.1.2.2 b h2 b hb rfl
  ·exact yT.2.2 b (by simp [hb]) b h2 rfl
 have hK:∀ a u,zA8 w rv E a u→zA8 w rv (fun s=>if s<zAb∨M s=true then (if s=r then root' else E s).mapW (inl r pre q) else E s) a u:=by
  intro a u ha
  have yK:=zC3 ha
  refine ha.mono fun nv2 np2 j2 hh=>?_
  simp only [yK,true_or,if_true] at j2
  rw [zDv ul] at j2
  obtain ⟨np1,um,vo⟩:=zCX ul j2 hh
  by_cases uT:(zA9 a).1=r
  ·rw [uT] at um ⊢
   simp only [if_true,yF] at um
   rcases uR w (zAV q) root' (fun _ _=>rfl) (fun _=>zC6 q) hm _ nv2 np1 um (zDK vo) with ⟨rest,_,h2⟩ | ⟨np0,h1,h2⟩
   ·have:=zH5 h2
    rw [zDK vo] at this;cases this
   ·rw [jU];exact ⟨np0,h1,h2.trans vo⟩
  ·simp only [uT,if_false] at um
   exact ⟨np1,um,vo⟩
 have hw1:∀ a v,a.isWay=true→zIp (zA8 w rv E) (E r) pre a v→zA8 w rv (fun s=>if s<zAb∨M s=true then (if s=r then root' else E s).mapW (inl r pre q) else E s) a v:=fun a v _ ha=>hK a v (zEx ha)
 have hA : ∀ a u,a.isWay=true→zA8 w rv E a u→Rep w (fun b=>Φ b∨b∈Li) (zA8 w rv (fun s=>if s<zAb∨M s=true then (if s=r then root' else E s).mapW (inl r pre q) else E s)) (inl r pre q a) u []:=by
  intro a u kg ha
  have node:∀ rest x,zAz q rest=some x→∃ xv Lx,zAR w (rv r) (E r).unlock (pre++rest)=some (xv,x)∧(∀ b∈Lx,b∈Li)∧Rep w Φ (zIp (zIp (zA8 w rv E) (E r) pre) q rest) x xv Lx:=by
   intro rest x hx
   obtain ⟨xv,Lx,h1,h2,h3⟩:=zBO hX hx
   exact ⟨xv,Lx,by rw [jU,zDg,uS];exact h1,h2,h3⟩
  have ho1:∀ rest a v,a.isWay=true→zIp (zIp (zA8 w rv E) (E r) pre) q rest a v→v.oneCell'=true:=fun rest a v hw h=>zC8 hw (zEx (zEx h))
  cases a<;>first | (cases kg;done) | skip
  case addr r' p i c sh =>
   simp only [inl]
   cases hu:zAL r pre r' p with
   | false=>exact ⟨rfl,hK _ _ ha⟩
   | true =>
    obtain ⟨rfl,rest,rfl⟩:=zEi.1 hu
    simp only [cond_true,List.drop_left]
    cases hg:zAz q rest with
    | none=>rfl
    | some x =>
     obtain ⟨xv,Lx,h1,h2,h3⟩:=node rest x hg
     obtain ⟨_,a',h4,h5,h6⟩:=ha
     exact zPR (ho1 rest) hΦ (fun a v hw h=>hw1 a v hw (zEx h)) h3 (fun b hb => .inr (h2 b hb)) h4 fun a'' gE=>h6 xv x h1 a'' gE
  case bor r' p z lo n =>
   simp only [inl]
   cases hu:zAL r pre r' p with
   | false=>exact ⟨rfl,hK _ _ ha⟩
   | true =>
    obtain ⟨rfl,rest,rfl⟩:=zEi.1 hu
    simp only [cond_true,List.drop_left]
    cases hg:zAz q rest with
    | none=>rfl
    | some x =>
     obtain ⟨xv,Lx,h1,h2,h3⟩:=node rest x hg
     obtain ⟨_,_,h6⟩:=ha
     exact zH9 hΦ h3 (fun b hb => .inr (h2 b hb)) fun sz xs hx=>by
      subst hx
      obtain ⟨sz',xs',h7,h8,h9⟩:=h6 xv _ h1 rfl
      cases h7;exact ⟨h8,h9⟩
  case bsl r' p i c sz ag n =>
   simp only [inl]
   cases hu:zAL r pre r' p with
   | false=>exact ⟨rfl,hK _ _ ha⟩
   | true =>
    obtain ⟨rfl,rest,rfl⟩:=zEi.1 hu
    simp only [cond_true,List.drop_left]
    cases hg:zAz q rest with
    | none=>rfl
    | some x =>
     obtain ⟨xv,Lx,h1,h2,h3⟩:=node rest x hg
     obtain ⟨_,a',cap,h4,yR,h5,h6⟩:=ha
     exact zG8 (fun a v hw h=>zI0 hw (zEx (zEx h))) hΦ h3 (fun b hb => .inr (h2 b hb)) h4 yR fun a'' gE=>h6 xv x h1 a'' gE
  case bmap r' p =>
   simp only [inl]
   cases hu:zAL r pre r' p with
   | false=>exact ⟨rfl,hK _ _ ha⟩
   | true =>
    obtain ⟨rfl,rest,rfl⟩:=zEi.1 hu
    simp only [cond_true,List.drop_left]
    cases hg:zAz q rest with
    | none=>rfl
    | some x =>
     obtain ⟨xv,Lx,h1,h2,h3⟩:=node rest x hg
     obtain ⟨_,_,h6⟩:=ha
     exact zGP hΦ h3 (fun b hb => .inr (h2 b hb)) fun es hx=>h6 xv x h1 es hx
  case log=>exact ha.elim
 have hs:zDc w w Φ (fun b=>Φ b∨b∈Li):=fun b hb=>⟨.inl hb,rfl⟩
 have ya:∀ b,b∈La++Lb→b∈L r:=fun b hb=>by rw [hL];simp at hb ⊢;rcases hb with h | h<;>simp [h]
 refine ⟨nv,Li,fun s=>if s=r then La++Lb else L s,uS,hX,fun s hs=>by simp [hs],?_,?_,?_,?_,?_,fun b hb => .inl (h.frz0 b hb),h.size,h.kept,h.os,h.tape,h.output⟩
 ·intro s
  by_cases yZ:s=r
  ·subst yZ
   simp only [if_true,hr,true_or]
   have h1:=vk w (fun b=>Φ b∨b∈Li) (zA8 w rv E) (zAV q) [] root' (fun _ _ _ h=>h) hs (fun _ _=>rfl) (fun _=>zC6 q) (zD7 hΦ q nv Li (fun b hb => .inr hb) hX) hm
   exact Rep.map ul.agg zDc.refl hA _ _ _ (fun _ _=>rfl) (by simpa using h1)
  ·by_cases yg:s<zAb∨M s=true
   ·simp only [yZ,yg,if_false,if_true]
    exact Rep.map ul.agg hs hA _ _ _ (fun _ _=>rfl) (h.rep s)
   ·simp only [yZ,yg,if_false]
    exact (h.rep s).mono hs (fun a u _ ha=>hK a u ha) (fun _ _=>rfl)
 ·intro s
  by_cases yZ:s=r
  ·subst yZ
   simp only [if_true,List.nodup_append]
   exact ⟨yT.1.1,yT.2.1,fun a ha b hb e=>yT.2.2 a (by simp [ha]) b hb e⟩
  ·simp only [yZ,if_false];exact h.nodup s
 ·intro s s' hI b hb yG
  by_cases yZ:s=r
  ·subst yZ
   simp only [if_true] at hb
   rw [if_neg (Ne.symm hI)] at yG
   exact h.disj s s' hI b (ya b hb) yG
  ·rw [if_neg yZ] at hb
   by_cases hsr':s'=r
   ·subst hsr'
    simp only [if_true] at yG
    exact h.disj s s' hI b hb (ya b yG)
   ·rw [if_neg hsr'] at yG;exact h.disj s s' hI b hb yG
 ·intro s b hb
  have jL:∃ t,b∈L t∧b∉Li:=by
   by_cases yZ:s=r
   ·subst yZ
    simp only [if_true] at hb
    exact ⟨s,ya b hb,fun uh=>vF b uh hb⟩
   ·rw [if_neg yZ] at hb
    exact ⟨s,hb,fun uh=>h.disj s r yZ b hb (by rw [hL];simp [uh])⟩
  obtain ⟨t,h1,h2⟩:=jL
  obtain ⟨h3,h4,h5⟩:=h.own t b h1
  exact ⟨h3,fun hp=>hp.elim h4 h2,h5⟩
 ·intro b hb
  rcases hb with hb | hb
  ·exact h.frz b hb
  ·obtain ⟨h3,h4,h5⟩:=h.own r b (by rw [hL];simp [hb])
   exact ⟨h3,.inr h5⟩
end
end Go.Eng
namespace Go.Eng
open Go
theorem Env.get_set (e:Env) (s:Nat) (p:PV) (t:Nat):(e.set s p).get t=if t=s then p else e.get t:=by
 induction e with
 | nil =>
  simp only [Env.set,Env.get]
  by_cases h:t=s
  ·subst h;simp
  ·have:Nat.beq s t=false:=by
    cases hb:Nat.beq s t with
    | false=>rfl
    | true=>exact absurd (Nat.eq_of_beq_eq_true hb).symm h
   simp [this,h]
 | cons x e ih =>
  obtain ⟨k,v⟩:=x
  simp only [Env.set]
  cases hk:Nat.beq k s with
  | true =>
   have:=Nat.eq_of_beq_eq_true hk;subst this
   simp only [cond_true,Env.get]
   by_cases h:t=k
   ·subst h;simp
   ·have:Nat.beq k t=false:=by
     cases hb:Nat.beq k t with
     | false=>rfl
     | true=>exact absurd (Nat.eq_of_beq_eq_true hb).symm h
    simp [this,h]
  | false =>
   have hI:k≠s:=fun h=>by subst h;simp at hk
   simp only [cond_false]
   cases Nat.ble s k with
   | true =>
    simp only [cond_true,Env.get]
    by_cases h:t=s
    ·subst h;simp
    ·have:Nat.beq s t=false:=by
      cases hb:Nat.beq s t with
      | false=>rfl
      | true=>exact absurd (Nat.eq_of_beq_eq_true hb).symm h
     simp [this,h]
   | false =>
    simp only [cond_false,Env.get,ih]
    cases hb:Nat.beq k t with
    | true =>
     have:=Nat.eq_of_beq_eq_true hb;subst this
     simp [hI]
    | false=>rfl
theorem Env.get_map (e:Env) {g:PV→PV} (hg:g .bad = .bad) (s:Nat):Env.get (e.map fun x=>(x.1,g x.2)) s=g (e.get s):=by
 induction e with
 | nil=>simp [Env.get,hg]
 | cons x e ih =>
  obtain ⟨k,v⟩:=x
  simp only [List.map_cons,Env.get,ih]
  cases Nat.beq k s<;>rfl
theorem Env.get_kill (e:Env) (r:Nat) (pre:zAU) (s:Nat):(e.kill r pre).get s=(e.get s).mapW (lose r pre):=Env.get_map e (g:=fun p=>p.mapW (lose r pre)) rfl s
theorem Env.get_killEx (e:Env) (r:Nat) (keep:List zAU) (s:Nat):(e.killEx r keep).get s=(e.get s).mapW (zBP r keep):=Env.get_map e (g:=fun p=>p.mapW (zBP r keep)) rfl s
theorem Env.get_drop (e:Env) (l:List Nat) (s:Nat):(e.drop l).get s=if zMn l s then .bad else e.get s:=by
 induction e with
 | nil=>simp [Env.drop,Env.get]
 | cons x e ih =>
  obtain ⟨k,v⟩:=x
  simp only [Env.drop] at ih ⊢
  simp only [List.filter_cons]
  by_cases hk:zMn l k=true
  ·simp only [hk,Bool.not_true,Bool.false_eq_true,if_false,ih,Env.get]
   cases hb:Nat.beq k s with
   | true=>have:=Nat.eq_of_beq_eq_true hb;subst this;simp [hk]
   | false=>rfl
  ·simp only [hk,Bool.not_false,if_true,Env.get,ih]
   cases hb:Nat.beq k s with
   | true=>have:=Nat.eq_of_beq_eq_true hb;subst this;simp [hk]
   | false=>rfl
theorem Env.frz_eq {e e':Env} {r:Nat} {pre:zAU} (h:e.frz r pre=some e') :
  ∃ q root,(e.get r).isLock=false∧zAz (e.get r) pre=some q∧zAu (fun _=>some (zAV q)) (e.get r) pre=some root∧∀ s,e'.get s=(if s=r then root else e.get s).mapW (inl r pre q):=by
 simp only [Env.frz] at h
 cases hl:(e.get r).isLock with
 | true=>rw [hl] at h;cases h
 | false =>
 rw [hl] at h;simp only [cond_false] at h
 cases hq:zAz (e.get r) pre with
 | none=>rw [hq] at h;cases h
 | some q =>
  rw [hq] at h;simp only at h
  cases hm:zAu (fun _=>some (zAV q)) (e.get r) pre with
  | none=>rw [hm] at h;cases h
  | some root =>
   rw [hm] at h;simp only [Option.some.injEq] at h
   subst h
   refine ⟨q,root,rfl,rfl,hm,fun s=>?_⟩
   rw [Env.get_map (e.set r root) (g:=fun p=>p.mapW (inl r pre q)) rfl s,Env.get_set]
structure Hid where
 val:Nat→Value
 ds:List Deferred
structure St (w0:World) (U Φ0:Nat→Prop) (nt:Nat) (hv:Hid) (a:Act) (w:World) (e:Env) (Φ:Nat→Prop) (rv:Nat→Value) (E:Nat→PV) (L:Nat→List Nat):Prop where
 conf:Conf w0 U Φ0 w Φ rv E L
 env:∀ s,s<zAb→E s=e.get s
 size:a.tmps.size=nt
 small:nt≤2000000
 tmps:∀ t,t<nt→a.tmps.getD t undef=rv t
 parts:∀ d ps i,d<nt→E d = .tup ps→i<ps.length→i<16∧∃ vs,rv d = .tuple vs∧vs[i]? = some (rv (zBw d i))
 hid:∀ s,zAl≤s→s<zAA→rv s=hv.val s
 dfr:a.defers=hv.ds
def Fr (w0:World) (U Φ0:Nat→Prop) (nt:Nat) (hv:Hid) (a:Act) (w:World) (e:Env):Prop :=
 ∃ Φ rv E L,St w0 U Φ0 nt hv a w e Φ rv E L∧∀ g,zAb≤g→E g = .bad
def zAQ (nt:Nat):Operand→Bool
 | .tmp t=>Nat.blt t nt
 | _=>true
theorem zB3 {a b:Nat} (h:Nat.blt a b=true):a<b:=Nat.le_of_ble_eq_true h
section
variable {w0 w:World} {U Φ0 Φ:Nat→Prop} {nt:Nat} {hv:Hid} {a:Act} {e e':Env} {rv rv':Nat→Value} {E E':Nat→PV} {L L':Nat→List Nat} {o:zAF}
mutual
theorem zDf {A:Al}:∀ (p:PV) (v:Value) (L:List Nat),p.heavy=false→Rep w Φ A p v L→L=[]
 | .own ..,_,_,hp,_=>by cases hp
 | .box _,_,_,hp,_=>by cases hp
 | .omap _,_,_,hp,_=>by cases hp
 | .lock _,_,_,hp,_=>by cases hp
 | .agg cs,_,_,hp,h=>by obtain ⟨vs,_,h⟩:=h;exact zHF cs _ _ hp h
 | .tup cs,_,_,hp,h=>by obtain ⟨vs,_,h⟩:=h;exact zHF cs _ _ hp h
 | .bad,_,_,_,h=>h
 | .und,_,_,_,h=>h.2
 | .int ..,_,_,_,h=>h.2
 | .bool _,_,_,_,h=>h.2
 | .nilp,_,_,_,h=>h.2
 | .nilf,_,_,_,h=>h.2
 | .nilm,_,_,_,h=>h.2
 | .nn,_,_,_,h=>h.1
 | .nils _,_,_,_,h=>h.2
 | .sl xs,_,_,_,h=>h.1
 | .ref q,_,_,_,h=>h.1
 | .map es,_,_,_,h=>h.1
 | .func _ _ _,_,_,_,h=>h.1
 | .addr ..,_,_,_,h=>h.1
 | .bor ..,_,_,_,h=>h.1
 | .bsl ..,_,_,_,h=>h.1
 | .bmap ..,_,_,_,h=>h.1
 | .yld _,_,_,_,h=>h.1
 | .log ..,_,_,_,h=>h.1
theorem zHF {A:Al}:∀ (ps:List PV) (vs:List Value) (L:List Nat),zC5 ps=false→zA2 w Φ A ps vs L→L=[]
 | [],_,_,_,h=>h.2
 | p::ps,_,_,hp,h=>by
  simp only [zC5,Bool.or_eq_false_iff] at hp
  obtain ⟨v,vs',L1,L2,rfl,rfl,h1,h2⟩:=h
  rw [zDf p v L1 hp.1 h1,zHF ps vs' L2 hp.2 h2];rfl
end
def zX9 (E E':Nat→PV):Prop:=∀ d ps,d<2000000→E' d = .tup ps→∃ ps',E d = .tup ps'∧ps'.length=ps.length
theorem zX9.refl:zX9 E E:=fun _ ps _ h=>⟨ps,h,rfl⟩
theorem zC7 {f:PV→PV}:∀ ps:List PV,(zCt f ps).length=ps.length
 | []=>rfl
 | p::ps=>by simp [zCt,zC7 ps]
theorem zD3 {f:PV→PV} (hf:∀ p,p.isWay=true→(f p).isTup=false) {p:PV} {ps:List PV} (h:p.mapW f = .tup ps):∃ ps',p = .tup ps'∧ps'.length=ps.length:=by
 cases hp:p.isWay with
 | true=>rw [zFZ hp] at h;have:=hf p hp;rw [h] at this;cases this
 | false =>
  cases p<;>first | (cases hp;done) | (simp [PV.mapW] at h;done) | skip
  simp only [PV.mapW,PV.tup.injEq] at h
  exact ⟨_,rfl,by rw [← h,zC7]⟩
theorem zIu (r:Nat) (pre:zAU) (p:PV) (hp:p.isWay=true):(lose r pre p).isTup=false:=by
 rcases zGw r pre p with h | ⟨_,h⟩
 ·rw [h];cases p<;>first | rfl | cases hp
 ·rw [h];rfl
theorem St.turn (S:St w0 U Φ0 nt hv a w e Φ rv E L) {w':World} {Φ':Nat→Prop} (hc:Conf w0 U Φ0 w' Φ' rv' E' L') (he:∀ s,s<zAb→E' s=e'.get s) (hr:∀ s,s<zAb→rv' s=rv s) (hE:zX9 E E') :
  St w0 U Φ0 nt hv a w' e' Φ' rv' E' L':=by
 have hs:=S.small
 refine ⟨hc,he,S.size,S.small,fun t ht=>?_,fun d ps i hd hp hi=>?_,fun s h1 h2=>?_,S.dfr⟩
 ·rw [hr t (by simp only [zAb];omega)];exact S.tmps t ht
 ·obtain ⟨ps',h1,h2⟩:=hE d ps (by omega) hp
  obtain ⟨h3,vs,h4,h5⟩:=S.parts d ps' i hd h1 (by omega)
  refine ⟨h3,vs,?_,?_⟩
  ·rw [hr d (by simp only [zAb];omega)];exact h4
  ·rw [hr _ (by simp only [zBw,zAb];omega)];exact h5
 ·rw [hr s (by simp only [zAA,zAb] at *;omega)];exact S.hid s h1 h2
theorem zJR {A:Al} (v:Value):Rep w Φ A (zEB v) v []:=by
 have key:∀ cs:List Value,zA2 w Φ A (cs.map fun | .int k n=>PV.int k n | .bool b => .bool b | _ => .bad) cs []:=by
  intro cs
  induction cs with
  | nil=>exact ⟨rfl,rfl⟩
  | cons c cs ih =>
   refine ⟨c,cs,[],[],rfl,rfl,?_,ih⟩
   cases c<;>first | exact ⟨rfl,rfl⟩ | rfl
 cases v with
 | slice x n c =>
  cases x with
  | some x=>cases n<;>cases c<;>rfl
  | none=>cases n<;>cases c<;>first | exact ⟨rfl,rfl⟩ | rfl
 | pointer x=>cases x<;>first | exact ⟨rfl,rfl⟩ | rfl
 | map x=>cases x<;>first | exact ⟨rfl,rfl⟩ | rfl
 | agg cs=>exact ⟨cs,rfl,key _⟩
 | _=>first | exact ⟨rfl,rfl⟩ | rfl
theorem zBv (S:St w0 U Φ0 nt hv a w e Φ rv E L) {x:Operand} (hx:zAQ nt x=true) {k:PV→PM} (h:(opd x k).run o e=some e') :
  ∃ p,(k p).run o e=some e'∧Rep w Φ (zA8 w rv E) p (a.eval x) []:=by
 have hs:=S.small
 cases x with
 | tmp t =>
  have ht:=zB3 hx
  have yk:(t:Nat)<zAb:=Nat.lt_of_lt_of_le ht (Nat.le_trans S.small (by decide))
  refine ⟨_,h,?_⟩
  have:=S.conf.view yk
  rw [S.env t yk] at this
  simp only [Act.eval]
  rw [S.tmps t ht];exact this
 | const v=>exact ⟨_,h,zJR v⟩
 | func f=>exact ⟨_,h,rfl,#[],#[],rfl,⟨rfl,rfl⟩,⟨rfl,rfl⟩⟩
 | global g=>cases h
theorem zHz (S:St w0 U Φ0 nt hv a w e Φ rv E L):∀ {xs:List Operand},(∀ x∈xs,zAQ nt x=true)→∀ {k:List PV→PM},(zTq xs k).run o e=some e' →
  ∃ ps,(k ps).run o e=some e'∧zA2 w Φ (zA8 w rv E) ps (xs.map a.eval) []
 | [],_,k,h=>⟨[],h,rfl,rfl⟩
 | x::xs,hx,k,h=>by
  obtain ⟨p,h1,h2⟩:=zBv S (hx x (by simp)) h
  obtain ⟨ps,h3,h4⟩:=zHz S (fun y hy=>hx y (by simp [hy])) h1
  exact ⟨p::ps,h3,_,_,[],[],rfl,rfl,h2,h4⟩
def zWk (g:Nat) (rv rv':Nat→Value) (E E':Nat→PV) (L L':Nat→List Nat):Prop:=∀ s,zAb≤s→s≠g→E' s=E s∧rv' s=rv s∧L' s=L s
theorem St.hold (S:St w0 U Φ0 nt hv a w e Φ rv E L) {g:Nat} (hg:zAb≤g) {p:PV} {v:Value} (hr:Rep w Φ (zA8 w rv E) p v []):St w0 U Φ0 nt hv a w e Φ (upd rv g v) (upd E g p) (upd L g []):=by
 refine S.turn (S.conf.hold hg hr) (fun s hs=>?_) (fun s hs=>zAf (by omega)) fun d ps hd hp=>?_
 ·rw [zAf (by omega)];exact S.env s hs
 ·rw [zAf (by simp only [zAb] at hg;omega)] at hp;exact ⟨ps,hp,rfl⟩
theorem zGx (S:St w0 U Φ0 nt hv a w e Φ rv E L) {x:Operand} (hx:zAQ nt x=true) {g:Nat} (hg:zAb≤g) {k:PV→PM} (h:(zPa x k).run o e=some e') :
  ∃ e1 rv1 E1 L1,(k (E1 g)).run o e1=some e'∧St w0 U Φ0 nt hv a w e1 Φ rv1 E1 L1∧rv1 g=a.eval x∧zWk g rv rv1 E E1 L L1:=by
 have kA:=S.small
 have light:∀ p,(k p).run o e=some e'→Rep w Φ (zA8 w rv E) p (a.eval x) []→∃ e1 rv1 E1 L1,(k (E1 g)).run o e1=some e'∧St w0 U Φ0 nt hv a w e1 Φ rv1 E1 L1∧rv1 g=a.eval x∧zWk g rv rv1 E E1 L L1:=by
  intro p h hr
  refine ⟨e,_,_,_,?_,S.hold hg hr,zAj,fun s _ hI=>⟨zAf hI,zAf hI,zAf hI⟩⟩
  rw [zAj];exact h
 cases x with
 | tmp t =>
  have ht:=zB3 hx
  have yk:(t:Nat)<zAb:=Nat.lt_of_lt_of_le ht (Nat.le_trans S.small (by decide))
  have hX:=S.conf.rep t
  rw [S.env t yk] at hX
  have uL:a.eval (.tmp t)=rv t:=S.tmps t ht
  simp only [zPa,PM.run] at h
  split at h
  ·cases h
  ·rename_i p _
   split at h
   ·rename_i hh
    simp only [PM.run] at h
    refine ⟨_,_,_,_,?_,S.turn (e':=e.set t .bad) (S.conf.take yk hg) (fun s hs=>?_) (fun s hs=>zAf (by omega)) (fun d ps hd hp=>?_),by rw [zAj,uL],fun s h1 h2=>?_⟩
    ·rw [zAj,S.env t yk];exact h
    ·rw [zAf (by omega),Env.get_set]
     by_cases h2:s=t
     ·subst h2;rw [zAj,if_pos rfl]
     ·rw [zAf h2,if_neg h2];exact S.env s hs
    ·rw [zAf (by simp only [zAb] at hg;omega)] at hp
     by_cases h2:d=t
     ·subst h2;rw [zAj] at hp;cases hp
     ·rw [zAf h2] at hp;exact ⟨ps,hp,rfl⟩
    ·have h3:s≠t:=by intro h;subst h;exact absurd yk (Nat.not_lt.2 h1)
     rw [zAf h2,zAf h2,zAf h2,zAf h3,zAf h3];exact ⟨rfl,rfl,rfl⟩
   ·rename_i hh
    simp only [Bool.not_eq_true] at hh
    have hL:=zDf _ _ _ hh hX
    rw [hL] at hX
    exact light _ h (by rw [uL];exact hX)
 | const v=>exact light _ h (zJR v)
 | func f=>exact light _ h ⟨rfl,#[],#[],rfl,⟨rfl,rfl⟩,⟨rfl,rfl⟩⟩
 | global g=>cases h
theorem zQx (S:St w0 U Φ0 nt hv a w e Φ rv E L) {d g:Nat} (ug:d<zAb) (hg:zAb≤g) {k:PM} (h:(lay d (E g) k).run o e=some e') :
  ∃ e1 E1 L1,k.run o e1=some e'∧Conf w0 U Φ0 w Φ (upd rv d (rv g)) E1 L1∧(∀ s,s<zAb→E1 s=e1.get s)∧(∀ s,s≠d→s<zAb→E1 s=E s∨E1 s=(E s).mapW (lose d [])) ∧
   (E1 d=E g∨E1 d=(E g).mapW (lose d []))∧E1 g = .bad∧∀ s,zAb≤s→s≠g→E1 s=E s∨E1 s=(E s).mapW (lose d []):=by
 have vG:d≠g:=by omega
 simp only [lay] at h
 cases hh:(E g).heavy with
 | true =>
  rw [hh] at h;simp only [cond_true,PM.run] at h
  refine ⟨_,_,_,h,S.conf.lay ug hg,fun s hs=>?_,fun s hs uU => .inr ?_,.inr ?_,zAj,fun s h1 h2 => .inr ?_⟩
  ·rw [zAf (by omega),Env.get_set,Env.get_kill]
   by_cases h2:s=d
   ·subst h2;rw [zAj,if_pos rfl]
   ·rw [zAf h2,if_neg h2,S.env s hs]
  ·rw [zAf (by omega),zAf hs]
  ·rw [zAf (by omega),zAj]
  ·rw [zAf h2,zAf (by omega)]
 | false =>
  rw [hh] at h;simp only [cond_false,PM.run] at h
  have hX:=S.conf.rep g
  rw [zDf _ _ _ hh hX] at hX
  have h1:=S.conf.put (s:=d) hh hX
  have h2:=h1.drop fun s=>s==g
  refine ⟨_,_,_,h,h2,fun s hs=>?_,fun s hs uU => .inl ?_,.inl ?_,by simp,fun s h1 h2 => .inl ?_⟩
  ·rw [Env.get_set]
   have:(s==g)=false:=by simp;omega
   simp only [this,Bool.false_eq_true,if_false]
   by_cases h2:s=d
   ·subst h2;rw [zAj,if_pos rfl]
   ·rw [zAf h2,if_neg h2,S.env s hs]
  ·have:(s==g)=false:=by simp;omega
   simp [this,zAf hs]
  ·have:(d==g)=false:=by simp;omega
   simp [this,zAj]
  ·have:(s==g)=false:=by simp [h2]
   simp [this,zAf (show s≠d by omega)]
theorem zUx (S:St w0 U Φ0 nt hv a w e Φ rv E L) {d g:Nat} (hd:d<zAl) (hg:zAb≤g) {k:PM} (h:(lay d (E g) k).run o e=some e') :
  ∃ e1 E1 L1,k.run o e1=some e'∧Conf w0 U Φ0 w Φ (upd rv d (rv g)) E1 L1∧(∀ s,s<zAb→E1 s=e1.get s)∧(∀ s,s≠d→s<zAb→E1 s=E s∨E1 s=(E s).mapW (lose d [])) ∧
   (E1 d=E g∨E1 d=(E g).mapW (lose d []))∧E1 g = .bad∧∀ s,zAb≤s→s≠g→E1 s=E s∨E1 s=(E s).mapW (lose d []) :=
 zQx S (by simp only [zAl,zAb] at *;omega) hg h
theorem Act.put_tmps (a:Act) {d:Nat} {v:Value} (hd:d<a.tmps.size) (t:Nat):(a.put (some d) v).tmps.getD t undef=if t=d then v else a.tmps.getD t undef:=by
 simp only [Act.put,Array.getD_eq_getD_getElem?,Array.getElem?_setIfInBounds]
 by_cases h:t=d
 ·subst h;simp [hd]
 ·rw [if_neg (Ne.symm h),if_neg h]
theorem zFu (S:St w0 U Φ0 nt hv a w e Φ rv E L) {d:Option Nat} (hd:∀ x,d=some x→x<nt) {g:Nat} (hg:zAb≤g) (h:(put d (E g)).run o e=some e') (hb:∀ s,zAb≤s→s≠g→E s = .bad) :
  Fr w0 U Φ0 nt hv (a.put d (rv g)) w e':=by
 have kA:=S.small
 cases d with
 | none =>
  simp only [put,PM.run,Option.some.injEq] at h;subst h
  have h2:=S.conf.drop fun s=>s==g
  refine ⟨_,_,_,_,S.turn h2 (fun s hs=>?_) (fun _ _=>rfl) (fun d ps hd hp=>?_),fun s hs=>?_⟩
  ·have:(s==g)=false:=by simp;omega
   simp only [this,Bool.false_eq_true,if_false];exact S.env s hs
  ·have:(d==g)=false:=by simp only [zAb] at hg;simp;omega
   simp only [this,Bool.false_eq_true,if_false] at hp;exact ⟨ps,hp,rfl⟩
  ·by_cases h3:s=g
   ·subst h3;simp
   ·have:(s==g)=false:=by simp [h3]
    simp only [this,Bool.false_eq_true,if_false];exact hb s hs h3
 | some d =>
  have uM:=hd d rfl
  have hds:d<a.tmps.size:=by rw [S.size];exact uM
  simp only [put] at h
  cases ht:(E g).isTup with
  | true=>rw [ht] at h;cases h
  | false =>
   rw [ht] at h;simp only [cond_false] at h
   obtain ⟨e1,E1,L1,h1,h2,h3,h4,h5,h6,h7⟩:=zUx S (by simp only [zAl];omega) hg h
   simp only [PM.run,Option.some.injEq] at h1;subst h1
   refine ⟨_,_,_,_,⟨h2,h3,by simp only [Act.put,Array.size_setIfInBounds];exact S.size,S.small,fun t LJ=>?_,fun d' ps i w5 hp hi=>?_,fun s ui uU=>?_,S.dfr⟩,fun s hs=>?_⟩
   ·rw [Act.put_tmps a hds]
    by_cases vp:t=d
    ·subst vp;simp [zAj]
    ·rw [if_neg vp,zAf vp];exact S.tmps t LJ
   ·have vG:d'≠d:=by
     intro hc;subst hc
     rcases h5 with h5 | h5
     ·rw [h5] at hp;rw [hp] at ht;cases ht
     ·rw [h5] at hp
      obtain ⟨ps',h8,_⟩:=zD3 (zIu d' []) hp
      rw [h8] at ht;cases ht
    have:∃ ps',E d' = .tup ps'∧ps'.length=ps.length:=by
     rcases h4 d' vG (by simp only [zAb];omega) with h8 | h8
     ·exact ⟨ps,by rw [← h8,hp],rfl⟩
     ·rw [h8] at hp;exact zD3 (zIu d []) hp
    obtain ⟨ps',h8,h9⟩:=this
    obtain ⟨jS,vs,vH,h12⟩:=S.parts d' ps' i w5 h8 (by omega)
    exact ⟨jS,vs,by rw [zAf vG];exact vH,by rw [zAf (by simp only [zBw];omega)];exact h12⟩
   ·rw [zAf (by simp only [zAl] at ui;omega)];exact S.hid s ui uU
   ·by_cases h8:s=g
    ·subst h8;exact h6
    ·rcases h7 s hs h8 with h9 | h9
     ·rw [h9];exact hb s hs h8
     ·rw [h9,hb s hs h8];rfl
end
end Go.Eng
namespace Go.Eng
open Go
theorem zBG {α:Type} {x:Option α} {k:α→PM} {o:zAF} {e e':Env} (h:(zIC x k).run o e=some e'):∃ a,x=some a∧(k a).run o e=some e':=by
 cases x with
 | none=>cases h
 | some a=>exact ⟨a,rfl,h⟩
theorem zD8 {p:PV} {k:Nat→PM} {o:zAF} {e e':Env} (h:(zGk p k).run o e=some e'):∃ ik n,p = .int ik n∧0≤n∧(k n.toNat).run o e=some e':=by
 cases p<;>try (cases h;done)
 rename_i ik n
 simp only [zGk] at h
 split at h
 ·exact ⟨ik,n,rfl,‹_›,h⟩
 ·cases h
theorem zDk {c:Prop} [Decidable c] {k:PM} {o:zAF} {e e':Env} (h:(if c then k else .fail).run o e=some e'):c∧k.run o e=some e':=by
 split at h
 ·exact ⟨‹_›,h⟩
 ·cases h
theorem zAJ {c:Bool} {k:PM} {o:zAF} {e e':Env} (h:(bif c then k else .fail).run o e=some e'):c=true∧k.run o e=some e':=by
 cases c
 ·cases h
 ·exact ⟨rfl,h⟩
section
variable {P:Program} {w0 w:World} {U Φ0 Φ:Nat→Prop} {nt:Nat} {hv:Hid} {a:Act} {e e':Env} {rv rv':Nat→Value} {E E':Nat→PV} {L L':Nat→List Nat} {o:zAF} {A:Al}
def zBs (E:Nat→PV):Prop:=∀ g,zAb≤g→E g = .bad
theorem zAw (S:St w0 U Φ0 nt hv a w e Φ rv E L) (hb:zBs E) {d:Option Nat} (hd:∀ x,d=some x→x<nt) {p:PV} {v:Value} (h:(put d p).run o e=some e') (hr:Rep w Φ (zA8 w rv E) p v []) :
  Fr w0 U Φ0 nt hv (a.put d v) w e':=by
 have:=zFu (S.hold (Nat.le_refl zAb) hr) hd (Nat.le_refl zAb) (by rw [zAj];exact h) (fun s hs hI=>by rw [zAf hI];exact hb s hs)
 rwa [zAj] at this
theorem zVO (S:St w0 U Φ0 nt hv a w e Φ rv E L) (hb:zBs E) {d:Option Nat} (hd:∀ x,d=some x→x<nt) {c x y:Operand} (hc:zAQ nt c=true) (hx:zAQ nt x=true) (hy:zAQ nt y=true)
  (h:(zUk d c x y).run o e=some e'):∃ t,a.eval c = .bool t∧Fr w0 U Φ0 nt hv (a.put d (if t then a.eval x else a.eval y)) w e':=by
 obtain ⟨p,h1,h2⟩:=zBv S hc h
 cases p<;>simp only [zUg] at h1<;>try (cases h1;done)
 rename_i t
 refine ⟨t,h2.1,?_⟩
 cases t
 ·obtain ⟨q,h3,h4⟩:=zBv S hy h1;exact zAw S hb hd h3 h4
 ·obtain ⟨q,h3,h4⟩:=zBv S hx h1;exact zAw S hb hd h3 h4
theorem zWJ (S:St w0 U Φ0 nt hv a w e Φ rv E L) (hb:zBs E) {d:Option Nat} (hd:∀ x,d=some x→x<nt) {x:Operand} (hx:zAQ nt x=true) (h:(opd x (zXR d)).run o e=some e') :
  (match a.eval x with | .pointer none | .nilIface | .nilFunc | .func (.method _) _ _=>False | _=>True)∧Fr w0 U Φ0 nt hv (a.put d (a.eval x)) w e':=by
 obtain ⟨p,h1,h2⟩:=zBv S hx h
 cases p<;>simp only [zXR] at h1<;>try (cases h1;done)
 case ref q=>refine ⟨?_,zAw S hb hd h1 h2⟩;obtain ⟨_,b,c,u,h3,_⟩:=h2;rw [h3];trivial
 case func=>refine ⟨?_,zAw S hb hd h1 h2⟩;obtain ⟨_,fs,cs,h3,_⟩:=h2;rw [h3];trivial
 case addr=>refine ⟨?_,zAw S hb hd h1 h2⟩;obtain ⟨_,_,b,h3,_⟩:=h2;rw [h3];trivial
 case yld=>refine ⟨?_,zAw S hb hd h1 h2⟩;rw [h2.2];trivial
theorem zYr (S:St w0 U Φ0 nt hv a w e Φ rv E L) (hb:zBs E) {d:Option Nat} (hd:∀ x,d=some x→x<nt) {op:UnOp} {x:Operand} (hx:zAQ nt x=true) (h:(opd x (unV d op)).run o e=some e') :
  ∃ v,(Op.unary op (a.eval x)).run P w = .ok v w∧Fr w0 U Φ0 nt hv (a.put d v) w e':=by
 obtain ⟨p,h1,h2⟩:=zBv S hx h
 simp only [unV] at h1
 split at h1
 ·rename_i b;exact ⟨.bool !b,by rw [h2.1];rfl,zAw S hb hd h1 ⟨rfl,rfl⟩⟩
 ·rename_i k n;exact ⟨.int k (k.wrap (0-n)),by rw [h2.1];rfl,zAw S hb hd h1 ⟨rfl,rfl⟩⟩
 ·cases h1
theorem zU7 (S:St w0 U Φ0 nt hv a w e Φ rv E L) (hb:zBs E) {d:Option Nat} (hd:∀ x,d=some x→x<nt) {s t:TypeId} (hs:(P.underlying s).isSome=true) {x:Operand} (hx:zAQ nt x=true) (h:(opd x (zQF P d t)).run o e=some e') :
  ∃ v,(convert s t (a.eval x)).run P w = .ok v w∧Fr w0 U Φ0 nt hv (a.put d v) w e':=by
 obtain ⟨p,h1,h2⟩:=zBv S hx h
 simp only [zQF] at h1
 split at h1
 ·rename_i k k' n ht
  refine ⟨.int k (k.wrap n),?_,zAw S hb hd h1 ⟨rfl,rfl⟩⟩
  obtain ⟨ds,hds⟩:=Option.isSome_iff_exists.1 hs
  rw [h2.1]
  simp only [convert,Sem.run_bind,run_underlying ht,run_underlying hds,Result.andThen_ok]
  rfl
 ·cases h1
theorem zU4 (S:St w0 U Φ0 nt hv a w e Φ rv E L) (hb:zBs E) {d:Option Nat} (hd:∀ x,d=some x→x<nt) {f:FuncId} {fs cs:Array Operand} (hf:∀ x∈fs.toList,zAQ nt x=true) (hc:∀ x∈cs.toList,zAQ nt x=true)
  (h:(zKj d f fs.toList cs.toList).run o e=some e'):Fr w0 U Φ0 nt hv (a.put d (.func (.func f) (fs.map a.eval) (cs.map a.eval))) w e':=by
 obtain ⟨ps,h1,h2⟩:=zHz S hf h
 obtain ⟨qs,h3,h4⟩:=zHz S hc h1
 exact zAw S hb hd h3 ⟨rfl,_,_,rfl,by simpa using h2,by simpa using h4⟩
theorem zFc {t:TypeId} {sh:Option Nat} (h:shT P t=some sh):∃ i,P.info? t=some i∧(isAgg t).run P w = .ok sh.isSome w∧(∀ n,sh=some n→n=i.size)∧(sh=none→i.size=1):=by
 simp only [shT] at h
 cases hu:P.underlying t with
 | none=>rw [hu] at h;cases h
 | some td =>
  have hr:=run_underlying (w:=w) hu
  cases hi:P.info? t with
  | none=>rw [hu,hi] at h;cases td<;>cases h
  | some i =>
   rw [hu,hi] at h
   refine ⟨i,rfl,?_⟩
   cases td<;>simp only at h<;>first | (cases h;exact ⟨by simp only [isAgg,Sem.run_bind,hr,Result.andThen_ok];rfl,fun n hn=>by cases hn;rfl,fun hn=>by cases hn⟩) | skip
   all_goals
    split at h
    ·rename_i h1
     cases h;exact ⟨by simp only [isAgg,Sem.run_bind,hr,Result.andThen_ok];rfl,(by intro n hn;cases hn),fun _=>h1⟩
    ·cases h
theorem zAY {t:TypeId} {i:TypeInfo} (h:P.info? t=some i):(sizeOf t).run P w = .ok i.size w:=by
 simp [sizeOf,typeInfo,h]
theorem zFQ {t:TypeId} {sh:Option Nat} (hs:shT P t=some sh) {p q:PV} {cs:Array Value} {off:Nat} (hp:Rep w Φ A p (.agg cs) []) (h:sub p off sh=some q) :
  ∃ u,(part t cs off).run P w = .ok u w∧Rep w Φ A q u []:=by
 obtain ⟨i,hi,yv,h1,h2⟩:=zFc (w:=w) hs
 cases p<;>try (cases sh<;>cases h;done)
 rename_i ps
 obtain ⟨vs,hv,hr⟩:=hp
 cases hv
 have hZ:=hr.length
 cases sh with
 | some n =>
  simp only [sub] at h
  split at h
  ·rename_i yN
   cases h
   have hn:=h1 n rfl;subst hn
   refine ⟨.agg (cs.extract off (off+i.size)),?_,?_⟩
   ·simp only [part,Sem.run_bind,yv,Result.andThen_ok,Option.isSome_some,if_true,zAY hi];rfl
   ·refine ⟨_,rfl,?_⟩
    rw [Array.toList_extract]
    have:=zB0 hr off i.size
    simpa [List.extract] using this
  ·cases h
 | none =>
  simp only [sub] at h
  obtain ⟨u,La,Li,Lb,hu,hL,kh,_,_⟩:=hr.split h
  have hu':cs[off]? = some u:=by simpa using hu
  have:Li=[]:=by
   have:=congrArg List.length hL;simp at this
   exact List.eq_nil_of_length_eq_zero (by omega)
  subst this
  refine ⟨u,?_,kh⟩
  simp only [part,Sem.run_bind,yv,Result.andThen_ok,Option.isSome_none,Bool.false_eq_true,if_false,hu']
  rfl
theorem zNY {eq:TypeId→PV→PV→Option Bool} {d:Nat} {p q:PV} {xs ys:Array Value} (hp:Rep w Φ A p (.agg xs) []) (hq:Rep w Φ A q (.agg ys) [])
  (hd:∀ t p q b x y,eq t p q=some b→Rep w Φ A p x []→Rep w Φ A q y []→(Op.equalIn d t x y).run P w = .ok b w) :
  ∀ (fs:List Field) (b:Bool),zV8 eq (shT P) p q fs=some b→(Op.eqFields d xs ys fs).run P w = .ok b w
 | [],b,h=>by simp only [zV8,Option.some.injEq] at h;subst h;rfl
 | f :: fs,b,h=>by
  simp only [zV8] at h
  simp only [Op.eqFields]
  split at h
  ·rename_i hn
   rw [if_neg (by simp [hn])]
   exact zNY hp hq hd fs b h
  ·rename_i hn
   rw [if_pos hn]
   cases hs:shT P f.type with
   | none=>rw [hs] at h;cases h
   | some sh =>
    rw [hs] at h;simp only at h
    split at h
    ·rename_i a1 b1 h1 h2
     obtain ⟨u1,h3,h4⟩:=zFQ hs hp h1
     obtain ⟨u2,h5,h6⟩:=zFQ hs hq h2
     simp only [Sem.run_bind,h3,h5,Result.andThen_ok]
     cases he:eq f.type a1 b1 with
     | none=>rw [he] at h;cases h
     | some r =>
      rw [hd _ _ _ _ _ _ he h4 h6]
      rw [he] at h
      simp only [Result.andThen_ok]
      cases r with
      | true =>
       simp only [Bool.not_true,Bool.false_eq_true,if_false]
       exact zNY hp hq hd fs b h
      | false =>
       simp only [Option.some.injEq] at h;subst h
       simp
    ·cases h
theorem zSt {eq:PV→PV→Option Bool} {d:Nat} {e:TypeId} {sh:Option Nat} {i:TypeInfo} (hs:shT P e=some sh) (hi:P.info? e=some i) {p q:PV} {xs ys:Array Value} (hp:Rep w Φ A p (.agg xs) []) (hq:Rep w Φ A q (.agg ys) [])
  (hd:∀ p q b x y,eq p q=some b→Rep w Φ A p x []→Rep w Φ A q y []→(Op.equalIn d e x y).run P w = .ok b w) :
  ∀ (n k:Nat) (b:Bool),zUG eq sh i.size p q k n=some b →
   ((forIn (List.range' k n 1) ((none,()):Option Bool×Unit) fun i' r=>do
    let a ← part e xs (i'*i.size)
    let c ← part e ys (i'*i.size)
    if !(← Op.equalIn d e a c) then pure (.done (some false,())) else pure (.yield (none,()))):Sem _).run P w = .ok (if b then (none,()) else (some false,())) w
 | 0,k,b,h=>by simp only [zUG,Option.some.injEq] at h;subst h;simp
 | n + 1,k,b,h=>by
  simp only [zUG] at h
  simp only [List.range'_succ,List.forIn_cons,Sem.run_bind]
  split at h
  ·rename_i a1 b1 h1 h2
   obtain ⟨u1,h3,h4⟩:=zFQ hs hp h1
   obtain ⟨u2,h5,h6⟩:=zFQ hs hq h2
   simp only [h3,h5,Result.andThen_ok]
   cases he:eq a1 b1 with
   | none=>rw [he] at h;cases h
   | some r =>
    rw [hd _ _ _ _ _ he h4 h6]
    rw [he] at h
    simp only [Result.andThen_ok]
    cases r with
    | true =>
     simp only [Bool.not_true,Bool.false_eq_true,if_false,Sem.run_pure,Result.andThen_ok]
     exact zSt hs hi hp hq hd n (k+1) b h
    | false =>
     simp only [Option.some.injEq] at h;subst h
     simp
  ·cases h
theorem zKO:∀ (n:Nat) (t:TypeId) (p q:PV) (b:Bool) (x y:Value) (d:Nat),n≤d→eqT P n t p q=some b→Rep w Φ A p x []→Rep w Φ A q y []→(Op.equalIn d t x y).run P w = .ok b w
 | 0,t,p,q,b,x,y,d,hd,h,hp,hq=>by cases h
 | n+1,t,p,q,b,x,y,0,hd,h,hp,hq=>by omega
 | n + 1,t,p,q,b,x,y,d+1,hd,h,hp,hq=>by
  have yN:n≤d:=by omega
  simp only [eqT] at h
  split at h
  ·rename_i k0 k a1 k' b1 ht
   rw [hp.1,hq.1]
   split at h
   ·rename_i hk;subst hk
    cases h;exact run_equalIn_int w d t k k0 a1 b1 ht
   ·cases h
  ·rename_i a1 b1 ht
   rw [hp.1,hq.1];cases h
   exact run_equalIn_bool' w d t a1 b1 ht
  ·rename_i el ht
   rw [hp.1,hq.1];cases h
   simp [Op.equalIn,run_underlying ht]
  ·rename_i fs xs ys ht
   cases yJ:P.stoodInHeld t with
   | true=>rw [yJ] at h;cases h
   | false =>
    rw [yJ] at h;simp only [cond_false] at h
    obtain ⟨vs,rfl,jh⟩:=hp
    obtain ⟨us,rfl,jf⟩:=hq
    have wt:P.fieldsOf t=fs:=by simp [Program.fieldsOf,ht]
    rw [run_equalIn_struct w d t vs us (by rw [wt];exact ht) yJ,wt]
    exact zNY (p := .agg xs) (q := .agg ys) ⟨vs,rfl,jh⟩ ⟨us,rfl,jf⟩ (fun t p q b x y he h1 h2=>zKO n t p q b x y d yN he h1 h2) fs.toList b h
  ·rename_i len el xs ys ht
   split at h
   ·rename_i sz sh yD j8
    obtain ⟨vs,rfl,jh⟩:=hp
    obtain ⟨us,rfl,jf⟩:=hq
    obtain ⟨i,hi,_⟩:=zFc (w:=w) j8
    have gF:i.size=sz:=by simp only [szT,hi,Option.map_some,Option.some.injEq] at yD;exact yD
    subst gF
    have:=zSt (p := .agg xs) (q := .agg ys) j8 hi ⟨vs,rfl,jh⟩ ⟨us,rfl,jf⟩ (fun p q b x y he h1 h2=>zKO n el p q b x y d yN he h1 h2) len 0 b h
    simp only [Op.equalIn,Sem.run_bind,run_underlying ht,Result.andThen_ok,zAY hi,Std.Legacy.Range.forIn_eq_forIn_range',Std.Legacy.Range.size,Nat.sub_zero,Nat.add_sub_cancel,Nat.div_one]
    rw [this]
    cases b<;>simp
   ·cases h
  ·cases h
theorem zT3 {n:Nat} {t:TypeId} {p q:PV} {b:Bool} (h:eqT P n t p q=some b) (ha:p.isAgg=false):(∃ k n k' m,p = .int k n∧q = .int k' m)∨(∃ b,p = .bool b)∨p = .nilp:=by
 cases n with
 | zero=>cases h
 | succ n =>
  simp only [eqT] at h
  split at h
  ·exact .inl ⟨_,_,_,_,rfl,rfl⟩
  ·exact .inr (.inl ⟨_,rfl⟩)
  ·exact .inr (.inr rfl)
  ·cases ha
  ·cases ha
  ·cases h
theorem zTH {t:TypeId} {p q:PV} (hn:∀ z,q ≠ .nils z) (ha:∀ ys,q ≠ .agg ys):eqV P t p q=bif p.isAgg then none else eqT P 20 t p q:=by
 cases q<;>first | rfl | exact absurd rfl (hn _) | exact absurd rfl (ha _)
def zZH:Value→Bool
 | .bool _ | .pointer _ | .slice .. | .agg _=>true
 | _=>false
theorem zSk {t:TypeId} {x y:Value} {b:Bool} (hx:zZH x=true) (h:(Op.equal t x y).run P w = .ok b w):(binOp .eql t x y).run P w = .ok (.bool b) w∧(binOp .neq t x y).run P w = .ok (.bool !b) w:=by
 have h1:binOp .eql t x y=(do pure (.bool (← Op.equal t x y))):=by cases x<;>first | (cases hx;done) | rfl
 have h2:binOp .neq t x y=(do pure (.bool (!(← Op.equal t x y)))):=by cases x<;>first | (cases hx;done) | rfl
 rw [h1,h2]
 simp only [Sem.run_bind,h,Result.andThen_ok]
 exact ⟨rfl,rfl⟩
theorem zT9 {t:TypeId} {p:PV} {z:Nat} {b:Bool} {x:Value} (h:eqV P t p (.nils z)=some b) (hA:∀ a v,a.isWay=true→A a v→∀ r pre z lo n,a = .bor r pre z lo n→∃ b c,v = .slice b n c∧n≤c∧(b=none→c=0))
  (hp:Rep w Φ A p x []):(∃ a n c,x = .slice a n c)∧(Op.equal t x (.slice none 0 0)).run P w = .ok b w:=by
 cases ht:P.underlying t with
 | none=>simp [eqV,ht] at h
 | some td =>
 by_cases jP:∃ e,td = .slice e
 ·obtain ⟨e,rfl⟩:=jP
  by_cases hnp:∃ z',p = .nils z'
  ·obtain ⟨z',rfl⟩:=hnp
   simp only [eqV,ht,Option.some.injEq] at h
   subst h
   rw [hp.1]
   exact ⟨⟨_,_,_,rfl⟩,run_equal_slice_nil w t e none 0 0 ht⟩
  have hh:(bif zEX p then some false else none)=some b:=by
   rw [← h]
   cases p<;>first | (simp only [eqV,ht];done) | exact absurd ⟨_,rfl⟩ hnp
  have key:∀ a n c,x = .slice (some a) n c→b=false→(∃ a n c,x = .slice a n c)∧(Op.equal t x (.slice none 0 0)).run P w = .ok b w:=by
   intro a n c hx hb
   subst hx;subst hb
   exact ⟨⟨_,_,_,rfl⟩,run_equal_slice_nil w t e (some a) n c ht⟩
  cases jc:zEX p with
  | false=>rw [jc] at hh;cases hh
  | true =>
   rw [jc] at hh;simp only [cond_true,Option.some.injEq] at hh
   cases p<;>simp only [zEX] at jc<;>try (cases jc;done)
   case nn =>
    obtain ⟨_,a,n,h1⟩:=hp
    exact key a 0 n h1 hh.symm
   case sl xs =>
    cases xs with
    | nil=>cases jc
    | cons x0 xs =>
     obtain ⟨_,⟨h1,_⟩ | ⟨a,n,c,us,sz,h1,_⟩⟩:=hp
     ·cases h1
     ·exact key a _ n h1 hh.symm
   case own sz xs =>
    cases xs with
    | nil=>cases jc
    | cons x0 xs =>
     obtain ⟨h1,_⟩ | ⟨a,n,c,us,L',h0,_⟩:=hp
     ·cases h1
     ·cases h0
   case bor r pre z lo n =>
    cases n with
    | zero=>cases jc
    | succ n =>
     obtain ⟨b',c,h1,h2,h3⟩:=hA _ _ rfl hp.2 r pre z lo (n+1) rfl
     cases b' with
     | none=>have:=h3 rfl;omega
     | some a=>exact key a _ c h1 hh.symm
 ·cases td<;>first | exact absurd ⟨_,rfl⟩ jP | simp [eqV,ht] at h
theorem zUn {t:TypeId} {p q:PV} {b:Bool} {x y:Value} (h:eqV P t p q=some b) (hA:∀ a v,a.isWay=true→A a v→∀ r pre z lo n,a = .bor r pre z lo n→∃ b c,v = .slice b n c∧n≤c∧(b=none→c=0))
  (hp:Rep w Φ A p x []) (hq:Rep w Φ A q y []) (hni:∀ k n k' m,p = .int k n→q = .int k' m→False) (op:BinOp) (xo yo:Operand) :
  (eqGuard op t xo yo x y).run P w = .ok () w∧(Op.equal t x y).run P w = .ok b w∧zZH x=true:=by
 by_cases hn:∃ z,q = .nils z
 ·obtain ⟨z,rfl⟩:=hn
  have hy:y = .slice none 0 0:=hq.1
  subst hy
  obtain ⟨⟨a,n,c,rfl⟩,h2⟩:=zT9 h hA hp
  exact ⟨by rw [eqGuard_at_slice];rfl,h2,rfl⟩
 ·by_cases ha:∃ ys,q = .agg ys
  ·obtain ⟨ys,rfl⟩:=ha
   simp only [eqV] at h
   split at h
   ·rename_i xs
    cases hg:P.eqGuardType P.depth t with
    | true=>rw [hg] at h;cases h
    | false =>
     rw [hg] at h;simp only [cond_false] at h
     have:=zKO 20 t _ _ b x y 10000 (by decide) h hp hq
     obtain ⟨vs,rfl,_⟩:=hp
     obtain ⟨us,rfl,_⟩:=hq
     exact ⟨run_eqGuard_agg w op t xo yo vs us hg,this,rfl⟩
   ·cases h
  ·rw [zTH (fun z hz=>hn ⟨z,hz⟩) (fun ys hy=>ha ⟨ys,hy⟩)] at h
   cases vq:p.isAgg with
   | true=>rw [vq] at h;cases h
   | false =>
    rw [vq] at h;simp only [cond_false] at h
    have h2:=zKO 20 t _ _ b x y 10000 (by decide) h hp hq
    rcases zT3 h vq with ⟨k,n,k',m,h3,h4⟩ | ⟨b',h3⟩ | h3
    ·exact absurd h4 fun h4=>hni k n k' m h3 h4
    ·subst h3;have hx:x = .bool b':=hp.1
     subst hx;exact ⟨by rw [eqGuard_at_bool];rfl,h2,rfl⟩
    ·subst h3;have hx:x = .pointer none:=hp.1
     subst hx;exact ⟨by rw [eqGuard_at_pointer];rfl,h2,rfl⟩
theorem zUv:∀ a v,a.isWay=true→zA8 w rv E a v→∀ r pre z lo n,a = .bor r pre z lo n→∃ b c,v = .slice b n c∧n≤c∧(b=none→c=0):=by
 intro a v _ h r pre z lo n ha
 subst ha
 obtain ⟨_,⟨b,c,h1,h2,h3,_⟩,_⟩:=h
 exact ⟨b,c,h1,h2,h3⟩
theorem zS9 {op:BinOp} {t:TypeId} {k:IntKind} {x y:Int} {r:PV} (h:zTt op k x y=some r) (hs:op ≠ .shl∧op ≠ .shr):∃ v,(binOp op t (.int k x) (.int k y)).run P w = .ok v w∧Rep w Φ A r v []:=by
  cases op<;>simp only [zTt] at h<;>try (cases h;done)
  case quo => split at h
              · cases h
              · rename_i hy;cases h;exact ⟨.int k (k.wrap (x.tdiv y)),by simp [binOp,Op.intDiv,hy],rfl,rfl⟩
  case rem => split at h
              · cases h
              · rename_i hy;cases h;exact ⟨.int k (x.tmod y),by simp [binOp,Op.intDiv,hy],rfl,rfl⟩
  all_goals
    simp only [Option.some.injEq] at h
    subst h
    first
    | exact ⟨_,by simp [binOp,Op.intArith];rfl,rfl,rfl⟩
    | exact ⟨_,by simp [binOp,Op.intCmp];rfl,rfl,rfl⟩
    | exact ⟨_,by simp [binOp,Op.intBits];rfl,rfl,rfl⟩
theorem zXv (S:St w0 U Φ0 nt hv a w e Φ rv E L) (hb:zBs E) {d:Option Nat} (hd:∀ x,d=some x→x<nt) {op:BinOp} {t:TypeId} {x y:Operand} (hx:zAQ nt x=true) (hy:zAQ nt y=true) (h:(zTR P d op t x y).run o e=some e') :
  ∃ v,(do eqGuard op t x y (a.eval x) (a.eval y);binOp op t (a.eval x) (a.eval y)).run P w = .ok v w∧Fr w0 U Φ0 nt hv (a.put d v) w e':=by
 obtain ⟨p,h1,hp⟩:=zBv S hx h
 obtain ⟨q,h2,hq⟩:=zBv S hy h1
 obtain ⟨r,h3,h4⟩:=zBG h2
 have fin:∀ v,(eqGuard op t x y (a.eval x) (a.eval y)).run P w = .ok () w→(binOp op t (a.eval x) (a.eval y)).run P w = .ok v w→Rep w Φ (zA8 w rv E) r v []→∃ v,(do eqGuard op t x y (a.eval x) (a.eval y);binOp op t (a.eval x) (a.eval y)).run P w = .ok v w∧Fr w0 U Φ0 nt hv (a.put d v) w e':=by
  intro v g1 g2 g3
  refine ⟨v,?_,zAw S hb hd h4 g3⟩
  simp only [Sem.run_bind,g1,Result.andThen_ok];exact g2
 simp only [zHt] at h3
 split at h3
 ·rename_i k n _ m
  split at h3
  ·cases h3
  ·rename_i hm;cases h3
   refine fin (.int k (k.wrap (n*2 ^ (min m.toNat k.bits)))) ?_ ?_ ⟨rfl,rfl⟩
   ·rw [hp.1,eqGuard_at_int];rfl
   ·rw [hp.1,hq.1];simp [binOp,Op.shift,hm]
 ·rename_i k n _ m
  split at h3
  ·cases h3
  ·rename_i hm;cases h3
   refine fin (.int k (n.fdiv (2 ^ (min m.toNat k.bits)))) ?_ ?_ ⟨rfl,rfl⟩
   ·rw [hp.1,eqGuard_at_int];rfl
   ·rw [hp.1,hq.1];simp [binOp,Op.shift,hm]
 ·rename_i k n k' m hns1 hns2
  split at h3
  ·rename_i hk;subst hk
   obtain ⟨v,g1,g2⟩:=zS9 (P:=P) (w:=w) (Φ:=Φ) (A:=zA8 w rv E) (t:=t) h3 ⟨fun hc=>hns1 hc,fun hc=>hns2 hc⟩
   refine fin v ?_ ?_ g2
   ·rw [hp.1,eqGuard_at_int];rfl
   ·rw [hp.1,hq.1];exact g1
  ·cases h3
 ·rename_i w6
  simp only [Option.map_eq_some_iff] at h3
  obtain ⟨b,h5,rfl⟩:=h3
  obtain ⟨g1,g2,g3⟩:=zUn h5 zUv hp hq (fun k n k' m h1 h2=>w6 k n k' m h1 h2) .eql x y
  exact fin (.bool b) g1 (zSk g3 g2).1 ⟨rfl,rfl⟩
 ·rename_i w6
  simp only [Option.map_eq_some_iff] at h3
  obtain ⟨b,h5,rfl⟩:=h3
  obtain ⟨g1,g2,g3⟩:=zUn h5 zUv hp hq (fun k n k' m h1 h2=>w6 k n k' m h1 h2) .neq x y
  exact fin (.bool !b) g1 (zSk g3 g2).2 ⟨rfl,rfl⟩
 ·cases h3
theorem zTs (S:St w0 U Φ0 nt hv a w e Φ rv E L) (hb:zBs E) {d:Option Nat} (hd:∀ x,d=some x→x<nt) {t:TypeId} {x:Operand} {i:Nat} (hx:zAQ nt x=true) (h:(zQP P d t x i).run o e=some e') :
  ∃ v,(Instr.field t (a.eval x) i).run P w = .ok v w∧Fr w0 U Φ0 nt hv (a.put d v) w e':=by
 obtain ⟨p,h1,hp⟩:=zBv S hx h
 obtain ⟨f,h2,h3⟩:=zBG h1
 obtain ⟨sh,h4,h5⟩:=zBG h3
 obtain ⟨q,h6,h7⟩:=zBG h5
 have vq:∃ cs,p = .agg cs:=by cases p<;>first | exact ⟨_,rfl⟩ | (cases sh<;>cases h6)
 obtain ⟨cs,rfl⟩:=vq
 obtain ⟨vs,hv,hr⟩:=hp
 obtain ⟨u,h8,h9⟩:=zFQ (P:=P) h4 (p := .agg cs) ⟨vs,rfl,hr⟩ h6
 refine ⟨u,?_,zAw S hb hd h7 h9⟩
 simp only [zLp] at h2
 cases ht:P.underlying t with
 | none=>rw [ht] at h2;cases h2
 | some td =>
  rw [ht] at h2
  cases td<;>simp only at h2<;>try (cases h2;done)
  rw [hv]
  simp only [Instr.field,Sem.run_bind,run_underlying ht,Result.andThen_ok,h2,asAgg,Sem.run_pure]
  exact h8
theorem zTD (S:St w0 U Φ0 nt hv a w e Φ rv E L) (hb:zBs E) {d:Option Nat} (hd:∀ x,d=some x→x<nt) {t:TypeId} {x i:Operand} (hx:zAQ nt x=true) (hi:zAQ nt i=true) (h:(zK4 P d t x i).run o e=some e') :
  ∃ v,(Instr.index t (a.eval x) (a.eval i)).run P w = .ok v w∧Fr w0 U Φ0 nt hv (a.put d v) w e':=by
 obtain ⟨p,h1,hp⟩:=zBv S hx h
 obtain ⟨pi,h2,hpi⟩:=zBv S hi h1
 obtain ⟨ik,n,rfl,hn,h3⟩:=zD8 h2
 split at h3
 ·rename_i len el ht
  split at h3
  ·rename_i s sh hs j8
   obtain ⟨yK,h4⟩:=zDk h3
   obtain ⟨q,h5,h6⟩:=zBG h4
   have vq:∃ cs,p = .agg cs:=by cases p<;>first | exact ⟨_,rfl⟩ | (cases sh<;>cases h5)
   obtain ⟨cs,rfl⟩:=vq
   obtain ⟨vs,hv,hr⟩:=hp
   obtain ⟨u,h8,h9⟩:=zFQ (P:=P) j8 (p := .agg cs) ⟨vs,rfl,hr⟩ h5
   refine ⟨u,?_,zAw S hb hd h6 h9⟩
   obtain ⟨ti,jM,_⟩:=zFc (w:=w) j8
   have yD:ti.size=s:=by simp only [szT,jM,Option.map_some,Option.some.injEq] at hs;exact hs
   subst yD
   rw [hv,hpi.1]
   simp only [Instr.index,Sem.run_bind,asIntOf,Sem.run_pure,Result.andThen_ok,run_underlying ht,zAY jM]
   rw [if_pos ⟨hn,by omega⟩]
   simp only [Sem.run_bind,zAY jM,Result.andThen_ok]
   exact h8
  ·cases h3
 ·cases h3
theorem zR2 {p q:PV} {off:Nat} {sh:Option Nat} {v:Value} (h:zCo p off sh=some q) (hp:Rep w Φ (zA8 w rv E) p v []) :
  ∃ b,v = .pointer (some b)∧b.spot=none∧sh≠some 0∧Rep w Φ (zA8 w rv E) q (.pointer (some (zAt b off))) []:=by
 have h0:sh≠some 0:=by intro hc;subst hc;cases h
 replace h:zN9 p off sh=some q:=by
  cases sh with
  | none=>exact h
  | some n=>cases n with
   | zero=>exact absurd rfl h0
   | succ n=>exact h
 cases p<;>simp only [zN9] at h<;>try (cases h;done)
 case ref q0 =>
  obtain ⟨_,b,c,u,rfl,y4,hΦ,yC,y6,⟨yD,jb⟩,hr⟩:=hp
  refine ⟨b,rfl,y4,h0,?_⟩
  cases hs:sub q0 off sh with
  | none=>rw [hs] at h;cases h
  | some x =>
   rw [hs] at h;simp only at h
   have qY:∀ n,off+n≤q0.cells.length→seg c (b.off+off) n=(u.cells.toList.drop off).take n:=by
    intro n hn
    rw [← y6]
    apply List.ext_getElem?
    intro k
    simp only [seg,List.getElem?_take,List.getElem?_drop]
    by_cases hk:k<n
    ·rw [if_pos hk,if_pos hk,if_pos (by omega),Nat.add_assoc]
    ·rw [if_neg hk,if_neg hk]
   cases q0<;>try (cases sh<;>cases hs;done)
   rename_i cs
   obtain ⟨vs,rfl,hr⟩:=hr
   have hZ:=hr.length
   cases sh with
   | some n =>
    simp only [sub] at hs
    split at hs
    ·rename_i yN
     cases hs
     simp only [Option.isSome_some,Bool.true_or,cond_true,Option.some.injEq] at h
     subst h
     refine ⟨rfl,zAt b off,c,.agg ((vs.toList.drop off).take n).toArray,rfl,rfl,hΦ,yC,?_,⟨?_,rfl⟩,_,rfl,by simpa using zB0 hr off n⟩
     ·simp only [zAt,PV.cells,Value.cells]
      rw [show ((cs.drop off).take n).length=n by simp;omega]
      exact qY n yN
     ·simp only [Value.cells,PV.cells];simp at hZ ⊢;omega
    ·cases hs
   | none =>
    simp only [sub] at hs
    obtain ⟨u2,La,Li,Lb,hu,hL,kh,_,_⟩:=hr.split hs
    have:Li=[]:=by
     have:=congrArg List.length hL;simp at this
     exact List.eq_nil_of_length_eq_zero (by omega)
    subst this
    simp only [Option.isSome_none,Bool.false_or] at h
    cases j9:x.oneCell with
    | false=>rw [j9] at h;cases h
    | true =>
     rw [j9] at h;simp only [cond_true,Option.some.injEq] at h;subst h
     have h1:=zBN (zCb (fun a v hw h=>zC8 hw h) kh j9)
     have h2:=zBp j9
     have yK:off<cs.length:=(List.getElem?_eq_some_iff.1 hs).1
     refine ⟨rfl,zAt b off,c,u2,rfl,rfl,hΦ,yC,?_,⟨by rw [h1.1,h2.1];rfl,by rw [h1.2,h2.2]⟩,kh⟩
     rw [h1.1,h2.1]
     have:=qY 1 (by simp only [PV.cells];omega)
     simp only [zAt,List.length_singleton]
     rw [this]
     simp only [Value.cells]
     have wu:off<vs.toList.length:=by omega
     rw [List.drop_eq_getElem_cons wu]
     rw [List.getElem?_eq_getElem wu] at hu
     simp only [Option.some.injEq] at hu
     simp [← hu]
 case addr r pre i c s =>
  cases s with
  | none=>cases h
  | some s =>
   simp only [Option.some.injEq] at h;subst h
   obtain ⟨_,hg,b,rfl,y4,hn⟩:=hp
   refine ⟨b,rfl,y4,h0,rfl,hg,zAt b off,rfl,rfl,fun nv np hf a' ha=>?_⟩
   have key:∃ a0,zBa nv np i c=some a0∧a'=zAt a0 off:=by
    cases np<;>try (simp [zBa] at ha;done)
    ·cases nv with
     | slice x _ _ =>
      cases x with
      | none=>cases ha
      | some x=>simp only [zBa] at ha ⊢;cases ha;exact ⟨_,rfl,by simp [zAt,Nat.add_assoc]⟩
     | pointer x=>cases x<;>cases ha
     | _=>cases ha
    ·cases nv with
     | pointer x =>
      cases x with
      | none=>cases i<;>cases ha
      | some x=>cases i<;>simp only [zBa] at ha ⊢ <;> cases ha;exact ⟨_,rfl,by simp [zAt,Nat.add_assoc]⟩
     | slice x _ _=>cases x<;>cases ha
     | _=>cases ha
   obtain ⟨a0,h1,h2⟩:=key
   rw [h2,hn nv np hf a0 h1]
theorem zMd (S:St w0 U Φ0 nt hv a w e Φ rv E L) (hb:zBs E) {d:Option Nat} (hd:∀ x,d=some x→x<nt) {t:TypeId} {x:Operand} {i:Nat} (hx:zAQ nt x=true) (h:(zJJ P d t x i).run o e=some e') :
  ∃ v,(Instr.fieldAt t (a.eval x) i).run P w = .ok v w∧Fr w0 U Φ0 nt hv (a.put d v) w e':=by
 obtain ⟨p,h1,hp⟩:=zBv S hx h
 obtain ⟨f,h2,h3⟩:=zBG h1
 obtain ⟨sh,h4,h5⟩:=zBG h3
 obtain ⟨q,h6,h7⟩:=zBG h5
 obtain ⟨b,h8,h9,jS,vH⟩:=zR2 h6 hp
 obtain ⟨ti,jM,_,ui,uU⟩:=zFc (w:=w) h4
 refine ⟨_,?_,zAw S hb hd h7 vH⟩
 have yD:ti.size≠0:=by
  cases sh with
  | none=>rw [uU rfl];decide
  | some n=>rw [← ui n rfl];intro hc;subst hc;exact jS rfl
 simp only [zLp] at h2
 cases ht:P.underlying t with
 | none=>rw [ht] at h2;cases h2
 | some td =>
  rw [ht] at h2
  cases td<;>simp only at h2<;>try (cases h2;done)
  rw [h8]
  simp only [Instr.fieldAt,Sem.run_bind,run_underlying ht,Result.andThen_ok,h2,Instr.sureAddr,Sem.run_pure,fieldPlace,zAY jM,yD,if_false,Sem.run_ite]
  rw [zBZ h9]
theorem zCq {t:TypeId} {n:Nat} (h:szT P t=some n):∃ i,P.info? t=some i∧i.size=n:=by
 simp only [szT] at h
 cases hi:P.info? t with
 | none=>rw [hi] at h;cases h
 | some i=>rw [hi] at h;simp only [Option.map_some,Option.some.injEq] at h;exact ⟨i,rfl,h⟩
theorem zTA {el:TypeId} {p q:PV} {i:Nat} {v:Value} {d:Option Nat} {k:PV→PM} (h:(zQv P d el p i).run o e=some e') (hp:Rep w Φ (zA8 w rv E) p v []) :
  ∃ ti b n c q,P.info? el=some ti∧v = .slice (some b) n c∧i<n∧(put d q).run o e=some e'∧Rep w Φ (zA8 w rv E) q (.pointer (some (b.add (i*ti.size)))) []:=by
 cases p<;>simp only [zQv] at h<;>try (cases h;done)
 case sl xs =>
  obtain ⟨x,hx,h1⟩:=zBG h
  obtain ⟨hs,h2⟩:=zDk h1
  obtain ⟨ti,jM,yD⟩:=zCq hs
  obtain ⟨_,⟨h3,_⟩ | ⟨b,n,c,us,sz,rfl,y4,yN,hΦ,yC,jZ,⟨kb,wk⟩,y6,hr⟩⟩:=hp
  ·subst h3;simp at hx
  ·have yK:i<xs.length:=(List.getElem?_eq_some_iff.1 hx).1
   obtain ⟨u,La,Li,Lb,hu,hL,kh,_,_⟩:=hr.split hx
   have kj:Li=[]:=by
    have:=congrArg List.length hL;simp at this
    exact List.eq_nil_of_length_eq_zero (by omega)
   subst kj
   have vZ:=jZ x (List.mem_of_getElem? hx)
   have jB:=kb u (List.mem_of_getElem? hu)
   have hg:zCi u=x.isAgg:=by
    have h1:(us.map zCi)[i]? = some (zCi u):=by simp [hu]
    have h2:(xs.map PV.isAgg)[i]? = some x.isAgg:=by simp [hx]
    rw [wk] at h1;rw [h1] at h2;simpa using h2
   refine ⟨ti,b,xs.length,n,.ref x,jM,rfl,yK,h2,rfl,zAt b (i*sz),c,u,?_,rfl,hΦ,yC,?_,⟨by omega,hg⟩,kh.mono zDc.refl (fun _ _ _ h=>h.elim) (by simp)⟩
   ·rw [zBZ y4,yD,vZ]
   ·rw [vZ]
    refine zFt (by simpa using jB) fun k y hy=>?_
    have hf:=zDA kb hu hy
    rw [← y6] at hf
    have:=zCR hf
    simp only [zAt,Nat.add_assoc];exact this
 case bor r pre z lo n =>
  cases j8:shT P el with
  | none=>rw [j8] at h;cases h
  | some sh =>
   rw [j8] at h;simp only at h
   obtain ⟨⟨yK,hs⟩,h2⟩:=zDk h
   obtain ⟨ti,jM,yD⟩:=zCq hs
   obtain ⟨_,hg,⟨x,cap,rfl,yR,yV,y8⟩,hn⟩:=hp
   cases x with
   | none=>have:=yV rfl;omega
   | some b =>
    refine ⟨ti,b,n,cap,_,jM,rfl,yK,h2,rfl,hg,b.add (i*ti.size),rfl,by rw [zBZ (y8 b rfl)];rfl,fun nv np hf a' ha=>?_⟩
    have hh:np.heavy0=true:=by cases np<;>first | rfl | (simp [zBa] at ha;done)
    obtain ⟨sz,xs,h3,h4,h5⟩:=hn nv np hf hh
    subst h3;subst h4
    cases nv<;>simp only [zBK] at h5
    rename_i y l c
    cases y with
    | none=>cases ha
    | some y =>
     simp only [zBK,Value.slice.injEq,Option.some.injEq] at h5
     simp only [zBa,Option.some.injEq] at ha
     rw [← ha,zBZ (y8 b rfl),h5.1.1,yD]
     simp [zAt,Nat.add_mul,Nat.add_assoc]
 case bsl r pre j c0 s ag n =>
  obtain ⟨⟨yK,hs⟩,h2⟩:=zDk h
  obtain ⟨ti,jM,yD⟩:=zCq hs
  obtain ⟨_,hg,b,cap,rfl,yR,y8,hn⟩:=hp
  refine ⟨ti,b,n,cap,_,jM,rfl,yK,h2,rfl,hg,b.add (i*ti.size),rfl,by rw [zBZ y8];rfl,fun nv np hf a' ha=>?_⟩
  have key:∃ a0,zBa nv np j c0=some a0∧a'=zAt a0 (i*s):=by
   cases np<;>try (simp [zBa] at ha;done)
   ·cases nv with
    | slice x _ _ =>
     cases x with
     | none=>cases ha
     | some x=>simp only [zBa] at ha ⊢;cases ha;exact ⟨_,rfl,by simp [zAt,Nat.add_assoc]⟩
    | pointer x=>cases x<;>cases ha
    | _=>cases ha
   ·cases nv with
    | pointer x =>
     cases x with
     | none=>cases j<;>cases ha
     | some x=>cases j<;>simp only [zBa] at ha ⊢ <;> cases ha;exact ⟨_,rfl,by simp [zAt,Nat.add_assoc]⟩
    | slice x _ _=>cases x<;>cases ha
    | _=>cases ha
  obtain ⟨a0,h3,h4⟩:=key
  rw [h4,zBZ y8,hn nv np hf a0 h3,yD]
theorem zMp (S:St w0 U Φ0 nt hv a w e Φ rv E L) (hb:zBs E) {d:Option Nat} (hd:∀ x,d=some x→x<nt) {t:TypeId} {x i:Operand} (hx:zAQ nt x=true) (hi:zAQ nt i=true) (h:(zE1 P d t x i).run o e=some e') :
  ∃ v,(Instr.indexAt t (a.eval x) (a.eval i)).run P w = .ok v w∧Fr w0 U Φ0 nt hv (a.put d v) w e':=by
 obtain ⟨p,h1,hp⟩:=zBv S hx h
 obtain ⟨pi,h2,hpi⟩:=zBv S hi h1
 obtain ⟨ik,n,rfl,hn,h3⟩:=zD8 h2
 rw [hpi.1]
 split at h3
 ·rename_i len el ht
  simp only [zOB] at h3
  split at h3
  ·rename_i s sh hs j8
   obtain ⟨yK,h4⟩:=zDk h3
   obtain ⟨q,h5,h6⟩:=zBG h4
   obtain ⟨b,h7,h8,h9,jS⟩:=zR2 h5 hp
   obtain ⟨ti,jM,yD⟩:=zCq hs
   refine ⟨_,?_,zAw S hb hd h6 jS⟩
   rw [h7]
   simp only [Instr.indexAt,Sem.run_bind,asIntOf,Sem.run_pure,Result.andThen_ok,run_underlying ht,Instr.sureAddr]
   rw [if_pos ⟨hn,by omega⟩]
   simp only [Sem.run_bind,zAY jM,Result.andThen_ok,Sem.run_pure]
   rw [zBZ h8,yD]
  ·cases h3
 ·rename_i el ht
  obtain ⟨ti,b,m,c,q,jM,yE,yK,h4,h5⟩:=zTA (q := .bad) (k:=fun _ => .ok) h3 hp
  refine ⟨_,?_,zAw S hb hd h4 h5⟩
  rw [yE]
  simp only [Instr.indexAt,Sem.run_bind,asIntOf,Sem.run_pure,Result.andThen_ok,run_underlying ht]
  rw [if_pos ⟨hn,by omega⟩]
  simp only [Sem.run_bind,zAY jM,Result.andThen_ok,Sem.run_pure]
 ·cases h3
theorem zT1 {p:PV} {n:Nat} {v:Value} (h:lenOf p=some n) (hp:Rep w Φ (zA8 w rv E) p v []):∃ b c,v = .slice b n c:=by
 cases p<;>simp only [lenOf] at h<;>try (cases h;done)
 case nils=>cases h;exact ⟨_,_,hp.1⟩
 case nn=>cases h;obtain ⟨_,b,c,h1⟩:=hp;exact ⟨_,_,h1⟩
 case sl xs =>
  cases h
  obtain ⟨_,⟨rfl,b,c,rfl,_⟩ | ⟨b,c,_,_,_,rfl,_⟩⟩:=hp
  ·exact ⟨_,_,rfl⟩
  ·exact ⟨_,_,rfl⟩
 case bor=>cases h;obtain ⟨_,_,⟨b,c,rfl,_⟩,_⟩:=hp;exact ⟨_,_,rfl⟩
 case bsl=>cases h;obtain ⟨_,_,b,c,rfl,_⟩:=hp;exact ⟨_,_,rfl⟩
theorem zWP (S:St w0 U Φ0 nt hv a w e Φ rv E L) (hb:zBs E) {d:Option Nat} (hd:∀ x,d=some x→x<nt) {ty:TypeId} {ts:Array TypeId} {xs:Array Operand} (hx:∀ x∈xs.toList,zAQ nt x=true)
  (h:(zBu P d .len ts.toList xs.toList).run o e=some e') :
  ∃ v,(Builtin.len_ ts ty (xs.map a.eval)).run P w = .ok v w∧Fr w0 U Φ0 nt hv (a.put d v) w e':=by
 obtain ⟨ts⟩:=ts;obtain ⟨xs⟩:=xs
 simp only at h hx
 rcases xs with _ | ⟨x,_ | ⟨y,xs⟩⟩<;>rcases ts with _ | ⟨t,ts⟩<;>try (cases h;done)
 obtain ⟨p,h1,hp⟩:=zBv S (hx x (by simp)) h
 split at h1
 ·rename_i n el ht
  refine ⟨_,?_,zAw S hb hd h1 ⟨rfl,rfl⟩⟩
  simp only [Builtin.len_,List.map_toArray,List.map_cons,List.map_nil,List.getElem?_toArray,List.getElem?_cons_zero,Sem.run_bind,run_underlying ht,Result.andThen_ok]
  cases a.eval x<;>rfl
 ·rename_i el ht
  split at h1
  ·rename_i n hn
   obtain ⟨b,c,yE⟩:=zT1 hn hp
   refine ⟨_,?_,zAw S hb hd h1 ⟨rfl,rfl⟩⟩
   simp only [Builtin.len_,List.map_toArray,List.map_cons,List.map_nil,List.getElem?_toArray,List.getElem?_cons_zero,Sem.run_bind,run_underlying ht,Result.andThen_ok,yE]
   rfl
  ·cases h1
 ·cases h1
theorem zQ1 {k:IntKind}:∀ (ps:List PV) (vs:List Value) (m:Int) (r:Option Int),zA2 w Φ A ps vs [] →
  (ps.foldl (fun m p=>match m,p with
   | some m,.int k' b=>if k=k' then some (if b>m then b else m) else none
   | _,_=>none) (some m))=r→∀ z,r=some z→(vs.foldlM Builtin.max2 (.int k m)).run P w = .ok (.int k z) w
 | [],vs,m,r,hr,h,z,hz=>by rw [hr.1];simp only [List.foldl_nil] at h;rw [← h] at hz;cases hz;rfl
 | p :: ps,vs,m,r,hr,h,z,hz=>by
  obtain ⟨v,vs',L1,L2,rfl,hL,h1,h2⟩:=hr
  obtain ⟨rfl,rfl⟩:L1=[]∧L2=[]:=by simpa using hL.symm
  have dead:∀ qs:List PV,qs.foldl (fun m p=>match m,p with
   | some m,.int k' b=>if k=k' then some (if b>m then b else m) else none
   | _,_=>none) (none:Option Int)=none:=by
   intro qs;induction qs with
   | nil=>rfl
   | cons q qs ih=>simp only [List.foldl_cons];exact ih
  simp only [List.foldl_cons] at h
  cases p<;>try (simp only at h;rw [dead] at h;rw [← h] at hz;cases hz;done)
  rename_i k' b
  simp only at h
  split at h
  ·rename_i hk;subst hk
   rw [h1.1]
   simp only [List.foldlM_cons,Builtin.max2,Sem.run_bind,Sem.run_pure,Result.andThen_ok]
   exact zQ1 ps vs' _ r h2 h z hz
  ·rw [dead] at h;rw [← h] at hz;cases hz
theorem zSv {k:IntKind}:∀ (ps:List PV) (vs:List Value) (m:Int) (r:Option Int),zA2 w Φ A ps vs [] →
  (ps.foldl (fun m p=>match m,p with
   | some m,.int k' b=>if k=k' then some (if b<m then b else m) else none
   | _,_=>none) (some m))=r→∀ z,r=some z→(vs.foldlM Builtin.min2 (.int k m)).run P w = .ok (.int k z) w
 | [],vs,m,r,hr,h,z,hz=>by rw [hr.1];simp only [List.foldl_nil] at h;rw [← h] at hz;cases hz;rfl
 | p :: ps,vs,m,r,hr,h,z,hz=>by
  obtain ⟨v,vs',L1,L2,rfl,hL,h1,h2⟩:=hr
  obtain ⟨rfl,rfl⟩:L1=[]∧L2=[]:=by simpa using hL.symm
  have dead:∀ qs:List PV,qs.foldl (fun m p=>match m,p with
   | some m,.int k' b=>if k=k' then some (if b<m then b else m) else none
   | _,_=>none) (none:Option Int)=none:=by
   intro qs;induction qs with
   | nil=>rfl
   | cons q qs ih=>simp only [List.foldl_cons];exact ih
  simp only [List.foldl_cons] at h
  cases p<;>try (simp only at h;rw [dead] at h;rw [← h] at hz;cases hz;done)
  rename_i k' b
  simp only at h
  split at h
  ·rename_i hk;subst hk
   rw [h1.1]
   simp only [List.foldlM_cons,Builtin.min2,Sem.run_bind,Sem.run_pure,Result.andThen_ok]
   exact zSv ps vs' _ r h2 h z hz
  ·rw [dead] at h;rw [← h] at hz;cases hz
theorem zXi (S:St w0 U Φ0 nt hv a w e Φ rv E L) (hb:zBs E) {d:Option Nat} (hd:∀ x,d=some x→x<nt) {ty:TypeId} {ts:Array TypeId} {xs:Array Operand} (hx:∀ x∈xs.toList,zAQ nt x=true)
  (h:(zBu P d .max ts.toList xs.toList).run o e=some e'):∃ v,(Builtin.max_ ts ty (xs.map a.eval)).run P w = .ok v w∧Fr w0 U Φ0 nt hv (a.put d v) w e':=by
 simp only [zBu] at h
 obtain ⟨ps,h1,hp⟩:=zHz S hx h
 cases hm:zXj ps with
 | none=>rw [hm] at h1;cases h1
 | some r =>
  rw [hm] at h1;simp only at h1
  rcases ps with _ | ⟨p,ps⟩<;>simp only [zXj] at hm<;>try (cases hm;done)
  cases p<;>simp only at hm<;>try (cases hm;done)
  rename_i k x0
  simp only [Option.map_eq_some_iff] at hm
  obtain ⟨z,hz,rfl⟩:=hm
  obtain ⟨v,vs',L1,L2,ye,hL,g1,g2⟩:=hp
  obtain ⟨rfl,rfl⟩:L1=[]∧L2=[]:=by simpa using hL.symm
  refine ⟨.int k z,?_,zAw S hb hd h1 ⟨rfl,rfl⟩⟩
  simp only [Builtin.max_,Array.toList_map,ye]
  rw [g1.1]
  exact zQ1 ps vs' x0 _ g2 hz z rfl
theorem zWt (S:St w0 U Φ0 nt hv a w e Φ rv E L) (hb:zBs E) {d:Option Nat} (hd:∀ x,d=some x→x<nt) {ty:TypeId} {ts:Array TypeId} {xs:Array Operand} (hx:∀ x∈xs.toList,zAQ nt x=true)
  (h:(zBu P d .min ts.toList xs.toList).run o e=some e'):∃ v,(Builtin.min_ ts ty (xs.map a.eval)).run P w = .ok v w∧Fr w0 U Φ0 nt hv (a.put d v) w e':=by
 simp only [zBu] at h
 obtain ⟨ps,h1,hp⟩:=zHz S hx h
 cases hm:zXl ps with
 | none=>rw [hm] at h1;cases h1
 | some r =>
  rw [hm] at h1;simp only at h1
  rcases ps with _ | ⟨p,ps⟩<;>simp only [zXl] at hm<;>try (cases hm;done)
  cases p<;>simp only at hm<;>try (cases hm;done)
  rename_i k x0
  simp only [Option.map_eq_some_iff] at hm
  obtain ⟨z,hz,rfl⟩:=hm
  obtain ⟨v,vs',L1,L2,ye,hL,g1,g2⟩:=hp
  obtain ⟨rfl,rfl⟩:L1=[]∧L2=[]:=by simpa using hL.symm
  refine ⟨.int k z,?_,zAw S hb hd h1 ⟨rfl,rfl⟩⟩
  simp only [Builtin.min_,Array.toList_map,ye]
  rw [g1.1]
  exact zSv ps vs' x0 _ g2 hz z rfl
end
end Go.Eng
namespace Go.Eng
open Go
section
variable {P:Program} {w0 w w':World} {U Φ0 Φ:Nat→Prop} {nt:Nat} {hv:Hid} {a:Act} {e e':Env} {rv rv':Nat→Value} {E E':Nat→PV} {L L':Nat→List Nat} {o:zAF} {A:Al}
def zGt (w:World) (c:Array Value) (t:TypeId):World:={w with heap:=w.heap.push (.cells c t)}
theorem zE8 (t:TypeId) (c:Array Value):(newRow t c).run P w = .ok ⟨w.heap.size,0,none⟩ (zGt w c t):=by
 simp [newRow,zGt]
theorem zHl {c:Array Value} {t:TypeId} {b:Nat} (h:b<w.heap.size):(zGt w c t).heap[b]? = w.heap[b]?:=by
 simp only [zGt,Array.getElem?_push];rw [if_neg (by omega)]
theorem zM8 {c:Array Value} {t:TypeId}:zEl (zGt w c t) w.heap.size c:=⟨t,by show (w.heap.push (.cells c t))[w.heap.size]? = _;simp⟩
theorem zFY {c:Array Value} {t:TypeId}:(zGt w c t).heap.size=w.heap.size+1:=by simp [zGt]
theorem zMV {p:PV} {v:Value} (h:zJ5 p v=true):Rep w Φ A p v []∧p.oneCell=true∧v.oneCell'=true:=by
 cases p<;>cases v<;>simp only [zJ5] at h<;>try (cases h;done)
 case int=>simp only [Bool.and_eq_true,decide_eq_true_eq] at h;obtain ⟨rfl,rfl⟩:=h;exact ⟨⟨rfl,rfl⟩,rfl,rfl⟩
 case bool=>simp only [beq_iff_eq] at h;subst h;exact ⟨⟨rfl,rfl⟩,rfl,rfl⟩
 case nilp.pointer a=>cases a<;>simp only [zJ5] at h<;>first | (cases h;done) | exact ⟨⟨rfl,rfl⟩,rfl,rfl⟩
 case nilf=>exact ⟨⟨rfl,rfl⟩,rfl,rfl⟩
 case nilm.map a=>cases a<;>simp only [zJ5] at h<;>first | (cases h;done) | exact ⟨⟨rfl,rfl⟩,rfl,rfl⟩
 case own.slice sz xs a n c =>
  cases xs with
  | cons _ _=>simp only [zJ5] at h;cases h
  | nil =>
   cases a with
   | some _=>simp only [zJ5] at h;cases h
   | none=>cases n<;>cases c<;>simp only [zJ5] at h<;>first | (cases h;done) | exact ⟨.inl ⟨rfl,rfl,rfl⟩,rfl,rfl⟩
theorem zL8:∀ {ps:List PV} {vs:List Value},zTa ps vs=true→zA2 w Φ A ps vs []∧(∀ v∈vs,v.oneCell'=true)∧∀ p∈ps,p.oneCell=true
 | [],[],_=>⟨⟨rfl,rfl⟩,by simp,by simp⟩
 | [],_::_,h=>by cases h
 | _::_,[],h=>by cases h
 | p::ps,v::vs,h=>by
  simp only [zTa,Bool.and_eq_true] at h
  obtain ⟨h1,h2,h3⟩:=zMV (w:=w) (Φ:=Φ) (A:=A) h.1
  obtain ⟨h4,h5,h6⟩:=zL8 h.2
  exact ⟨⟨v,vs,[],[],rfl,rfl,h1,h4⟩,fun x hx=>(List.mem_cons.1 hx).elim (fun e=>e▸h3) (h5 x),fun x hx=>(List.mem_cons.1 hx).elim (fun e=>e▸h2) (h6 x)⟩
theorem zCj {p:PV} {v:Value} (h:zM2 p v=true):Rep w Φ A p v []∧v.cells.size=p.cells.length∧zCi v=p.isAgg∧(∀ u∈v.cells.toList,u.oneCell'=true)∧∀ q∈p.cells,q.oneCell=true:=by
 by_cases hp:∃ cs,p = .agg cs
 ·obtain ⟨cs,rfl⟩:=hp
  cases v<;>simp only [zM2] at h<;>try (cases h;done)
  rename_i vs
  obtain ⟨h1,h2,h3⟩:=zL8 (w:=w) (Φ:=Φ) (A:=A) h
  have:=h1.length
  exact ⟨⟨vs,rfl,h1⟩,by simpa [Value.cells,PV.cells] using this,rfl,h2,h3⟩
 ·have h:zJ5 p v=true:=by
   rw [← h];cases p<;>first | rfl | exact absurd ⟨_,rfl⟩ hp
  obtain ⟨h1,h2,h3⟩:=zMV (w:=w) (Φ:=Φ) (A:=A) h
  have h4:=zBN h3
  have h5:=zBp h2
  exact ⟨h1,by rw [h4.1,h5.1];rfl,by rw [h4.2,h5.2],by rw [h4.1];simpa using h3,by rw [h5.1];simpa using h2⟩
theorem zDJ {t:TypeId} {z:PV} (h:zCK P t=some z):∃ i v,P.info? t=some i∧i.zero=some v∧(∀ w:World,(zeroValue t).run P w = .ok v w)∧zM2 z v=true:=by
 simp only [zCK] at h
 split at h
 ·rename_i cs sh v _ _ hv
  cases hi:P.info? t with
  | none=>rw [hi] at hv;cases hv
  | some i =>
   rw [hi] at hv;simp only [Option.bind_some] at hv
   cases hz:zM2 (zNt sh cs) v with
   | false=>rw [hz] at h;cases h
   | true =>
    rw [hz] at h;simp only [cond_true,Option.some.injEq] at h
    subst h
    refine ⟨i,v,rfl,hv,fun w=>?_,hz⟩
    simp [zeroValue,typeInfo,hi,hv]
 ·cases h
theorem St.boxed (S:St w0 U Φ0 nt hv a w e Φ rv E L) {g0 g:Nat} (hg0:zAb≤g0) (hg:zAb≤g) (hI:g≠g0) (uV:E g = .bad) {v:Value} (yE:rv g0=v) (t:TypeId) (yD:v.cells.size=(E g0).cells.length∧zCi v=(E g0).isAgg) :
  ∃ rv1 E1 L1,St w0 U Φ0 nt hv a (zGt w v.cells t) e Φ rv1 E1 L1∧E1 g = .box (E g0)∧rv1 g = .pointer (some ⟨w.heap.size,0,none⟩)∧E1 g0 = .bad∧∀ s,zAb≤s→s≠g→s≠g0→E1 s=E s:=by
 have hX:=S.conf.rep g0
 rw [yE] at hX
 have hold:∀ b∈L g0,(zGt w v.cells t).heap[b]? = w.heap[b]?:=fun b hb=>zHl (S.conf.own g0 b hb).1
 have hΦ:zDc w (zGt w v.cells t) Φ Φ:=fun b hb=>⟨hb,zHl (S.conf.frz b hb).1⟩
 have hc:=S.conf.make (w':=zGt w v.cells t) (fun s=>s==g0) (fun s hs=>by have:=eq_of_beq hs;omega) hg (p := .box (E g0)) (v := .pointer (some ⟨w.heap.size,0,none⟩)) (Lp:=w.heap.size::L g0)
  (fun A hA=>⟨_,v.cells,v,L g0,rfl,rfl,rfl,zM8,by show (v.cells.toList.drop 0).take _=_;rw [← yD.1];exact List.take_of_length_le (by simp),yD,hX.mono hΦ hA hold⟩)
  (List.nodup_cons.2 ⟨fun hm=>absurd (S.conf.own g0 _ hm).1 (Nat.lt_irrefl _),S.conf.nodup g0⟩)
  (fun b hb=>by
   rcases List.mem_cons.1 hb with rfl | hb
   ·exact .inr ⟨Nat.le_refl _,by rw [zFY];omega⟩
   ·exact .inl ⟨g0,hb,by simp⟩)
  (by rw [zFY];omega) (fun b hb _=>zHl hb) ⟨rfl,rfl,rfl⟩
 refine ⟨_,_,_,S.turn hc (fun s hs=>?_) (fun s hs=>zAf (by omega)) (fun d ps hd hp=>?_),zAj,zAj,?_,fun s h1 h2 h3=>?_⟩
 ·rw [zAf (by omega)]
  have:(s==g0)=false:=by simp;omega
  simp only [this,Bool.false_eq_true,if_false];exact S.env s hs
 ·simp only [zAb] at hg hg0
  rw [zAf (by omega)] at hp
  have:(d==g0)=false:=by simp;omega
  simp only [this,Bool.false_eq_true,if_false] at hp;exact ⟨ps,hp,rfl⟩
 ·rw [zAf (Ne.symm hI)];simp
 ·rw [zAf h2]
  have:(s==g0)=false:=by simp [h3]
  simp [this]
theorem zS4 (S:St w0 U Φ0 nt hv a w e Φ rv E L) (hb:zBs E) {d:Option Nat} (hd:∀ x,d=some x→x<nt) {t:TypeId} (h:(zQn P d t).run o e=some e') :
  ∃ v w',(Instr.alloc t true (.tuple #[])).run P w = .ok v w'∧Fr w0 U Φ0 nt hv (a.put d v) w' e':=by
 obtain ⟨z,hz,h1⟩:=zBG h
 obtain ⟨i,v,hi,hiz,yA,kL⟩:=zDJ hz
 have kM:=zCj (w:=w) (Φ:=Φ) (A:=zA8 w rv E) kL
 obtain ⟨hr,h2,h3⟩:Rep w Φ (zA8 w rv E) (zSf P t z) v []∧v.cells.size=(zSf P t z).cells.length∧zCi v=(zSf P t z).isAgg:=by
  cases z with
  | nils k =>
   simp only [zSf]
   split
   ·exact ⟨.inl ⟨rfl,rfl,kM.1.1⟩,kM.2.1,kM.2.2.1⟩
   ·exact ⟨kM.1,kM.2.1,kM.2.2.1⟩
  | _=>exact ⟨kM.1,kM.2.1,kM.2.2.1⟩
 have S1:=S.hold (Nat.le_refl zAb) hr
 obtain ⟨rv1,E1,L1,S2,h4,h5,h6,h7⟩:=S1.boxed (g0:=zAb) (g:=zAb+1) (Nat.le_refl _) (by omega) (by omega) (by rw [zAf (by omega)];exact hb _ (by omega)) zAj t (by rw [zAj];exact ⟨h2,h3⟩)
 have:=zFu S2 hd (g:=zAb+1) (by omega) (by rw [h4,zAj];exact h1) (fun s hs hI=>by
   by_cases h8:s=zAb
   ·subst h8;exact h6
   ·rw [h7 s hs hI h8,zAf h8];exact hb s hs)
 rw [h5] at this
 refine ⟨_,_,?_,this⟩
 simp only [Instr.alloc,Sem.run_bind,yA,Result.andThen_ok,newVar,zE8,Sem.run_pure]
theorem zW5 (S:St w0 U Φ0 nt hv a w e Φ rv E L) (hb:zBs E) {d:Option Nat} (hd:∀ x,d=some x→x<nt) {t:TypeId} {x:Operand} (hx:zAQ nt x=true) (h:(zTW P d t x).run o e=some e') :
  ∃ v w',(Instr.box t (a.eval x)).run P w = .ok v w'∧Fr w0 U Φ0 nt hv (a.put d v) w' e':=by
 obtain ⟨e1,rv1,E1,L1,h1,S1,h2,h3⟩:=zGx S hx (Nat.le_refl zAb) h
 split at h1
 ·rename_i sh n _ _
  obtain ⟨h4,h5⟩:=zDk h1
  simp only [Bool.and_eq_true,decide_eq_true_eq] at h4
  have hX:=S1.conf.rep zAb
  rw [h2] at hX
  have yD:(a.eval x).cells.size=(E1 zAb).cells.length∧zCi (a.eval x)=(E1 zAb).isAgg:=by
   have hw:=h4.2
   simp only [PV.whole,Bool.or_eq_true] at hw
   rcases hw with hw | hw
   ·cases hE:E1 zAb<;>rw [hE] at hw<;>simp [PV.isAgg] at hw
    rw [hE] at hX
    obtain ⟨vs,yE,hr⟩:=hX
    have:=hr.length
    rw [yE];exact ⟨by simpa [Value.cells,PV.cells] using this,rfl⟩
   ·have g1:=zBN (zCb (fun a v hw h=>zC8 hw h) hX hw)
    have g2:=zBp hw
    exact ⟨by rw [g1.1,g2.1];rfl,by rw [g1.2,g2.2]⟩
  obtain ⟨rv2,E2,L2,S2,h6,h7,h8,h9⟩:=S1.boxed (g0:=zAb) (g:=zAb+1) (Nat.le_refl _) (by omega) (by omega) (by rw [(h3 (zAb+1) (by omega) (by omega)).1];exact hb _ (by omega)) h2 t yD
  have:=zFu S2 hd (g:=zAb+1) (by omega) (by rw [h6];exact h5) (fun s hs hI=>by
    by_cases jS:s=zAb
    ·subst jS;exact h8
    ·rw [h9 s hs hI jS,(h3 s hs jS).1];exact hb s hs)
  rw [h7] at this
  refine ⟨_,_,?_,this⟩
  simp only [Instr.box,Sem.run_bind,newVar,zE8,Result.andThen_ok,Sem.run_pure]
 ·cases h1
theorem zKz {t:TypeId} {sh:Option Nat} (hs:shT P t=some sh) {b:Addr} {u:Value} (hc:∀ j y,u.cells.toList[j]? = some y→w.cell? (b.add j)=some y) (hu:zCi u=sh.isSome) (hn:u.cells.size=sh.getD 1) :
  (loadVar t b).run P w = .ok u w:=by
 obtain ⟨ti,jM,yv,h1,h2⟩:=zFc (w:=w) hs
 cases sh with
 | some n =>
  have:=h1 n rfl;subst this
  cases u<;>simp [zCi] at hu
  rename_i vs
  simp only [Option.getD_some,Value.cells] at hn
  have hl:=run_loadCells_list (P:=P) w b vs.toList hc
  have gG:(loadCells b ti.size).run P w = .ok vs w:=by rw [← hn];simpa using hl
  simp only [loadVar,Sem.run_bind,yv,Result.andThen_ok,Option.isSome_some,if_true,zAY jM,gG,Sem.run_pure,Sem.run_ite]
 | none =>
  have kb:u.cells=#[u]:=by cases u<;>first | rfl | simp [zCi] at hu
  have:=hc 0 u (by rw [kb];rfl)
  have h0:b.add 0=b:=by simp [Addr.add]
  rw [h0] at this
  simp only [loadVar,Sem.run_bind,yv,Result.andThen_ok,Option.isSome_none,Bool.false_eq_true,if_false,Sem.run_ite,run_load,this]
theorem zHS {b:Addr} {c:Array Value} {l:List Value} (y4:b.spot=none) (hr:zJq w b.block c) (h:seg c b.off l.length=l):∀ j y,l[j]? = some y→w.cell? (b.add j)=some y:=by
 intro j y hy
 rw [zBZ y4]
 simp only [zAt]
 rw [zCn hr]
 rw [← h] at hy
 exact zCR hy
theorem zS1 {q:List PV} {u:Value} {us:List Value} (h:zA2 w Φ A q us []) (hl:us=[u]):Rep w Φ A (q.headD .bad) u []:=by
 subst hl
 cases q with
 | nil=>exact absurd h.1 (by simp)
 | cons p ps =>
  obtain ⟨v,vs',L1,L2,h1,h2,h3,_⟩:=h
  obtain ⟨rfl,rfl⟩:L1=[]∧L2=[]:=by simpa using h2.symm
  simp only [List.cons.injEq] at h1
  rw [h1.1];exact h3
theorem zLj (S:St w0 U Φ0 nt hv a w e Φ rv E L) {t:TypeId} {sh:Option Nat} (hs:shT P t=some sh) {r:Nat} {pre:zAU} {i c:Nat} {s':Option Nat} {v:Value} (hp:Rep w Φ (zA8 w rv E) (.addr r pre i c s') v [])
  {k:PV→PM} (h:(zMC r pre i c sh k).run o e=some e'):∃ b u q,v = .pointer (some b)∧(loadVar t b).run P w = .ok u w∧(k q).run o e=some e'∧Rep w Φ (zA8 w rv E) q u []:=by
 obtain ⟨_,hg,b,rfl,y4,hn⟩:=hp
 refine ⟨b,?_⟩
 cases sh with
 | some n =>
  simp only [zMC,PM.run] at h
  split at h
  ·rename_i ag qs hq
   rw [← S.env r hg] at hq
   obtain ⟨nv,np,ad,us,h1,h2,h3,h4,h5,h6⟩:=S.conf.cells hg hq
   have:=hn nv np h1 ad h2;subst this
   cases ag with
   | false=>cases h
   | true =>
    refine ⟨.agg us.toArray,.agg qs,rfl,zKz hs (fun j y hy=>h5 j y (by simpa [Value.cells] using hy)) rfl (by simpa [Value.cells] using h4),h,_,rfl,by simpa using h6⟩
  ·cases h
 | none =>
  simp only [zMC,PM.run] at h
  split at h
  ·rename_i ag qs hq
   rw [← S.env r hg] at hq
   obtain ⟨nv,np,ad,us,h1,h2,h3,h4,h5,h6⟩:=S.conf.cells hg hq
   have:=hn nv np h1 ad h2;subst this
   match us,h4 with
   | [u],_ =>
    refine ⟨u,qs.headD .bad,rfl,?_,h,zS1 h6 rfl⟩
    have:=h5 0 u rfl
    rw [show b.add 0=b by simp [Addr.add]] at this
    obtain ⟨ti,jM,yv,_⟩:=zFc (w:=w) hs
    simp only [loadVar,Sem.run_bind,yv,Result.andThen_ok,Option.isSome_none,Bool.false_eq_true,if_false,Sem.run_ite,run_load,this]
  ·cases h
theorem zOF (S:St w0 U Φ0 nt hv a w e Φ rv E L) (hb:zBs E) {d:Option Nat} (hd:∀ x,d=some x→x<nt) {t:TypeId} {sh:Option Nat} (hs:shT P t=some sh) {p:PV} {v:Value} (hp:Rep w Φ (zA8 w rv E) p v []) (h:(zPP d sh p).run o e=some e') :
  ∃ u,(Instr.loadAt t v).run P w = .ok u w∧Fr w0 U Φ0 nt hv (a.put d u) w e':=by
 cases p<;>simp only [zPP] at h<;>try (cases h;done)
 case ref q =>
  obtain ⟨h1,h2⟩:=zDk h
  simp only [Bool.and_eq_true,decide_eq_true_eq] at h1
  obtain ⟨_,b,c,u,rfl,y4,hΦ,yC,y6,⟨yD,jb⟩,hr⟩:=hp
  refine ⟨u,?_,zAw S hb hd h2 hr⟩
  simp only [Instr.loadAt,Instr.sureAddr,Sem.run_bind,Sem.run_pure,Result.andThen_ok]
  refine zKz hs (zHS y4 yC ?_) ?_ ?_
  ·rw [show u.cells.toList.length=q.cells.length by simpa using yD];exact y6
  ·rw [jb,h1.1]
  ·rw [yD,h1.2]
 case addr r pre i c s' =>
  obtain ⟨b,u,q,rfl,h1,h2,h3⟩:=zLj S hs hp h
  refine ⟨u,?_,zAw S hb hd h2 h3⟩
  simp only [Instr.loadAt,Instr.sureAddr,Sem.run_bind,Sem.run_pure,Result.andThen_ok]
  exact h1
end
end Go.Eng
