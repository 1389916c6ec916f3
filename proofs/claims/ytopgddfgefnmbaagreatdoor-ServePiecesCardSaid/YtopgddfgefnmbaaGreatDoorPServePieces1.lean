/-
  SEVERAL TEXTS IN ONE: K1, K2, K3, K4, K5, K6, K7, K8, K9, K10, K11, K12, K26, Base, Inst, K24, K14, Num, K18, Srl, SrlX, Frm, Shelf, Sl, Pred, Del.
-/
import Derived.WalkKit
import Derived.Deep.Quiet
import Derived.KernelRfl
import Derived.RangeFuncLeaves
import Derived.RangeFuncRecord
import Derived.Laws.Pointers
import Derived.WalkLawsBesides
import Derived.WalkSpells
import Derived.Maps.AppendAt
import Derived.Laws.Tables
import Derived.Laws.Rows
import Derived.Laws.CopyRow
import Derived.Deep.AppendLies
import Derived.MapKept
import Derived.Below
import Derived.ProofKit
import Derived.OpenShut
import Derived.ShutString
import Derived.ChangeOld
import Derived.Deep.Slices
import Derived.OrdersHeld
import Derived.StillTail
import Derived.Lib.ConvBytes
import Derived.Lib.UnsafeStr
import Derived.Lib.Builder
import Derived.Laws.BytesString
import Derived.Laws.Externs
import Derived.Laws.Strings2
import Derived.Laws.Strings3
import Derived.Laws.MakeOwn
import Derived.Laws.StructEq
import Derived.Laws.BitsLemmas
import Derived.ChangeKeysEq
import Derived.Test.YtopgddfgefnmbaaGreatDoorChecked
import Derived.Laws.Entries
import Derived.Lib.AppendStr
import Derived.Maps.RangeRun
import Derived.Shelf.Strings.Search1
import Derived.Shelf.Strings.OnBuilder
import Derived.Shelf.Small.Strs
import Derived.Shelf.Bytes.IndexByte
import Derived.Shelf.LaysM
import Derived.Test.YtopgddfgefnmbaaGreatDoorProg
set_option maxHeartbeats 8000000
set_option maxRecDepth 100000
namespace Go.RK
open Go
abbrev ah:=Array Obj
abbrev Fr:=List (Nat × Value)
def Fr.get:Fr→Nat→Option Value
 | [],_=>Option.none
 | (t,v) :: r,n=>bif Nat.beq t n then some v else Fr.get r n
def Fr.ev (f:Fr):Operand→Option Value
 | .tmp t=>f.get t
 | .const v=>some v
 | .global g=>some (.pointer (some ⟨g,0,Option.none⟩))
 | .func k=>some (.func (.func k) #[] #[])
def nV:Fr→Fr→Prop
 | [],_=>True
 | (t,v) :: r,f=>f.get t=some v∧nV r f
def D9:Fr→List Value→Prop
 | [],_=>True
 | (t,v) :: r,f=>f[t]?=some v∧D9 r f
structure Env where
 n:Nat
 ds:List Deferred:=[]
 ro:Option Nat:=Option.none
structure jP (n:Env) (a:Act) (f:Fr):Prop where
 size:a.tmps.size=n.n
 defers:a.defers=n.ds
 at_:∀ t v,f.get t=some v→a.tmps[t]?=some v
structure eo (w w':World):Prop where
 tape:w'.tape=w.tape
 os:w'.os=w.os
 output:w'.output=w.output
 drawn:True
theorem eo.refl (w:World):eo w w:=⟨rfl,rfl,rfl,trivial⟩
theorem eo.trans {a b c:World} (h:eo a b) (k:eo b c):eo a c:=⟨k.tape.trans h.tape,k.os.trans h.os,k.output.trans h.output,trivial⟩
theorem Fr.jQ (t:Nat) (v:Value) (f:Fr) (n:Nat):Fr.get ((t,v) :: f) n=if t=n then some v else Fr.get f n:=by
 show (bif Nat.beq t n then some v else Fr.get f n)=_
 by_cases h:t=n
 · subst h;simp
 · have h2 : Nat.beq t n = false := by
     cases h3:Nat.beq t n
     · rfl
     · exact absurd (Nat.eq_of_beq_eq_true h3) h
   simp [h,h2]
theorem ix {d n:Nat} (hd:Nat.blt d n=true):d < n:=by
 have h1:d+1≤n:=by simpa [Nat.blt,Nat.ble_eq] using hd
 omega
theorem jP.put {n:Env} {a:Act} {f:Fr} (h:jP n a f) {d:Nat} (hd:Nat.blt d n.n=true) (v:Value):jP n (a.put (some d) v) ((d,v) :: f):=by
 have hd':=ix hd
 refine ⟨by simp [Act.put,h.size],by simp [Act.put,h.defers],fun t u hu=>?_⟩
 rw [Fr.jQ] at hu
 by_cases e:d=t
 · subst e
   simp only [if_true] at hu
   injection hu with hu
   subst hu
   simp [Act.put,h.size,hd']
 · rw [if_neg e] at hu
   simp only [Act.put]
   rw [Array.getElem?_setIfInBounds_ne e]
   exact h.at_ t u hu
def kN (ρ:Operand→Value) (f:Fr):Prop:=∀ x v,f.ev x=some v→ρ x=v
theorem jP.eK {n:Env} {a:Act} {f:Fr} (h:jP n a f):kN a.eval f:=by
 intro x v hx
 cases x with
 | tmp t =>
   have:=h.at_ t v hx
   simp [Act.eval,Array.getD_eq_getD_getElem?,this]
 | const u=>simpa [Fr.ev,Act.eval] using hx
 | global g=>simpa [Fr.ev,Act.eval] using hx
 | func k=>simpa [Fr.ev,Act.eval] using hx
theorem jP.sub {n:Env} {a:Act} {f g:Fr} (h:jP n a f) (hs:nV g f):jP n a g:=by
 refine ⟨h.size,h.defers,?_⟩
 induction g with
 | nil=>intro t v hv;cases hv
 | cons p g ih =>
   obtain ⟨t0,v0⟩:=p
   intro t v hv
   rw [Fr.jQ] at hv
   by_cases e:t0=t
   · subst e
     rw [if_pos rfl] at hv
     injection hv with hv
     subst hv
     exact h.at_ _ _ hs.1
   · rw [if_neg e] at hv
     exact ih hs.2 t v hv
theorem jP.iP {n:Env} {a:Act} {f:Fr} (h:jP n a f) {t:Nat} {v:Value} (hv:f.get t=some v):jP n a ((t,v) :: f):=by
 refine ⟨h.size,h.defers,fun s u hu=>?_⟩
 rw [Fr.jQ] at hu
 by_cases e:t=s
 · subst e
   rw [if_pos rfl] at hu
   exact h.at_ _ _ (hv.trans hu)
 · rw [if_neg e] at hu
   exact h.at_ _ _ hu
abbrev eL:=Exit→Fr→ah→Prop
def jj (l:List Oper):Bool:=l.all fun o=>match o.op with | .defer _=>false | _=>true
def calm:Exit→Bool
 | .panic _=>false
 | .outgrown=>false
 | _=>true
def wd (ro:Option Nat):Fence:={ Fence.wide with round:=ro }
def cS (n:Env) (Q:eL) (w0:World):Exit→Act→World→Prop:=fun e a w=>calm e=true∧eo w0 w∧∃ f,jP n a f∧Q e f w.heap
def WC (P:Program) (n:Env) (c:Code) (Q:eL) (f:Fr) (h:ah):Prop:=∀ a w,jP n a f→w.heap=h→c.wpIn (wd n.ro) 0 P (cS n Q w) a w
def WL (P:Program) (n:Env) (l0 l:List Oper) (Q:eL) (f:Fr) (h:ah):Prop:=∀ a w,jP n a f→w.heap=h→wpList P l0.toArray (cS n Q w) l a w
def lG (K:Fr→ah→Prop) (Q:eL):eL
 | .normal,f,w=>K f w
 | e,f,w=>Q e f w
def iy (id:Nat) (Q:eL):eL
 | .exit i,f,w=>if i=id then Q .normal f w else Q (.exit i) f w
 | e,f,w=>Q e f w
def ag (P:Program) (k:FuncId) (args:Array Value) (h:ah) (R:Value→ah→Prop):Prop :=
 ∀ w:World,w.heap=h→Calls P k args w fun e w'=>eo w w'∧∃ v,e=.returned v∧R v w'.heap
theorem ag.mono {P:Program} {k:FuncId} {args:Array Value} {h:ah} {R R':Value→ah→Prop} (hc:ag P k args h R) (hr:∀ v h',R v h'→R' v h'):ag P k args h R' :=
 fun w hw=>(hc w hw).mono fun _ _ ⟨s,v,e,r⟩=>⟨s,v,e,hr _ _ r⟩
theorem cS.trans {n:Env} {Q:eL} {w0 w1:World} (hs:eo w0 w1) {e:Exit} {a:Act} {w:World} (h:cS n Q w1 e a w):cS n Q w0 e a w:=⟨h.1,hs.trans h.2.1,h.2.2⟩
theorem cS.shut {n:Env} {Q:eL} {w0:World}:¬ LetsOut (cS n Q w0):=fun ⟨_,_,h,_⟩=>by cases h
section
variable {P:Program} {ops:Array Oper} {Q:Exit→Act→World→Prop} {ro:Option Nat}
theorem wh {row:String} {args:Array Value} {w:World} {R:Value→World→Prop} (h:Rows P row args w R):RowsIn (wd ro) 0 P row args w R:=fun c cs _ =>
 let ⟨v,w',hr,hs⟩:=h c cs
 ⟨v,w',hr,stepsIn_wide.2 hs⟩
theorem tc {k:FuncId} {args:Array Value} {w:World} {R:Ending→World→Prop} (h:Calls P k args w R):CallsIn (wd ro) 0 P k args w R:=callsIn_wide (n:=0) |>.2 h
theorem BA {o:Oper} {a:Act} {K K':Act→World→Prop} (hK:∀ a w,K a w→K' a w) {r:Result Next} (h:o.upon P a K Q r):o.uponIn (wd ro) 0 P a K' Q r:=by
 cases r with
 | ok x w2 =>
   cases x <;> simp only [Oper.upon,Oper.uponIn] at h ⊢ <;> first | exact hK _ _ h | exact h | skip
   · refine ⟨fun e=>(by cases e),(tc h).mono fun e w3 he=>?_⟩
     cases e with
     | returned v=>exact hK _ _ he
     | panicked c=>exact he
     | outgrown=>exact he
   · exact ⟨fun e=>(by cases e),(wh h).mono fun v w3 he=>hK _ _ he⟩
 | halt x w2=>cases x <;> simp only [Oper.upon,Oper.uponIn] at h ⊢ <;> exact h
theorem xN {o:Oper} {a:Act} (hd:ro=Option.none∨∀ c,o.op ≠ .defer c):o.semAt ro a.eval=execOp a.eval o:=by
 rcases hd with rfl | hd
 · exact Oper.semAt_none _ _
 · exact Oper.semAt_eq _ _ _ hd
theorem xO {l:List Oper} (h:jj l=true) {i:Nat} {o:Oper} (ho:l[i]?=some o):∀ c,o.op ≠ .defer c:=fun c e=>by
 have:=List.all_eq_true.1 h o (List.mem_of_getElem? ho)
 rw [e] at this
 cases this
theorem mG (hd:ro=Option.none∨jj ops.toList=true) (hQ:¬ LetsOut Q):∀ (l:List Nat) (a:Act) (w:World),wpOps P ops Q l a w→wpOpsIn (wd ro) 0 P ops Q l a w
 | [],a,w,h=>h
 | i :: l,a,w,h=>by
   unfold wpOps at h
   unfold wpOpsIn
   cases ho:ops[i]? with
   | none =>
     rw [ho] at h
     exact mG hd hQ l a w h
   | some o =>
     rw [ho] at h
     simp only at h ⊢
     by_cases hw:Region.wanted o (yielded ops a.tmps)=true
     · rw [if_pos hw] at h ⊢
       refine ⟨fun _ _=>trivial,?_⟩
       show o.uponIn (wd ro) 0 P a _ Q ((o.semAt ro a.eval).run P w)
       rw [xN (hd.imp id fun e=>xO e (by simpa using ho))]
       rcases h with h | h
       · exact BA (fun a w k=>mG hd hQ l a w k) h
       · exact absurd h.2 hQ
     · rw [if_neg hw] at h ⊢
       exact ⟨fun _ _=>trivial,mG hd hQ l _ _ h⟩
theorem BB {l:List Oper} {id:Nat} {a:Act} {w:World} (hd:ro=Option.none∨jj l=true) (hQ:¬ LetsOut Q) (h:wpList P l.toArray Q l a w):(Code.region id l.toArray false).wpIn (wd ro) 0 P Q a w:=by
 refine wpIn_region (mG hd hQ _ _ _ ?_)
 have e:=wpOps_eq_wpList (P:=P) (ops:=l.toArray) (Q:=Q) l 0 (by simp)
 rw [List.range_eq_range',show l.toArray.size=l.length by simp,e]
 exact h
theorem td {id:Nat} {a:Act} {w:World} (hd:ro=Option.none∨jj ops.toList=true) (hQ:¬ LetsOut Q) (hm:P.follows .mixedOrders=true)
   (h:wpAny P .any ops Q ops.size (Array.replicate ops.size false) a { w with drawn:=w.drawn+1 }):(Code.region id ops true).wpIn (wd ro) 0 P Q a w :=
 wpIn_region_draw fun t=>by
   simp only [Region.schedule,hm,Bool.true_or,if_true]
   exact mG hd hQ _ _ _ (wpAny_sound ops.size t _ a _ h)
end
section
variable {P:Program} {n:Env} {Q:eL} {f:Fr} {h:ah}
theorem WC.sub {c:Code} (g:Fr) (hs:nV g f) (hc:WC P n c Q g h):WC P n c Q f h:=fun a w ha hw=>hc a w (ha.sub hs) hw
theorem WC.mono {c:Code} {Q':eL} (hc:WC P n c Q f h) (hq:∀ e f h,Q e f h→Q' e f h):WC P n c Q' f h :=
 fun a w ha hw=>wpIn_mono (hc a w ha hw) fun _ _ _ ⟨hl,hs,g,hg,q⟩=>⟨hl,hs,g,hg,hq _ _ _ q⟩
theorem WC.seq {x y:Code} (hx:WC P n x (lG (WC P n y Q) Q) f h):WC P n (.seq x y) Q f h:=by
 intro a w ha hw
 refine wpIn_seq (wpIn_mono (hx a w ha hw) ?_)
 rintro e a' w' ⟨hl,hs,g,hg,q⟩
 cases e
 case normal=>exact wpIn_mono (q a' w' hg rfl) fun _ _ _ hq=>hq.trans hs
 all_goals exact ⟨hl,hs,g,hg,q⟩
theorem WC.skip (hq:Q .normal f h):WC P n .skip Q f h:=fun _ w ha hw=>wpIn_skip ⟨rfl,.refl w,f,ha,hw▸hq⟩
theorem WC.label {l:Nat} (hq:Q .normal f h):WC P n (.label l) Q f h:=fun _ w ha hw=>wpIn_label ⟨rfl,.refl w,f,ha,hw▸hq⟩
theorem WC.ret (hq:Q .ret f h):WC P n .ret Q f h:=fun _ w ha hw=>wpIn_ret ⟨rfl,.refl w,f,ha,hw▸hq⟩
theorem WC.exit {id:Nat} (hq:Q (.exit id) f h):WC P n (.exit id) Q f h:=fun _ w ha hw=>wpIn_exit ⟨rfl,.refl w,f,ha,hw▸hq⟩
theorem WC.block {id:Nat} {c:Code} (hc:WC P n c (iy id Q) f h):WC P n (.block id c) Q f h:=by
 intro a w ha hw
 refine wpIn_block (wpIn_mono (hc a w ha hw) ?_)
 rintro e a' w' ⟨hl,hs,g,hg,q⟩
 cases e with
 | exit i =>
   simp only [Exit.inBlock,iy] at q ⊢
   by_cases hi:i=id
   · rw [if_pos hi] at q ⊢;exact ⟨rfl,hs,g,hg,q⟩
   · rw [if_neg hi] at q ⊢;exact ⟨rfl,hs,g,hg,q⟩
 | normal=>exact ⟨hl,hs,g,hg,q⟩
 | goto l=>exact ⟨hl,hs,g,hg,q⟩
 | ret=>exact ⟨hl,hs,g,hg,q⟩
 | panic ch=>cases hl
 | outgrown=>cases hl
theorem WC.cond {c:Operand} {x y:Code} {b:Bool} (hc:f.ev c=some (.bool b)) (ht:b=true→WC P n x Q f h) (hf:b=false→WC P n y Q f h):WC P n (.cond c x y) Q f h:=by
 intro a w ha hw
 exact wpIn_cond_split (ha.eK _ _ hc) (fun e=>ht e a w ha hw) (fun e=>hf e a w ha hw)
theorem WC.Ea {c:Operand} {x y:Code} (hc:f.ev c=some (.bool true)) (hx:WC P n x Q f h):WC P n (.cond c x y) Q f h :=
 .cond hc (fun _=>hx) (fun e=>by cases e)
theorem WC.Eb {c:Operand} {x y:Code} (hc:f.ev c=some (.bool false)) (hy:WC P n y Q f h):WC P n (.cond c x y) Q f h :=
 .cond hc (fun e=>by cases e) (fun _=>hy)
theorem WC.cut {X:Type} {x y:Code} (g:X→Fr) (A:X→ah→Prop) (hx:WC P n x (lG (fun f' h'=>∃ z,nV (g z) f'∧A z h') Q) f h) (hy:∀ z h',A z h'→WC P n y Q (g z) h'):WC P n (.seq x y) Q f h :=
 .seq (hx.mono fun e f' h' q=>by
   cases e
   case normal=>obtain ⟨z,hs,ha⟩:=q;exact .sub _ hs (hy z h' ha)
   all_goals exact q)
theorem WC.loop {X:Type} {c:Code} (F:X→Fr) (I:X→ah→Prop) (μ:X→Nat) (x0:X) (hs:nV (F x0) f) (h0:I x0 h)
   (round:∀ x h,I x h→WC P n c (lG (fun f' h'=>∃ x',nV (F x') f'∧I x' h'∧μ x' < μ x) Q) (F x) h):WC P n (.loop c) Q f h:=by
 intro a w ha hw b k cs hro hb hr
 have key : ∀ m (x : X) (a : Act) (w' : World), μ x = m → I x w'.heap → jP n a (F x) → eo w w' →
     ∃ e a' w'',cS n Q w e a' w''∧ArrivesIn (Machine.fenced P (wd n.ro)) P (lone (b.atR a (.code c :: .inLoop c :: k)) cs w') b k cs e a' w'':=by
   intro m
   induction m using Nat.strongRecOn with
   | _ m ih =>
     intro x a w' hm hI hrp hsame
     obtain ⟨e,a₁,w₁,⟨hl,fT,g,hg,hq⟩,harr⟩:=round x w'.heap hI a w' hrp rfl b (.inLoop c :: k) cs hro hb hr
     cases e with
     | normal =>
       obtain ⟨x',hs',hI',hlt⟩:=hq
       obtain ⟨e₂,a₂,w₂,hq₂,harr₂⟩:=ih (μ x') (hm▸hlt) x' a₁ w₁ rfl hI' (hg.sub hs') (hsame.trans fT)
       exact ⟨e₂,a₂,w₂,hq₂,.of_steps (StepsIn.trans harr (.one (fenced_calm hb hr rfl) stepR_inLoop)) harr₂⟩
     | exit id=>exact ⟨_,a₁,w₁,⟨rfl,hsame.trans fT,g,hg,hq⟩,.pass (x:=.inLoop c) rfl (fun _ _=>.inl (by simp)) harr⟩
     | goto l=>exact ⟨_,a₁,w₁,⟨rfl,hsame.trans fT,g,hg,hq⟩,.pass (x:=.inLoop c) rfl (fun _ _=>.inl (by simp)) harr⟩
     | ret=>exact ⟨_,a₁,w₁,⟨rfl,hsame.trans fT,g,hg,hq⟩,.pass (x:=.inLoop c) rfl (fun _ _=>.inl (by simp)) harr⟩
     | panic ch=>cases hl
     | outgrown=>cases hl
 obtain ⟨e,a',w',hq,harr⟩:=key _ x0 a w rfl (hw▸h0) (ha.sub hs) (.refl w)
 exact ⟨e,a',w',hq,.of_steps (.one (fenced_calm hb hr rfl) stepR_loop) harr⟩
theorem WC.region {id:Nat} {l:List Oper} (hl:WL P n l l Q f h) (hd:n.ro=Option.none∨jj l=true:=by first | exact .inl rfl | exact .inr rfl):WC P n (.region id l.toArray false) Q f h :=
 fun a w ha hw=>BB hd cS.shut (hl a w ha hw)
theorem WL.nil {l0:List Oper} (hq:Q .normal f h):WL P n l0 [] Q f h:=fun _ w ha hw=>wpList_nil ⟨rfl,.refl w,f,ha,hw▸hq⟩
def Ok (P:Program) (f:Fr) (o:Oper) (h:ah) (v:Value) (h':ah):Prop :=
 ∀ (ρ:Operand→Value) (w:World),kN ρ f→w.heap=h→∃ w',eo w w'∧w'.heap=h' ∧
   ((execOp ρ o).run P w=.ok (.value v) w'∨((execOp ρ o).run P w=.ok .skip w'∧v=undef))
end
@[reducible] def St (l:List UInt8):Value:=.string ⟨⟨l⟩⟩
@[reducible] def In (n:Int):Value:=.int .i64 n
theorem wi (l m:List UInt8):(ByteArray.mk ⟨l⟩)++(ByteArray.mk ⟨m⟩)=ByteArray.mk ⟨l++m⟩:=by
 apply ByteArray.ext
 simp
def bN (P:Program) (f:Fr) (o:Oper) (h:ah) (v:Value):Prop :=
 ∀ (ρ:Operand→Value) (w:World),kN ρ f→w.heap=h→(execOp ρ o).run P w=.ok (.value v) w
def eG (P:Program) (f:Fr) (o:Oper) (h:ah) (R:Value→ah→Prop):Prop :=
 ∀ (ρ:Operand→Value) (w:World),kN ρ f→w.heap=h→∃ v w',eo w w'∧R v w'.heap ∧
   ((execOp ρ o).run P w=.ok (.value v) w'∨((execOp ρ o).run P w=.ok .skip w'∧v=undef))
section
variable {P:Program} {f:Fr} {h:ah} {d:Option Tmp} {ty:TypeId} {pos:String} {af:Array Edge} {g:Option (Nat × Bool)}
theorem ak {x:Operand} {v:Value} (hx:f.ev x=some v):bN P f ⟨d,.move x,ty,pos,af,g⟩ h v:=fun ρ w ha _=>by simp [execOp,ha _ _ hx]
theorem aP {x:Operand} {v:Value} (hx:f.ev x=some v):bN P f ⟨d,.assign x,ty,pos,af,g⟩ h v:=fun ρ w ha _=>by simp [execOp,ha _ _ hx]
theorem cH {c x y:Operand} {v:Value} (hc:f.ev c=some (.bool true)) (hx:f.ev x=some v):bN P f ⟨d,.pick c x y,ty,pos,af,g⟩ h v :=
 fun ρ w ha _=>by simp [execOp,ha _ _ hc,ha _ _ hx,asBool]
theorem cI {c x y:Operand} {v:Value} (hc:f.ev c=some (.bool false)) (hy:f.ev y=some v):bN P f ⟨d,.pick c x y,ty,pos,af,g⟩ h v :=
 fun ρ w ha _=>by simp [execOp,ha _ _ hc,ha _ _ hy,asBool]
theorem ae {x:Operand} {a:Addr} (hx:f.ev x=some (.pointer (some a))):bN P f ⟨d,.nilCheck x,ty,pos,af,g⟩ h (.pointer (some a)) :=
 fun ρ w ha _=>by simp [execOp,ha _ _ hx]
theorem bP {x:Operand} {i:Nat} {vs:List Value} {v:Value} (hx:f.ev x=some (.tuple ⟨vs⟩)) (hv:vs[i]?=some v):bN P f ⟨d,.extract x i,ty,pos,af,g⟩ h v :=
 fun ρ w ha _=>by simp [execOp,ha _ _ hx,Instr.extract,hv]
theorem ad {x:Operand} {s i:Nat} {fs:Array Field} {fl:Field} {b o k:Nat} (hx:f.ev x=some (.pointer (some ⟨b,o,Option.none⟩))) (hu:P.underlying s=some (.struct fs)) (hf:fs[i]?=some fl)
   (hz:∀ w,(sizeOf fl.type).run P w=.ok (k+1) w):bN P f ⟨d,.fieldAddr s x i,ty,pos,af,g⟩ h (.pointer (some ⟨b,o+fl.offset,Option.none⟩)) :=
 fun ρ w ha _=>by simp [execOp,ha _ _ hx,Instr.fieldAt,run_underlying hu,hf,Instr.sureAddr,fieldPlace,hz,Addr.add_lit]
section ints
variable {t t2:TypeId} {x y:Operand} {k:IntKind} {a b:Int}
theorem xP (hx:f.ev x=some (.int k a)) (hy:f.ev y=some (.int k b)):bN P f ⟨d,.binOp .add t x y t2,ty,pos,af,g⟩ h (.int k (k.wrap (a+b))) :=
 fun ρ w ha _=>by simp [execOp,ha _ _ hx,ha _ _ hy,eqGuard_add,binOp_add,Op.intArith]
theorem te (hx:f.ev x=some (.int k a)) (hy:f.ev y=some (.int k b)):bN P f ⟨d,.binOp .sub t x y t2,ty,pos,af,g⟩ h (.int k (k.wrap (a - b))) :=
 fun ρ w ha _=>by simp [execOp,ha _ _ hx,ha _ _ hy,eqGuard_sub,binOp_sub,Op.intArith]
theorem Ec (hx:f.ev x=some (.int k a)) (hy:f.ev y=some (.int k b)):bN P f ⟨d,.binOp .mul t x y t2,ty,pos,af,g⟩ h (.int k (k.wrap (a * b))) :=
 fun ρ w ha _=>by simp [execOp,ha _ _ hx,ha _ _ hy,eqGuard_mul,binOp_mul,Op.intArith]
theorem wrap_i64 (a:Int) (h0 : -9223372036854775808≤a) (h1:a≤9223372036854775807):IntKind.i64.wrap a=a:=by rw [IntKind.wrap_i64];omega
theorem eX (hx:f.ev x=some (In a)) (hy:f.ev y=some (In b)) (h0 : -9223372036854775808≤a+b∧a+b≤9223372036854775807):bN P f ⟨d,.binOp .add t x y t2,ty,pos,af,g⟩ h (In (a+b)):=by
 have:=xP (P:=P) (d:=d) (ty:=ty) (pos:=pos) (af:=af) (g:=g) (h:=h) (t:=t) (t2:=t2) hx hy
 rwa [wrap_i64 _ h0.1 h0.2] at this
theorem eY (hx:f.ev x=some (In a)) (hy:f.ev y=some (In b)) (h0 : -9223372036854775808≤a - b∧a - b≤9223372036854775807):bN P f ⟨d,.binOp .sub t x y t2,ty,pos,af,g⟩ h (In (a - b)):=by
 have:=te (P:=P) (d:=d) (ty:=ty) (pos:=pos) (af:=af) (g:=g) (h:=h) (t:=t) (t2:=t2) hx hy
 rwa [wrap_i64 _ h0.1 h0.2] at this
theorem jR (hx:f.ev x=some (In a)) (hy:f.ev y=some (In b)) (h0 : -9223372036854775808≤a * b∧a * b≤9223372036854775807):bN P f ⟨d,.binOp .mul t x y t2,ty,pos,af,g⟩ h (In (a * b)):=by
 have:=Ec (P:=P) (d:=d) (ty:=ty) (pos:=pos) (af:=af) (g:=g) (h:=h) (t:=t) (t2:=t2) hx hy
 rwa [wrap_i64 _ h0.1 h0.2] at this
theorem mH (hx:f.ev x=some (.int k a)) (hy:f.ev y=some (.int k b)):bN P f ⟨d,.binOp .lss t x y t2,ty,pos,af,g⟩ h (.bool (decide (a < b))) :=
 fun ρ w ha _=>by simp [execOp,ha _ _ hx,ha _ _ hy,eqGuard_lss,binOp_lss]
theorem mJ (hx:f.ev x=some (.int k a)) (hy:f.ev y=some (.int k b)):bN P f ⟨d,.binOp .leq t x y t2,ty,pos,af,g⟩ h (.bool (decide (a≤b))) :=
 fun ρ w ha _=>by simp [execOp,ha _ _ hx,ha _ _ hy,eqGuard_leq,binOp_leq]
theorem mL (hx:f.ev x=some (.int k a)) (hy:f.ev y=some (.int k b)):bN P f ⟨d,.binOp .gtr t x y t2,ty,pos,af,g⟩ h (.bool (decide (b < a))) :=
 fun ρ w ha _=>by simp [execOp,ha _ _ hx,ha _ _ hy,eqGuard_gtr,binOp_gtr]
theorem dv (hx:f.ev x=some (.int k a)) (hy:f.ev y=some (.int k b)):bN P f ⟨d,.binOp .geq t x y t2,ty,pos,af,g⟩ h (.bool (decide (b≤a))) :=
 fun ρ w ha _=>by simp [execOp,ha _ _ hx,ha _ _ hy,eqGuard_geq,binOp_geq]
theorem mM (hx:f.ev x=some (.int k a)) (hy:f.ev y=some (.int k b)):bN P f ⟨d,.binOp .eql t x y t2,ty,pos,af,g⟩ h (.bool (decide (a=b))) :=
 fun ρ w ha _=>by simp [execOp,ha _ _ hx,ha _ _ hy,binOp_eql,eqGuard_at_int,BEq.beq]
theorem jx (hx:f.ev x=some (.int k a)) (hy:f.ev y=some (.int k b)):bN P f ⟨d,.binOp .neq t x y t2,ty,pos,af,g⟩ h (.bool (!decide (a=b))) :=
 fun ρ w ha _=>by simp [execOp,ha _ _ hx,ha _ _ hy,binOp_neq,eqGuard_at_int,bne,BEq.beq]
theorem bN.fv {o:Oper} {p:Prop} [Decidable p] (hp:p) (ho:bN P f o h (.bool (decide p))):bN P f o h (.bool true):=by rwa [decide_eq_true hp] at ho
theorem bN.fy {o:Oper} {p:Prop} [Decidable p] (hp:¬p) (ho:bN P f o h (.bool (decide p))):bN P f o h (.bool false):=by rwa [decide_eq_false hp] at ho
theorem bN.jS {o:Oper} {p:Prop} [Decidable p] (hp:¬p) (ho:bN P f o h (.bool (!decide p))):bN P f o h (.bool true):=by rwa [decide_eq_false hp] at ho
theorem bN.jT {o:Oper} {p:Prop} [Decidable p] (hp:p) (ho:bN P f o h (.bool (!decide p))):bN P f o h (.bool false):=by rwa [decide_eq_true hp] at ho
end ints
theorem dw {x:Operand} {t:TypeId} {b:Bool} (hx:f.ev x=some (.bool b)):bN P f ⟨d,.unOp .not t x,ty,pos,af,g⟩ h (.bool (!b)) :=
 fun ρ w ha _=>by simp [execOp,ha _ _ hx,Op.unary]
theorem ml {x y:Operand} {t t2:TypeId} {a b:Bool} (hu:P.underlying t=some .bool) (hx:f.ev x=some (.bool a)) (hy:f.ev y=some (.bool b)):bN P f ⟨d,.binOp .eql t x y t2,ty,pos,af,g⟩ h (.bool (decide (a=b))) :=
 fun ρ w ha _=>by simp [execOp,ha _ _ hx,ha _ _ hy,eqGuard_at_bool,run_eql_bool w t a b hu,BEq.beq]
theorem BC {x y:Operand} {t t2:TypeId} {a b:Bool} (hu:P.underlying t=some .bool) (hx:f.ev x=some (.bool a)) (hy:f.ev y=some (.bool b)):bN P f ⟨d,.binOp .neq t x y t2,ty,pos,af,g⟩ h (.bool (!decide (a=b))) :=
 fun ρ w ha _=>by simp [execOp,ha _ _ hx,ha _ _ hy,eqGuard_at_bool,run_neq_bool w t a b hu,BEq.beq]
section strs
variable {t t2:TypeId} {x y:Operand} {a b:List UInt8}
theorem iQ {α:Type} [BEq α] [LawfulBEq α] [DecidableEq α] (a b:α):(a == b)=decide (a=b):=by
 by_cases e:a=b <;> simp [e]
theorem px (hx:f.ev x=some (St a)) (hy:f.ev y=some (St b)):bN P f ⟨d,.binOp .eql t x y t2,ty,pos,af,g⟩ h (.bool (decide (a=b))) :=
 fun ρ w ha _=>by simp [execOp,ha _ _ hx,ha _ _ hy,eqGuard_at_string,binOp,Op.stringOp,iQ]
theorem mm (hx:f.ev x=some (St a)) (hy:f.ev y=some (St b)):bN P f ⟨d,.binOp .neq t x y t2,ty,pos,af,g⟩ h (.bool (!decide (a=b))) :=
 fun ρ w ha _=>by simp [execOp,ha _ _ hx,ha _ _ hy,eqGuard_at_string,binOp,Op.stringOp,iQ]
theorem dn (hx:f.ev x=some (St a)) (hy:f.ev y=some (St b)) (hl:a.length+b.length≤9223372036854775807):bN P f ⟨d,.binOp .add t x y t2,ty,pos,af,g⟩ h (St (a++b)) :=
 fun ρ w ha _=>by
   have h1:¬ (((ByteArray.mk ⟨a⟩).size+(ByteArray.mk ⟨b⟩).size:Nat):Int) > IntKind.i64.max:=by
     rw [IntKind.max_i64];show ¬ ((a.length+b.length:Nat):Int) > _;omega
   simp only [execOp,ha _ _ hx,ha _ _ hy,eqGuard_at_string,binOp,Op.stringOp,if_neg h1,wi,Sem.run_bind,Sem.run_pure,Result.andThen_ok]
theorem jU {x:Operand} {c:Array TypeId} (hc:c=#[t]) (hu:P.underlying t=some .string) (hx:f.ev x=some (St a)) :
   bN P f ⟨d,.call { callee:=.builtin .len,args:=#[x],argTypes:=c },ty,pos,af,g⟩ h (In a.length) :=
 fun ρ w ha _=>by
   subst hc
   have:(ByteArray.mk ⟨a⟩).size=a.length:=rfl
   simp [execOp,resolve,invoke,builtin,ha _ _ hx,Builtin.len_,run_underlying hu,goInt,this]
theorem cP {i:Int} {k:IntKind} {u:UInt8} (hu:P.underlying t=some .string) (hx:f.ev x=some (St a)) (hy:f.ev y=some (.int k i)) (h0:0≤i) (hv:a[i.toNat]?=some u) :
   bN P f ⟨d,.index t x y,ty,pos,af,g⟩ h (.int .u8 u.toNat) :=
 fun ρ w ha _=>by
   obtain ⟨hlt,Ed⟩:=List.getElem?_eq_some_iff.1 hv
   have hi:0≤i∧i < ((ByteArray.mk ⟨a⟩).size:Nat):=⟨h0,by show i < (a.length:Nat);omega⟩
   have hb:(ByteArray.mk ⟨a⟩)[i.toNat]'(by omega)=u:=Ed
   simp [execOp,ha _ _ hx,ha _ _ hy,run_index_string,hu,hi,hb]
end strs
theorem mN {t e:TypeId} (hu:P.underlying t=some (.pointer e)):P.underlying t=some (.pointer (P.pointee t)):=by
 have:P.pointee t=e:=by unfold Program.pointee;rw [hu]
 rw [this];exact hu
theorem fz {t t2 e:TypeId} {x y:Operand} {p:Option Addr} (hu:P.underlying t=some (.pointer e)) (hx:f.ev x=some (.pointer p)) (hy:f.ev y=some (.pointer Option.none)) :
   bN P f ⟨d,.binOp .eql t x y t2,ty,pos,af,g⟩ h (.bool p.isNone) :=
 fun ρ w ha _=>by simp [execOp,ha _ _ hx,ha _ _ hy,eqGuard_at_pointer,run_eql_pointer_nil w t p (mN hu)]
theorem dQ {t t2 e:TypeId} {x y:Operand} {p:Option Addr} (hu:P.underlying t=some (.pointer e)) (hx:f.ev x=some (.pointer p)) (hy:f.ev y=some (.pointer Option.none)) :
   bN P f ⟨d,.binOp .neq t x y t2,ty,pos,af,g⟩ h (.bool p.isSome) :=
 fun ρ w ha _=>by cases p <;> simp [execOp,ha _ _ hx,ha _ _ hy,eqGuard_at_pointer,run_neq_pointer_nil w t _ (mN hu)]
theorem xQ {t t2 k e:TypeId} {x y:Operand} {m:Option Nat} (hu:P.underlying t=some (.map k e)) (hx:f.ev x=some (.map m)) (hy:f.ev y=some (.map Option.none)) :
   bN P f ⟨d,.binOp .neq t x y t2,ty,pos,af,g⟩ h (.bool m.isSome) :=
 fun ρ w ha _=>by cases m <;> simp [execOp,ha _ _ hx,ha _ _ hy,eqGuard_at_map,run_neq_map_nil w t k e _ hu]
theorem jV {t t2 k e:TypeId} {x y:Operand} {m:Option Nat} (hu:P.underlying t=some (.map k e)) (hx:f.ev x=some (.map m)) (hy:f.ev y=some (.map Option.none)) :
   bN P f ⟨d,.binOp .eql t x y t2,ty,pos,af,g⟩ h (.bool m.isNone) :=
 fun ρ w ha _=>by simp [execOp,ha _ _ hx,ha _ _ hy,eqGuard_at_map,run_eql_map_nil w t k e m hu]
theorem cR {t t2 e:TypeId} {x y:Operand} {p:Option Addr} {l c:Nat} (hu:P.underlying t=some (.slice e)) (hx:f.ev x=some (.slice p l c)) (hy:f.ev y=some (.slice Option.none 0 0)) :
   bN P f ⟨d,.binOp .eql t x y t2,ty,pos,af,g⟩ h (.bool p.isNone) :=
 fun ρ w ha _=>by simp [execOp,ha _ _ hx,ha _ _ hy,eqGuard_at_slice,Lib.run_eql_slice_nil w t e p l c 0 0 hu]
theorem cq {t e:TypeId} {x:Operand} {p:Option Addr} {l c:Nat} {ts:Array TypeId} (hc:ts=#[t]) (hu:P.underlying t=some (.slice e)) (hx:f.ev x=some (.slice p l c)) :
   bN P f ⟨d,.call { callee:=.builtin .len,args:=#[x],argTypes:=ts },ty,pos,af,g⟩ h (In l) :=
 fun ρ w ha _=>by subst hc;simp [execOp,resolve,invoke,builtin,ha _ _ hx,Builtin.len_,run_underlying hu,goInt]
theorem tf {t e:TypeId} {x y:Operand} {b o l c sz:Nat} {k:IntKind} {i:Int} (hu:P.underlying t=some (.slice e)) (hz:∀ w,(sizeOf e).run P w=.ok sz w)
   (hx:f.ev x=some (.slice (some ⟨b,o,Option.none⟩) l c)) (hy:f.ev y=some (.int k i)) (hi:0≤i∧i < l) :
   bN P f ⟨d,.indexAddr t x y,ty,pos,af,g⟩ h (.pointer (some ⟨b,o+i.toNat * sz,Option.none⟩)) :=
 fun ρ w ha _=>by simp [execOp,ha _ _ hx,ha _ _ hy,Instr.indexAt,asIntOf,run_underlying hu,hi,hz,Addr.add_lit]
end
def cell (h:ah) (a:Addr):Option Value :=
 match h[a.block]? with
 | some (.cells c _ _)=>if a.spot.isSome then Option.none else c[a.off]?
 | _=>Option.none
theorem mn (w:World) (a:Addr):w.cell? a=cell w.heap a:=rfl
def At (h:ah) (b o:Nat) (vs:List Value):Prop:=∀ (j:Nat) (v:Value),vs[j]?=some v→cell h ⟨b,o+j,Option.none⟩=some v
def Rd (h:ah) (v:Value) (sz n:Nat) (xs:List Value):Prop :=
 ∃ A c,v=.slice A n c∧n≤c∧xs.length=n * sz∧(0 < n→∃ b o,A=some ⟨b,o,Option.none⟩∧b < h.size∧At h b o xs)
def Own (h:ah) (v:Value) (e:TypeId) (sz n:Nat) (xs:List Value):Prop :=
 xs.length=n * sz∧((v=.slice Option.none 0 0∧n=0) ∨
   ∃ g cap cur,v=.slice (some ⟨g,0,Option.none⟩) n cap∧h[g]?=some (.cells cur e (0,0))∧n≤cap∧cap≤maxLen∧cur.size=cap * sz∧cur.toList.take (n * sz)=xs)
structure Ext (S:Nat→Prop) (h h':ah):Prop where
 size:h.size≤h'.size
 ab:∀ b,b < h.size→¬ S b→h'[b]?=h[b]?
abbrev No:Nat→Prop:=fun _=>False
theorem aO {b:Nat}:¬ No b:=fun h=>h
section
variable {h h' h'':ah} {S S':Nat→Prop}
theorem Ext.refl (S:Nat→Prop) (h:ah):Ext S h h:=⟨Nat.le_refl _,fun _ _ _=>rfl⟩
theorem Ext.trans (a:Ext S h h') (b:Ext S h' h''):Ext S h h'' :=
 ⟨Nat.le_trans a.size b.size,fun k hk hS=>(b.ab k (Nat.lt_of_lt_of_le hk a.size) hS).trans (a.ab k hk hS)⟩
theorem Ext.trans' (a:Ext S h h') (b:Ext S' h' h'') (hs:∀ k,k < h.size→S' k→S k):Ext S h h'' :=
 ⟨Nat.le_trans a.size b.size,fun k hk hS=>(b.ab k (Nat.lt_of_lt_of_le hk a.size) (fun e=>hS (hs k hk e))).trans (a.ab k hk hS)⟩
theorem Ext.mono (a:Ext S h h') (hs:∀ k,k < h.size→S k→S' k):Ext S' h h':=⟨a.size,fun k hk hS=>a.ab k hk fun e=>hS (hs k hk e)⟩
theorem ai {b:Nat} {o:Obj} (hb:h[b]?=some o):b < h.size:=by
 rcases Nat.lt_or_ge b h.size with hlt | hge
 · exact hlt
 · rw [Array.getElem?_eq_none hge] at hb;cases hb
theorem Ext.obj (a:Ext S h h') {b:Nat} {o:Obj} (hb:h[b]?=some o) (hS:¬ S b):h'[b]?=some o:=(a.ab b (ai hb) hS).trans hb
theorem Ext.push (S:Nat→Prop) (h:ah) (o:Obj):Ext S h (h.push o) :=
 ⟨by simp,fun b hb _=>by rw [Array.getElem?_push,if_neg (by omega)]⟩
theorem Ext.set (h:ah) (b:Nat) (o:Obj) (hS:S b):Ext S h (h.setIfInBounds b o) :=
 ⟨by simp,fun k _ hk=>by rw [Array.getElem?_setIfInBounds_ne];rintro rfl;exact hk hS⟩
theorem mO (h:ah) (o:Obj):(h.push o)[h.size]?=some o:=by simp
theorem dR {b:Nat} {o x:Obj} (hb:h[b]?=some x):(h.push o)[b]?=some x:=(Ext.push No h o).obj hb id
theorem dD {b:Nat} {o x:Obj} (hb:h[b]?=some x):(h.setIfInBounds b o)[b]?=some o:=by
 have:=ai hb
 simp [this]
theorem cell_of {b o:Nat} {cs:Array Value} {t:TypeId} {z:Nat × Nat} (hb:h[b]?=some (.cells cs t z)):cell h ⟨b,o,Option.none⟩=cs[o]?:=by
 simp [cell,hb]
theorem uV {a:Addr} {v:Value} (hc:cell h a=some v):a.block < h.size:=by
 unfold cell at hc
 cases e:h[a.block]? with
 | none=>rw [e] at hc;cases hc
 | some o=>exact ai e
theorem wj {a:Addr} (e:h'[a.block]?=h[a.block]?):cell h' a=cell h a:=by simp [cell,e]
theorem Ext.cell (a:Ext S h h') {p:Addr} {v:Value} (hc:cell h p=some v) (hS:¬ S p.block):cell h' p=some v :=
 (wj (a.ab _ (uV hc) hS)).trans hc
theorem At.ext {b o:Nat} {vs:List Value} (h0:At h b o vs) (a:Ext S h h') (hS:¬ S b):At h' b o vs:=fun j v hj=>a.cell (h0 j v hj) hS
theorem At.one {b o:Nat} {vs:List Value} (h0:At h b o vs) {j:Nat} {v:Value} (hj:vs[j]?=some v):cell h ⟨b,o+j,Option.none⟩=some v:=h0 j v hj
theorem At.drop {b o:Nat} {vs:List Value} (h0:At h b o vs) (k:Nat):At h b (o+k) (vs.drop k):=fun j v hj=>by
 rw [List.getElem?_drop] at hj
 rw [Nat.add_assoc]
 exact h0 _ v hj
theorem At.take {b o:Nat} {vs:List Value} (h0:At h b o vs) (k:Nat):At h b o (vs.take k):=fun j v hj=>by
 rw [List.getElem?_take] at hj
 split at hj
 · exact h0 j v hj
 · cases hj
theorem At.av {b:Nat} {cs:List Value} {t:TypeId} {z:Nat × Nat} (hb:h[b]?=some (.cells ⟨cs⟩ t z)):At h b 0 cs:=fun j v hj=>by
 rw [Nat.zero_add,cell_of hb];simpa using hj
theorem Rd.ext {v:Value} {sz n:Nat} {xs:List Value} (r:Rd h v sz n xs) (a:Ext S h h') (hS:∀ b,v.ownBlock=some b→¬ S b):Rd h' v sz n xs:=by
 obtain ⟨A,c,rfl,hc,hl,hp⟩:=r
 refine ⟨A,c,rfl,hc,hl,fun hn=>?_⟩
 obtain ⟨b,o,rfl,hb,hat⟩:=hp hn
 exact ⟨b,o,rfl,Nat.lt_of_lt_of_le hb a.size,hat.ext a (hS b rfl)⟩
theorem Rd.aq {v:Value} {sz n:Nat} {xs:List Value} (r:Rd h v sz n xs) (a:Ext No h h'):Rd h' v sz n xs:=r.ext a (fun _ _=>id)
theorem Rd.nil (h:ah) (sz:Nat):Rd h (.slice Option.none 0 0) sz 0 []:=⟨_,_,rfl,Nat.le_refl _,by simp,fun h=>absurd h (by omega)⟩
theorem Own.nil (h:ah) (e:TypeId) (sz:Nat):Own h (.slice Option.none 0 0) e sz 0 []:=⟨by simp,.inl ⟨rfl,rfl⟩⟩
theorem Own.rd {v:Value} {e:TypeId} {sz n:Nat} {xs:List Value} (r:Own h v e sz n xs):Rd h v sz n xs:=by
 obtain ⟨hl,⟨rfl,rfl⟩ | ⟨g,cap,cur,rfl,hg,hn,hm,hs,ht⟩⟩:=r
 · obtain rfl:xs=[]:=List.eq_nil_of_length_eq_zero (by simpa using hl)
   exact Rd.nil h sz
 · refine ⟨_,_,rfl,hn,hl,fun _=>⟨g,0,rfl,ai hg,fun j v hj=>?_⟩⟩
   rw [Nat.zero_add,cell_of hg]
   rw [← ht,List.getElem?_take] at hj
   split at hj
   · simpa using hj
   · cases hj
theorem Own.ext {v:Value} {e:TypeId} {sz n:Nat} {xs:List Value} (r:Own h v e sz n xs) (a:Ext S h h') (hS:∀ b,v.ownBlock=some b→¬ S b):Own h' v e sz n xs:=by
 obtain ⟨hl,⟨rfl,rfl⟩ | ⟨g,cap,cur,rfl,hg,hn,hm,hs,ht⟩⟩:=r
 · exact ⟨hl,.inl ⟨rfl,rfl⟩⟩
 · exact ⟨hl,.inr ⟨g,cap,cur,rfl,a.obj hg (hS g rfl),hn,hm,hs,ht⟩⟩
theorem Own.len {v:Value} {e:TypeId} {sz n:Nat} {xs:List Value} (r:Own h v e sz n xs):xs.length=n * sz:=r.1
theorem Own.slice {v:Value} {e:TypeId} {sz n:Nat} {xs:List Value} (r:Own h v e sz n xs):∃ A c,v=.slice A n c∧n≤c:=by
 obtain ⟨hl,⟨rfl,rfl⟩ | ⟨g,cap,cur,rfl,hg,hn,hm,hs,ht⟩⟩:=r
 · exact ⟨_,_,rfl,Nat.le_refl _⟩
 · exact ⟨_,_,rfl,hn⟩
end
section
variable {P:Program} {n:Env} {Q:eL} {f:Fr} {h:ah} {l0 rest:List Oper}
theorem bN.ok {o:Oper} {v:Value} (ho:bN P f o h v):Ok P f o h v h:=fun ρ w ha hw=>⟨w,.refl w,hw,.inl (ho ρ w ha hw)⟩
theorem gK {w w':World} (hs:eo w w'):∀ (l:List Oper) (a:Act) (w'':World),wpList P l0.toArray (cS n Q w') l a w''→wpList P l0.toArray (cS n Q w) l a w'':=by
 have upon_mono:∀ (o:Oper) (a:Act) (K K':Act→World→Prop) (r:Result Next),(∀ a w,K a w→K' a w)→o.upon P a K (cS n Q w') r→o.upon P a K' (cS n Q w) r:=by
   intro o a K K' r hKK hu
   cases r with
   | ok x w2 =>
     cases x <;> simp only [Oper.upon] at hu ⊢ <;> first | exact hKK _ _ hu | exact hu | skip
     · refine hu.mono fun e w3 he=>?_
       cases e with
       | returned v=>exact hKK _ _ he
       | panicked c=>exact he.trans hs
       | outgrown=>obtain ⟨a0,w0,q⟩:=he;exact ⟨a0,w0,q.trans hs⟩
     · exact hu.mono fun v w3 he=>hKK _ _ he
   | halt x w2=>cases x <;> simp only [Oper.upon] at hu ⊢ <;> first | exact hu.trans hs | exact hu
 intro l
 induction l with
 | nil=>intro a w'' q;exact cS.trans hs q
 | cons o' l ih =>
   intro a w'' q
   unfold wpList at q ⊢
   split
   · rename_i hw'
     rw [if_pos hw'] at q
     rcases q with q | ⟨q1,a0,w0,q2⟩
     · exact .inl (upon_mono _ _ _ _ _ ih q)
     · exact .inr ⟨q1,a0,w0,q2.trans hs⟩
   · rename_i hw'
     rw [if_neg hw'] at q
     exact ih _ _ q
def wk (f:Fr) (l0:List Oper) (j:Nat):Option Bool :=
 match (l0[j]?).bind (·.dst) with
 | some t=>match f.get t with
   | some (.bool b)=>some b
   | _=>Option.none
 | Option.none=>Option.none
theorem jW {a:Act} (ha:jP n a f) {j:Nat} {b:Bool} (hb:wk f l0 j=some b):yielded l0.toArray a.tmps j=some b:=by
 unfold wk at hb
 unfold yielded
 simp only [List.getElem?_toArray]
 cases e:(l0[j]?).bind (·.dst) with
 | none=>rw [e] at hb;cases hb
 | some t =>
   rw [e] at hb
   cases e2:f.get t with
   | none=>simp [e2] at hb
   | some v =>
     have:=ha.at_ t v e2
     cases v <;> simp [e2] at hb
     subst hb
     simp [this]
def goes (f:Fr) (l0:List Oper) (o:Oper):Bool :=
 match o.guard with
 | Option.none=>true
 | some (j,b)=>match wk f l0 j with
   | some c=>c == b
   | Option.none=>false
def Ee (f:Fr) (l0:List Oper) (j:Nat):Bool :=
 match (l0[j]?).bind (·.dst) with
 | some t=>match f.get t with
   | some (.tuple ⟨[]⟩)=>true
   | _=>false
 | Option.none=>false
theorem py {a:Act} (ha:jP n a f) {j:Nat} (hb:Ee f l0 j=true):yielded l0.toArray a.tmps j=Option.none:=by
 unfold Ee at hb
 unfold yielded
 simp only [List.getElem?_toArray]
 cases e:(l0[j]?).bind (·.dst) with
 | none=>rfl
 | some t =>
   rw [e] at hb
   simp only at hb
   split at hb
   · rename_i e2
     have:=ha.at_ t _ e2
     simp [this]
   · cases hb
def stops (f:Fr) (l0:List Oper) (o:Oper):Bool :=
 match o.guard with
 | Option.none=>false
 | some (j,b)=>match wk f l0 j with
   | some c=>c != b
   | Option.none=>Ee f l0 j
theorem cC {a:Act} (ha:jP n a f) {o:Oper} (hg:goes f l0 o=true):Region.wanted o (yielded l0.toArray a.tmps)=true:=by
 unfold goes at hg
 unfold Region.wanted
 cases e:o.guard with
 | none=>rfl
 | some p =>
   obtain ⟨j,b⟩:=p
   rw [e] at hg
   simp only at hg ⊢
   cases e2:wk f l0 j with
   | none=>simp [e2] at hg
   | some c =>
     rw [jW ha e2]
     simp [e2] at hg
     simp [hg]
theorem fa {a:Act} (ha:jP n a f) {o:Oper} (hg:stops f l0 o=true):Region.wanted o (yielded l0.toArray a.tmps)=false:=by
 unfold stops at hg
 unfold Region.wanted
 cases e:o.guard with
 | none=>rw [e] at hg;cases hg
 | some p =>
   obtain ⟨j,b⟩:=p
   rw [e] at hg
   simp only at hg ⊢
   cases e2:wk f l0 j with
   | none =>
     rw [e2] at hg
     simp only at hg
     rw [py ha hg]
     rfl
   | some c =>
     rw [jW ha e2]
     simp [e2] at hg
     simp [hg]
theorem WL.run {o:Oper} {R:Value→ah→Prop} (hok:eG P f o h R) (hg:goes f l0 o=true)
   (hk:∀ v h' a w,R v h'→jP n a f→w.heap=h'→wpList P l0.toArray (cS n Q w) rest (a.put o.dst v) w):WL P n l0 (o :: rest) Q f h:=by
 intro a w ha hw
 refine wpList_step fun K hK=>?_
 rw [if_pos (cC ha hg)]
 obtain ⟨v,w',hs,hR,hrun⟩:=hok a.eval w ha.eK hw
 unfold Oper.wp
 have hk':=gK hs _ _ _ (hk v w'.heap a w' hR ha rfl)
 rcases hrun with hrun | ⟨hrun,rfl⟩ <;> rw [hrun] <;> simp only [Oper.upon] <;> exact hK _ _ hk'
theorem bN.r {o:Oper} {v:Value} (ho:bN P f o h v):eG P f o h (fun v' h'=>v'=v∧h'=h):=fun ρ w ha hw=>⟨v,w,.refl w,⟨rfl,hw⟩,.inl (ho ρ w ha hw)⟩
theorem WL.step {o:Oper} {v:Value} {t:Nat} (hok:bN P f o h v) (hg:goes f l0 o=true) (hd:o.dst=some t) (ht:Nat.blt t n.n=true) (hk:WL P n l0 rest Q ((t,v) :: f) h):WL P n l0 (o :: rest) Q f h :=
 .run hok.r hg (by rintro v h' a w ⟨rfl,rfl⟩ ha hw;rw [hd];exact hk _ w (ha.put ht _) hw)
theorem WL.aj {o:Oper} {R:Value→ah→Prop} {t:Nat} (hok:eG P f o h R) (hg:goes f l0 o=true) (hd:o.dst=some t) (ht:Nat.blt t n.n=true) (hk:∀ v h',R v h'→WL P n l0 rest Q ((t,v) :: f) h'):WL P n l0 (o :: rest) Q f h :=
 .run hok hg (by rintro v h' a w hR ha hw;rw [hd];exact hk v h' hR _ w (ha.put ht _) hw)
theorem WL.ax {o:Oper} {R:Value→ah→Prop} (hok:eG P f o h R) (hg:goes f l0 o=true) (hd:o.dst=Option.none) (hk:∀ v h',R v h'→WL P n l0 rest Q f h'):WL P n l0 (o :: rest) Q f h :=
 .run hok hg (by rintro v h' a w hR ha hw;rw [hd];exact hk v h' hR _ w ha hw)
theorem WL.pass {o:Oper} {t:Nat} (hg:stops f l0 o=true) (hd:o.dst=some t) (ht:Nat.blt t n.n=true) (hk:WL P n l0 rest Q ((t,undef) :: f) h):WL P n l0 (o :: rest) Q f h:=by
 intro a w ha hw
 refine wpList_step fun K hK=>?_
 rw [if_neg (by rw [fa ha hg];exact Bool.false_ne_true),hd]
 exact hK _ _ (hk _ w (ha.put ht _) hw)
theorem WL.part {l:List Oper} (t:Nat) {b:Bool} (hb:f.get t=some (.bool b)) (h1:b=true→WL P n l0 l Q ((t,.bool true) :: f) h) (h2:b=false→WL P n l0 l Q ((t,.bool false) :: f) h):WL P n l0 l Q f h:=by
 cases b
 · exact fun a w ha hw=>h2 rfl a w (ha.iP hb) hw
 · exact fun a w ha hw=>h1 rfl a w (ha.iP hb) hw
theorem WL.sub {l:List Oper} (g:Fr) (hs:nV g f) (hc:WL P n l0 l Q g h):WL P n l0 l Q f h:=fun a w ha hw=>hc a w (ha.sub hs) hw
theorem WL.call {o:Oper} {t:Nat} {k:FuncId} {xs:List Operand} {vs:List Value} {ts:Array TypeId} {R:Value→ah→Prop} (ho:o.op=.call { callee:=.value (.func k),args:=⟨xs⟩,argTypes:=ts })
   (hc:∀ (args:Array Value) (w:World),(callFunc k args).run P w=.ok (.enter k args) w)
   (hx:xs.map f.ev=vs.map some) (hR:ag P k ⟨vs⟩ h R) (hg:goes f l0 o=true) (hd:o.dst=some t) (ht:Nat.blt t n.n=true) (hk:∀ v h',R v h'→WL P n l0 rest Q ((t,v) :: f) h'):WL P n l0 (o :: rest) Q f h:=by
 intro a w ha hw
 refine wpList_step fun K hK=>?_
 rw [if_pos (cC ha hg)]
 have hargs:xs.map a.eval=vs:=by
   clear ho hR
   induction xs generalizing vs with
   | nil=>cases vs <;> simp_all
   | cons x xs ih =>
     cases vs with
     | nil=>simp at hx
     | cons v vs =>
       simp only [List.map_cons,List.cons.injEq] at hx ⊢
       exact ⟨ha.eK _ _ hx.1,ih hx.2⟩
 unfold Oper.wp
 have hrun:(execOp a.eval o).run P w=.ok (.enter k ⟨vs⟩) w:=by
   have e2:Array.map a.eval ⟨xs⟩=⟨vs⟩:=by rw [← hargs];simp
   simp [execOp,ho,resolve,Deferred.ofValue,invoke,Act.eval,e2,hc]
 rw [hrun]
 simp only [Oper.upon]
 refine (hR w hw).mono fun e w' ⟨hs,v,he,hv⟩=>?_
 subst he
 rw [hd]
 exact hK _ _ (gK hs _ _ _ (hk v _ hv _ w' (ha.put ht _) rfl))
end
section
variable {P:Program} {f:Fr} {h:ah} {d:Option Tmp} {ty:TypeId} {pos:String} {af:Array Edge} {g:Option (Nat × Bool)}
theorem aA {t:TypeId} {x:Operand} {b o:Nat} {v:Value} (ht:∀ w,(isAgg t).run P w=.ok false w) (hx:f.ev x=some (.pointer (some ⟨b,o,Option.none⟩))) (hc:cell h ⟨b,o,Option.none⟩=some v) :
   bN P f ⟨d,.load t x,ty,pos,af,g⟩ h v :=
 fun ρ w ha hw=>by
   subst hw
   have h1:w.cell? ⟨b,o,Option.none⟩=some v:=hc
   simp [execOp,ha _ _ hx,Instr.loadAt,Instr.sureAddr,loadVar,ht,h1]
theorem ay {t:TypeId} {x:Operand} {b o k:Nat} {vs:List Value} (ht:∀ w,(isAgg t).run P w=.ok true w) (hz:∀ w,(sizeOf t).run P w=.ok k w) (hx:f.ev x=some (.pointer (some ⟨b,o,Option.none⟩))) (hk:vs.length=k) (hc:At h b o vs) :
   bN P f ⟨d,.load t x,ty,pos,af,g⟩ h (.agg ⟨vs⟩) :=
 fun ρ w ha hw=>by
   subst hw
   subst hk
   have h1:(loadCells ⟨b,o,Option.none⟩ vs.length).run P w=.ok vs.toArray w:=run_loadCells_list w _ vs fun j v hj=>by rw [Addr.add_lit];exact hc j v hj
   simp [execOp,ha _ _ hx,Instr.loadAt,Instr.sureAddr,loadVar,ht,hz,h1]
theorem eN {w:World} {b o:Nat} {cs:Array Value} {e:TypeId} {v:Value} (hb:w.heap[b]?=some (.cells cs e (0,0))) (ho:o < cs.size) (hv:v.oneCell'=true) :
   ∃ w',(store ⟨b,o,Option.none⟩ v).run P w=.ok () w'∧eo w w'∧w'.heap=w.heap.setIfInBounds b (.cells (cs.setIfInBounds o v) e (0,0)):=by
 refine ⟨w.setCell ⟨b,o,Option.none⟩ v,?_,⟨rfl,rfl,rfl,trivial⟩,?_⟩
 · rw [run_store P w _ _ _ hv]
   have h1:w.cell? ⟨b,o,Option.none⟩=some cs[o]:=by simp [World.cell?,hb,ho]
   have h2:w.frozen? ⟨b,o,Option.none⟩=false:=by simp [World.frozen?,hb]
   simp [h1,h2]
 · obtain ⟨hlt,hv⟩:=Array.getElem?_eq_some_iff.1 hb
   apply Array.ext_getElem?
   intro i
   simp only [World.setCell,Array.getElem?_modify]
   by_cases e1:b=i
   · subst e1;simp [hlt,hv]
   · simp [e1,Array.getElem?_setIfInBounds_ne e1]
theorem xR {t:TypeId} {x y:Operand} {b o:Nat} {cs:List Value} {e:TypeId} {v:Value} (hz:∀ w,(sizeOf t).run P w=.ok 1 w) (hx:f.ev x=some (.pointer (some ⟨b,o,Option.none⟩))) (hy:f.ev y=some v)
   (hb:h[b]?=some (.cells ⟨cs⟩ e (0,0))) (ho:o < cs.length) (hv:v.oneCell'=true) (Jo:v.cells=#[v]) :
   eG P f ⟨d,.store t x y,ty,pos,af,g⟩ h (fun u h'=>u=undef∧h'=h.setIfInBounds b (.cells ⟨cs.set o v⟩ e (0,0))) :=
 fun ρ w ha hw=>by
   subst hw
   obtain ⟨w',hr,hs,hh⟩:=eN (P:=P) hb (by simpa using ho) hv
   refine ⟨undef,w',hs,⟨rfl,by rw [hh];simp⟩,.inr ⟨?_,rfl⟩⟩
   simp [execOp,ha _ _ hx,ha _ _ hy,Instr.storeAt,Instr.sureAddr,storeVar,hz,Jo,storeCells,Addr.add_zero',hr]
theorem cJ (b:Nat) (e:TypeId):∀ (vs:List Value) (i o:Nat) (cs:List Value) (w:World),w.heap[b]?=some (.cells ⟨cs⟩ e (0,0))→o+i+vs.length≤cs.length→(∀ v∈vs,v.oneCell'=true) →
   ∃ w',(storeCells ⟨b,o,Option.none⟩ vs i).run P w=.ok () w'∧eo w w'∧w'.heap=w.heap.setIfInBounds b (.cells ⟨cs.take (o+i)++vs++cs.drop (o+i+vs.length)⟩ e (0,0))
 | [],i,o,cs,w,hb,hl,_=>by
   refine ⟨w,by simp [storeCells],.refl w,?_⟩
   obtain ⟨hlt,hv⟩:=Array.getElem?_eq_some_iff.1 hb
   apply Array.ext_getElem?
   intro j
   by_cases e1:b=j
   · subst e1;simp [hlt,hv]
   · simp [Array.getElem?_setIfInBounds_ne e1]
 | v :: vs,i,o,cs,w,hb,hl,hv=>by
   simp only [List.length_cons] at hl
   obtain ⟨w1,hr,hs,hh⟩:=eN (P:=P) (w:=w) (b:=b) (o:=o+i) (cs:=⟨cs⟩) (v:=v) hb (by simp;omega) (hv v (by simp))
   have aR:w1.heap[b]?=some (.cells ⟨cs.set (o+i) v⟩ e (0,0)):=by rw [hh,dD hb];simp
   obtain ⟨w2,qO,pz,Mf⟩:=cJ b e vs (i+1) o (cs.set (o+i) v) w1 aR (by rw [List.length_set];omega) (fun u hu=>hv u (by simp [hu]))
   refine ⟨w2,?_,hs.trans pz,?_⟩
   · simp only [storeCells,Addr.add_lit,Sem.run_bind,hr,Result.andThen_ok]
     exact qO
   · rw [Mf,hh]
     have hlt:=ai hb
     apply Array.ext_getElem?
     intro j
     by_cases e1:b=j
     · subst e1
       simp only [Array.getElem?_setIfInBounds_self,Array.size_setIfInBounds,hlt,if_true]
       congr 3
       have e3:o+(i+1)=o+i+1:=by omega
       have e4:o+i+1+vs.length=o+i+(vs.length+1):=by omega
       rw [e3,List.length_cons,List.take_set,List.drop_set_of_lt (by omega),e4]
       have:List.take (o+i+1) cs=List.take (o+i) cs++[cs[o+i]'(by omega)]:=by rw [List.take_succ_eq_append_getElem (by omega)]
       rw [this,List.set_append_right _ _ (by simp;omega)]
       simp only [List.length_take]
       have e5:o+i - min (o+i) cs.length=0:=by omega
       simp [e5]
     · simp [Array.getElem?_setIfInBounds_ne e1]
theorem wm {t:TypeId} {x y:Operand} {b o k:Nat} {cs vs:List Value} {e:TypeId} (hz:∀ w,(sizeOf t).run P w=.ok k w) (hx:f.ev x=some (.pointer (some ⟨b,o,Option.none⟩))) (hy:f.ev y=some (.agg ⟨vs⟩))
   (hk:vs.length=k) (hb:h[b]?=some (.cells ⟨cs⟩ e (0,0))) (ho:o+vs.length≤cs.length) (hv:∀ v∈vs,v.oneCell'=true) :
   eG P f ⟨d,.store t x y,ty,pos,af,g⟩ h (fun u h'=>u=undef∧h'=h.setIfInBounds b (.cells ⟨cs.take o++vs++cs.drop (o+vs.length)⟩ e (0,0))) :=
 fun ρ w ha hw=>by
   subst hw
   obtain ⟨w',hr,hs,hh⟩:=cJ (P:=P) b e vs 0 o cs w hb (by omega) hv
   refine ⟨undef,w',hs,⟨rfl,by rw [hh];simp⟩,.inr ⟨?_,rfl⟩⟩
   have hc:(Value.agg ⟨vs⟩).cells=⟨vs⟩:=rfl
   simp [execOp,ha _ _ hx,ha _ _ hy,Instr.storeAt,Instr.sureAddr,storeVar,hz,hc,hk,hr]
theorem xS {t:TypeId} {z:Value} (hz:∀ w,(zeroValue t).run P w=.ok z w) :
   eG P f ⟨d,.alloc t,ty,pos,af,g⟩ h (fun u h'=>u=.pointer (some ⟨h.size,0,Option.none⟩)∧h'=h.push (.cells z.cells t (0,0))) :=
 fun ρ w _ hw=>by
   subst hw
   refine ⟨_,w.alloc (.cells z.cells t (0,0)),⟨rfl,rfl,rfl,trivial⟩,⟨rfl,rfl⟩,.inl ?_⟩
   simp [execOp,Instr.alloc,hz,newVar,newRow,newObj,Sem.run]
theorem Ef {t:TypeId} {x:Operand} {v:Value} (hx:f.ev x=some v) :
   eG P f ⟨d,.box t x,ty,pos,af,g⟩ h (fun u h'=>u=.pointer (some ⟨h.size,0,Option.none⟩)∧h'=h.push (.cells v.cells t (0,0))) :=
 fun ρ w ha hw=>by
   subst hw
   refine ⟨_,w.alloc (.cells v.cells t (0,0)),⟨rfl,rfl,rfl,trivial⟩,⟨rfl,rfl⟩,.inl ?_⟩
   simp [execOp,ha _ _ hx,Instr.box,newVar,newRow,newObj,Sem.run]
theorem xT {t:TypeId} {ps:List (Nat × Operand)} {qs:List (Nat × Value)} {cs:List Value} (hp:ps.map (fun p=>(p.1,f.ev p.2))=qs.map fun q=>(q.1,some q.2)) (hb:P.built t qs=some ⟨cs⟩) :
   bN P f ⟨d,.build t ⟨ps⟩,ty,pos,af,g⟩ h (.agg ⟨cs⟩) :=
 fun ρ w ha _=>by
   have e:ps.map (fun p=>(p.1,ρ p.2))=qs:=by
     clear hb
     induction ps generalizing qs with
     | nil=>cases qs <;> simp_all
     | cons p ps ih =>
       cases qs with
       | nil=>simp at hp
       | cons q qs =>
         simp only [List.map_cons,List.cons.injEq,Prod.mk.injEq] at hp ⊢
         refine ⟨?_,ih hp.2⟩
         rw [hp.1.1,ha _ _ hp.1.2]
   have e2:(Array.map (fun x:Nat × Operand=>(x.fst,ρ x.snd)) ⟨ps⟩)=⟨qs⟩:=by rw [← e];simp
   have:=run_build (P:=P) w t ⟨qs⟩ ⟨cs⟩ hb
   simp [execOp,e2,this]
theorem th {t:TypeId} :
   eG P f ⟨d,.makeMap t Option.none,ty,pos,af,g⟩ h (fun u h'=>u=.map (some h.size)∧h'=h.push (.map #[] 0)) :=
 fun ρ w _ hw=>by
   subst hw
   refine ⟨_,w.alloc (.map #[] 0),⟨rfl,rfl,rfl,trivial⟩,⟨rfl,rfl⟩,.inl ?_⟩
   simp [execOp,Instr.makeMap,newObj,Sem.run]
theorem eH {fn:Fn} {xs ys:List Operand} {vs us:List Value} (hx:xs.map f.ev=vs.map some) (hy:ys.map f.ev=us.map some) :
   bN P f ⟨d,.makeFunc fn ⟨xs⟩ ⟨ys⟩,ty,pos,af,g⟩ h (.func fn ⟨vs⟩ ⟨us⟩) :=
 fun ρ w ha _=>by
   have key:∀ (xs:List Operand) (vs:List Value),xs.map f.ev=vs.map some→xs.map ρ=vs:=by
     intro xs
     induction xs with
     | nil=>intro vs hv;cases vs <;> simp_all
     | cons x xs ih =>
       intro vs hv
       cases vs with
       | nil=>simp at hv
       | cons v vs =>
         simp only [List.map_cons,List.cons.injEq] at hv ⊢
         exact ⟨ha _ _ hv.1,ih _ hv.2⟩
   have e1:Array.map ρ ⟨xs⟩=⟨vs⟩:=by rw [← key xs vs hx];simp
   have e2:Array.map ρ ⟨ys⟩=⟨us⟩:=by rw [← key ys us hy];simp
   simp [execOp,e1,e2,Instr.makeFunc]
theorem Own.up {v:Value} {e:TypeId} {sz n:Nat} {xs:List Value} {w:World} (r:Own w.heap v e sz n xs):w.ownsRow 0 e sz v n xs:=by
 obtain ⟨hl,r | ⟨g,cap,cur,rfl,hg,r⟩⟩:=r
 · exact ⟨hl,.inl r⟩
 · exact ⟨hl,.inr ⟨g,cap,cur,rfl,Nat.zero_le _,hg,r⟩⟩
theorem Own.down {v:Value} {e:TypeId} {sz n:Nat} {xs:List Value} {w:World} (r:w.ownsRow 0 e sz v n xs):Own w.heap v e sz n xs:=by
 obtain ⟨hl,r | ⟨g,cap,cur,rfl,_,hg,r⟩⟩:=r
 · exact ⟨hl,.inl r⟩
 · exact ⟨hl,.inr ⟨g,cap,cur,rfl,hg,r⟩⟩
theorem aT {x y:Operand} {t e:TypeId} {i:TypeInfo} {z:Value} {sz bytes:Nat} {ts:Array TypeId} (hts:ts=#[t,t]) (ht:P.underlying t=some (.slice e)) (hi:P.info? e=some i) (hz:i.zero=some z) (hsz:i.size=sz) (hby:i.bytes=bytes) (hzs:z.cells.size=sz) (hpos:0 < sz)
   {v u:Value} {n m:Nat} {xs news:List Value} (hx:f.ev x=some v) (hy:f.ev y=some u) (hown:Own h v e sz n xs) (hrd:Rd h u sz m news) (h1:∀ c∈news,c.oneCell'=true)
   (Mg:n+m≤maxLen) (hb:(n+m) * bytes≤140737488355328) :
   eG P f ⟨d,.call { callee:=.builtin .append,args:=#[x,y],argTypes:=ts },ty,pos,af,g⟩ h
     (fun v' h'=>Own h' v' e sz (n+m) (xs++news)∧Ext (fun k=>v.ownBlock=some k) h h'∧(v'.ownBlock=v.ownBlock∨v'.ownBlock=some h.size)) :=
 fun ρ w ha hw=>by
   subst hw
   subst hts
   obtain ⟨A,c,rfl,hc,hl,hp⟩:=hrd
   rcases A with _ | a
   · have hm : m = 0 := by
       rcases Nat.eq_zero_or_pos m with e | e
       · exact e
       · obtain ⟨b,o,e,_⟩:=hp e;cases e
     subst hm
     obtain rfl:news=[]:=List.eq_nil_of_length_eq_zero (by simpa using hl)
     refine ⟨v,w,.refl w,⟨by simpa using hown,.refl _ _,.inl rfl⟩,.inl ?_⟩
     obtain ⟨kO,⟨rfl,rfl⟩ | ⟨g,cap,cur,rfl,hg,hn,r⟩⟩:=hown
     · simp [execOp,resolve,invoke,builtin,ha _ _ hx,ha _ _ hy,Builtin.append_,run_underlying ht,sizeOf,typeInfo,hi,Builtin.lenOf,Builtin.firstCells]
     · simp [execOp,resolve,invoke,builtin,ha _ _ hx,ha _ _ hy,Builtin.append_,run_underlying ht,sizeOf,typeInfo,hi,Builtin.lenOf,Builtin.firstCells,hn,storeCells]
   · have hnews : ∀ j u, news[j]? = some u → w.cell? (a.add j) = some u := by
       intro j u hj
       have hm:0 < m:=by
         rcases Nat.eq_zero_or_pos m with e | e
         · subst e
           have:news=[]:=List.eq_nil_of_length_eq_zero (by simpa using hl)
           subst this
           simp at hj
         · exact e
       obtain ⟨b,o,e,_,hat⟩:=hp hm
       injection e with e
       subst e
       rw [Addr.add_lit]
       exact hat j u hj
     obtain ⟨v',w',hrun,ho',hgr,_,hloc⟩:=run_append_own_at (P:=P) w 0 t ty e i z sz bytes ht hi hz hsz hby hzs hpos v n xs hown.up a m c news hl hnews h1 Mg hb (Nat.zero_le _)
     refine ⟨v',w',⟨hgr.tape,hgr.os,hgr.output,trivial⟩,⟨.down ho',⟨hgr.size,fun k hk hS=>hgr.block k hk (fun e=>hS e.symm)⟩,hloc⟩,.inl ?_⟩
     simp [execOp,resolve,invoke,builtin,ha _ _ hx,ha _ _ hy,hrun]
theorem oC {v:Value} {sz n:Nat} {xs:List Value} (r:Rd h v sz n xs) {l k:Nat} (hl:l≤k) (hk:k≤n) :
   ∃ A c,v=.slice A n c∧Rd h (.slice (if c=l then A else A.map (·.add (l * sz))) (k - l) (c - l)) sz (k - l) ((xs.drop (l * sz)).take ((k - l) * sz)):=by
 obtain ⟨A,c,rfl,hc,hlen,hp⟩:=r
 refine ⟨A,c,rfl,_,_,rfl,by omega,?_,fun hn=>?_⟩
 · rw [List.length_take,List.length_drop,hlen,← Nat.sub_mul]
   exact Nat.min_eq_left (Nat.mul_le_mul_right _ (by omega))
 · obtain ⟨b,o,rfl,hb,hat⟩:=hp (by omega)
   refine ⟨b,o+l * sz,?_,hb,(hat.drop _).take _⟩
   rw [if_neg (by omega)]
   simp [Addr.add_lit]
theorem qV {t e:TypeId} {x lo hi:Operand} {A:Option Addr} {n c sz:Nat} {l k:Int} (ht:P.underlying t=some (.slice e)) (hz:∀ w,(sizeOf e).run P w=.ok sz w) (hx:f.ev x=some (.slice A n c)) (hlo:f.ev lo=some (In l)) (hhi:f.ev hi=some (In k)) (h0:0≤l∧l≤k∧k≤c) :
   bN P f ⟨d,.slice t x (some lo) (some hi) Option.none,ty,pos,af,g⟩ h (.slice (if c=l.toNat then A else A.map (·.add (l.toNat * sz))) (k.toNat - l.toNat) (c - l.toNat)) :=
 fun ρ w ha _=>by
   have e:(k.toNat:Int)=k:=Int.toNat_of_nonneg (by omega)
   have e1:(0≤l∧l≤k):=⟨h0.1,h0.2.1⟩
   have e2:(0≤k∧k≤(c:Int)):=⟨by omega,h0.2.2⟩
   simp [execOp,ha _ _ hx,ha _ _ hlo,ha _ _ hhi,Instr.sliceAt,Instr.slice,run_underlying ht,Instr.sliceBounds,Instr.sliceBound,asIntOf,e1,e2,e,hz]
theorem jy {t e:TypeId} {x hi:Operand} {A:Option Addr} {n c sz:Nat} {k:Int} (ht:P.underlying t=some (.slice e)) (hz:∀ w,(sizeOf e).run P w=.ok sz w) (hx:f.ev x=some (.slice A n c)) (hhi:f.ev hi=some (In k)) (h0:0≤k∧k≤c) :
   bN P f ⟨d,.slice t x Option.none (some hi) Option.none,ty,pos,af,g⟩ h (.slice A k.toNat c) :=
 fun ρ w ha _=>by
   by_cases Gv:c=0
   · subst Gv
     obtain rfl:k=0:=by omega
     simp [execOp,ha _ _ hx,ha _ _ hhi,Instr.sliceAt,Instr.slice,run_underlying ht,Instr.sliceBounds,Instr.sliceBound,asIntOf,hz]
   · cases A <;> simp [execOp,ha _ _ hx,ha _ _ hhi,Instr.sliceAt,Instr.slice,run_underlying ht,Instr.sliceBounds,Instr.sliceBound,asIntOf,h0,hz,Addr.add_zero']
theorem tm {t e:TypeId} {x lo:Operand} {A:Option Addr} {n c sz:Nat} {l:Int} (ht:P.underlying t=some (.slice e)) (hz:∀ w,(sizeOf e).run P w=.ok sz w) (hx:f.ev x=some (.slice A n c)) (hlo:f.ev lo=some (In l)) (h0:0≤l∧l≤n) :
   bN P f ⟨d,.slice t x (some lo) Option.none Option.none,ty,pos,af,g⟩ h (.slice (if c=l.toNat then A else A.map (·.add (l.toNat * sz))) (n - l.toNat) (c - l.toNat)) :=
 fun ρ w ha _=>by
   simp [execOp,ha _ _ hx,ha _ _ hlo,Instr.sliceAt,Instr.slice,run_underlying ht,Instr.sliceBounds,Instr.sliceBound,asIntOf,h0,hz]
end
section
variable {P:Program} {n:Env} {f:Fr} {h:ah}
def gm (P:Program) (h:ah) (f:Fr):List ResultVar→List Value→Prop
 | [],[]=>True
 | .tmp t :: r,v :: vs=>f.get t=some v∧gm P h f r vs
 | .cell t ty :: r,v :: vs=>(∃ a,f.get t=some (.pointer (some a))∧∀ w:World,w.heap=h→(loadVar ty a).run P w=.ok v w)∧gm P h f r vs
 | _,_=>False
def IU:List Value→Value
 | [v]=>v
 | vs=>.tuple ⟨vs⟩
def wq (P:Program) (fn:Func) (R:Value→ah→Prop):eL
 | .normal,f,h | .ret,f,h=>∃ vs,gm P h f fn.results.toList vs∧R (IU vs) h
 | _,_,_=>False
theorem jk {α:Type} (F:α→Sem Value) {w:World}:∀ (rs:List α) (vs:List Value),rs.length=vs.length→(∀ (i:Nat) (r:α) (v:Value),rs[i]?=some r→vs[i]?=some v→(F r).run P w=.ok v w)→(rs.mapM F).run P w=.ok vs w
 | [],[],_,_=>by simp
 | r :: rs,v :: vs,hl,hr=>by
   have h1:=hr 0 r v rfl rfl
   have h2:=jk F rs vs (by simpa using hl) (fun i r v h1 h2=>hr (i+1) r v (by simpa using h1) (by simpa using h2))
   simp [List.mapM_cons,h1,h2]
 | [],_ :: _,hl,_=>by simp at hl
 | _ :: _,[],hl,_=>by simp at hl
theorem gm.len:∀ (rs:List ResultVar) (vs:List Value),gm P h f rs vs→rs.length=vs.length
 | [],[],_=>rfl
 | .tmp t :: rs,v :: vs,hr=>by simp [gm.len rs vs hr.2]
 | .cell t ty :: rs,v :: vs,hr=>by simp [gm.len rs vs hr.2]
 | [],_ :: _,hr=>hr.elim
 | .tmp _ :: _,[],hr=>hr.elim
 | .cell _ _ :: _,[],hr=>hr.elim
theorem gm.get:∀ (rs:List ResultVar) (vs:List Value),gm P h f rs vs→∀ (i:Nat) (r:ResultVar) (v:Value),rs[i]?=some r→vs[i]?=some v→gm P h f [r] [v]
 | .tmp t :: rs,v :: vs,hr,0,r,u,h1,h2=>by simp at h1 h2;subst h1;subst h2;exact ⟨hr.1,trivial⟩
 | .cell t ty :: rs,v :: vs,hr,0,r,u,h1,h2=>by simp at h1 h2;subst h1;subst h2;exact ⟨hr.1,trivial⟩
 | .tmp t :: rs,v :: vs,hr,i+1,r,u,h1,h2=>gm.get rs vs hr.2 i r u (by simpa using h1) (by simpa using h2)
 | .cell t ty :: rs,v :: vs,hr,i+1,r,u,h1,h2=>gm.get rs vs hr.2 i r u (by simpa using h1) (by simpa using h2)
 | [],_,_,i,r,u,h1,_=>by simp at h1
 | .tmp _ :: _,[],hr,_,_,_,_,_=>hr.elim
 | .cell _ _ :: _,[],hr,_,_,_,_,_=>hr.elim
theorem lH {fn:Func} {a:Act} (ha:jP n a f) {w:World} (hw:w.heap=h) {vs:List Value} (hr:gm P h f fn.results.toList vs):(results fn a.tmps).run P w=.ok (IU vs) w:=by
 have h1:=jk (P:=P) (fun r:ResultVar=>match r with | .tmp t=>(pure (a.tmps.getD t undef):Sem Value) | .cell p t=>do loadVar t (← asAddr (a.tmps.getD p undef))) (w:=w) fn.results.toList vs (gm.len _ _ hr) (fun i r v hi hv=>by
   have qP:=gm.get _ _ hr i r v hi hv
   cases r with
   | tmp t =>
     have h1:=ha.at_ _ _ qP.1
     simp [h1]
   | cell t ty =>
     obtain ⟨⟨p,hp,hl⟩,_⟩:=qP
     have h1:=ha.at_ _ _ hp
     simp [h1,asAddr,hl w hw])
 unfold results
 rw [Array.mapM_eq_mapM_toList]
 simp only [Sem.run_bind,Sem.run_map]
 refine Eq.trans (congrArg (fun r=>Result.andThen r _) (congrArg (fun r=>Result.andThen r _) h1)) ?_
 simp only [Result.andThen_ok,Sem.run_pure]
 congr 1
 match vs with
 | []=>rfl
 | [v]=>rfl
 | v :: u :: r=>simp [IU]
theorem tq {α:Type} {xs:Array α} {i:Nat} {x:α} (hx:xs[i]?=some x):i < xs.size:=(Array.getElem?_eq_some_iff.1 hx).1
theorem wu {m:Nat} {fn:Func} {args:List Value} {f0:Fr} (hn:fn.ntmps=m) (hle:args.length≤m) (ha:D9 f0 args) :
   jP ⟨m,[],Option.none⟩ { tmps:=(⟨args⟩:Array Value)++Array.replicate (fn.ntmps - (⟨args⟩:Array Value).size) undef,defers:=[] } f0:=by
 refine ⟨by simp [hn];omega,rfl,?_⟩
 induction f0 with
 | nil=>intro t v hv;cases hv
 | cons p r ih =>
   obtain ⟨t0,v0⟩:=p
   intro t v hv
   rw [Fr.jQ] at hv
   by_cases e:t0=t
   · subst e
     rw [if_pos rfl] at hv
     injection hv with hv
     subst hv
     have h1:(⟨args⟩:Array Value)[t0]?=some v0:=by simpa using ha.1
     rw [Array.getElem?_append_left (tq h1)]
     exact h1
   · rw [if_neg e] at hv
     exact ih ha.2 t v hv
theorem calls {m:Nat} {k:FuncId} {fn:Func} {c:Code} {args:List Value} {R:Value→ah→Prop} (f0:Fr) (hf:P.funcs[k]?=some fn) (hb:fn.body=some c) (hn:fn.ntmps=m) (hsz:Nat.ble args.length m=true) (ha:D9 f0 args)
   (hc:WC P ⟨m,[],Option.none⟩ c (wq P fn R) f0 h):ag P k ⟨args⟩ h R:=by
 intro w hw
 refine calls_of_wp hf hb ?_
 have hle:args.length≤m:=by simpa [Nat.ble_eq] using hsz
 have hrep:jP ⟨m,[],Option.none⟩ { tmps:=(⟨args⟩:Array Value)++Array.replicate (fn.ntmps - (⟨args⟩:Array Value).size) undef,defers:=[] } f0:=wu hn hle ha
 refine Go.wp_mono (wpIn_wide.1 (hc _ w hrep hw)) ?_
 rintro e a w' ⟨hl,hs,g,hg,hq⟩
 cases e with
 | normal =>
   obtain ⟨vs,hr,hR⟩:=hq
   exact ⟨hg.defers,_,lH hg rfl hr,hs,_,rfl,hR⟩
 | ret =>
   obtain ⟨vs,hr,hR⟩:=hq
   exact ⟨hg.defers,_,lH hg rfl hr,hs,_,rfl,hR⟩
 | _=>exact hq.elim
end
section
variable {P:Program} {n:Env} {Q:eL} {f:Fr} {h:ah} {l0 rest:List Oper} {C:ah→Prop}
def WQ (P:Program) (n:Env) (l0 l:List Oper) (C:ah→Prop) (K:Fr→Prop) (f:Fr):Prop :=
 ∀ (a:Act) (w0:World),jP n a f→wpQuiet P l0.toArray (fun w=>eo w0 w∧C w.heap) (fun a'=>∃ g,jP n a' g∧K g) l a
theorem fe {ops:Array Oper} {C:World→Prop} {Q Q':Act→Prop} (hQ:∀ a,Q a→Q' a):∀ (l:List Oper) (a:Act),wpQuiet P ops C Q l a→wpQuiet P ops C Q' l a
 | [],a,hq=>hQ a hq
 | o :: l,a,hq=>by
   unfold wpQuiet at hq ⊢
   split
   · rename_i hw
     rw [if_pos hw] at hq
     obtain ⟨v,h1,h2⟩:=hq
     exact ⟨v,h1,fe hQ l _ h2⟩
   · rename_i hw
     rw [if_neg hw] at hq
     exact fe hQ l _ hq
theorem WC.draw {id:Nat} {l:List Oper} (C:ah→Prop) (hm:P.follows .mixedOrders=true) (hB:Region.lexB .any l.toArray=true) (hC:C h)
   (hq:WQ P n l l C (fun g=>∀ h',C h'→Q .normal g h') f) (hd:n.ro=Option.none∨jj l=true:=by first | exact .inl rfl | exact .inr rfl):WC P n (.region id l.toArray true) Q f h:=by
 intro a w ha hw
 refine td (by simpa using hd) cS.shut hm ?_
 simp only [Region.lexB,Bool.and_eq_true] at hB
 refine wpAny_of_quiet (C:=fun w'=>eo w w'∧C w'.heap) (Q:=fun a'=>∀ w',(eo w w'∧C w'.heap)→cS n Q w .normal a' w') (fun _ w' hw' h=>h w' hw') _ _ _ _ ⟨⟨rfl,rfl,rfl,trivial⟩,by rw [← hw] at hC;exact hC⟩ ?_
 have h1:=fe (Q':=fun a'=>∀ w',(eo w w'∧C w'.heap)→cS n Q w .normal a' w') (by
   rintro a' ⟨g,hg,hk⟩ w' ⟨hs,hc⟩
   exact ⟨rfl,hs,g,hg,hk _ hc⟩) _ _ (hq a w ha)
 have:=wpAnyQ_lex (P:=P) (C:=fun w'=>eo w w'∧C w'.heap) (md:=.any) hB.1 l 0 (Array.replicate l.toArray.size false) a (by simp) (by simpa using hB.2) h1
 simpa using this
variable {K:Fr→Prop}
theorem WQ.nil (hk:K f):WQ P n l0 [] C K f:=fun _ _ ha=>⟨f,ha,hk⟩
theorem WQ.step {o:Oper} {v:Value} {t:Nat} (hok:∀ h,C h→bN P f o h v) (hg:goes f l0 o=true) (hd:o.dst=some t) (ht:Nat.blt t n.n=true) (hk:WQ P n l0 rest C K ((t,v) :: f)):WQ P n l0 (o :: rest) C K f:=by
 intro a w0 ha
 refine wpQuiet_step fun K' hK'=>?_
 rw [if_pos (cC ha hg)]
 refine ⟨v,fun w hw=>?_,?_⟩
 · unfold Oper.quietAt
   rw [hok _ hw.2 _ w ha.eK rfl]
   exact ⟨rfl,rfl⟩
 · rw [hd];exact hK' _ (hk _ w0 (ha.put ht _))
theorem WQ.pass {o:Oper} {t:Nat} (hg:stops f l0 o=true) (hd:o.dst=some t) (ht:Nat.blt t n.n=true) (hk:WQ P n l0 rest C K ((t,undef) :: f)):WQ P n l0 (o :: rest) C K f:=by
 intro a w0 ha
 refine wpQuiet_step fun K' hK'=>?_
 rw [if_neg (by rw [fa ha hg];exact Bool.false_ne_true),hd]
 exact hK' _ (hk _ w0 (ha.put ht _))
theorem WQ.part {l:List Oper} (t:Nat) {b:Bool} (hb:f.get t=some (.bool b)) (h1:b=true→WQ P n l0 l C K ((t,.bool true) :: f)) (h2:b=false→WQ P n l0 l C K ((t,.bool false) :: f)):WQ P n l0 l C K f:=by
 cases b
 · exact fun a w ha=>h2 rfl a w (ha.iP hb)
 · exact fun a w ha=>h1 rfl a w (ha.iP hb)
theorem WQ.call {o:Oper} {t:Nat} {k:FuncId} {xs:List Operand} {vs:List Value} {ts:Array TypeId} {v:Value} (ho:o.op=.call { callee:=.value (.func k),args:=⟨xs⟩,argTypes:=ts })
   (hc:∀ (args:Array Value) (w:World),(callFunc k args).run P w=.ok (.enter k args) w)
   (hx:xs.map f.ev=vs.map some) (hR:∀ h,C h→ag P k ⟨vs⟩ h (fun u h'=>u=v∧C h')) (hg:goes f l0 o=true) (hd:o.dst=some t) (ht:Nat.blt t n.n=true) (hk:WQ P n l0 rest C K ((t,v) :: f)):WQ P n l0 (o :: rest) C K f:=by
 intro a w0 ha
 refine wpQuiet_step fun K' hK'=>?_
 rw [if_pos (cC ha hg)]
 have hargs:xs.map a.eval=vs:=by
   clear ho hR
   induction xs generalizing vs with
   | nil=>cases vs <;> simp_all
   | cons x xs ih =>
     cases vs with
     | nil=>simp at hx
     | cons v vs =>
       simp only [List.map_cons,List.cons.injEq] at hx ⊢
       exact ⟨ha.eK _ _ hx.1,ih hx.2⟩
 refine ⟨v,fun w hw=>?_,?_⟩
 · unfold Oper.quietAt
   have e2:Array.map a.eval ⟨xs⟩=⟨vs⟩:=by rw [← hargs];simp
   have hrun:(execOp a.eval o).run P w=.ok (.enter k ⟨vs⟩) w:=by
     simp [execOp,ho,resolve,Deferred.ofValue,invoke,Act.eval,e2,hc]
   rw [hrun]
   refine ⟨rfl,(hR _ hw.2 w rfl).mono ?_⟩
   rintro e w' ⟨hs,u,he,hu,hc'⟩
   exact ⟨by rw [he,hu],hw.1.trans hs,hc'⟩
 · rw [hd];exact hK' _ (hk _ w0 (ha.put ht _))
end
end Go.RK
namespace Go.RK
open Go Go.MapKept
structure Br (i:Nat) (p:Prop):Prop where
 out:p
theorem Br.ab {i:Nat} {p:Prop} (h:Br i p):Br i p:=h
section
variable {P:Program} {n:Env} {Q:eL} {f:Fr} {h:ah} {K:Fr→ah→Prop}
theorem aS (hk:K f h):lG K Q .normal f h:=hk
theorem aU {i:Nat} (hk:Q (.exit i) f h):lG K Q (.exit i) f h:=hk
theorem aZ (hk:Q .ret f h):lG K Q .ret f h:=hk
theorem aL {id:Nat} (hk:Q .normal f h):iy id Q .normal f h:=hk
theorem aV {id:Nat} (hk:Q .ret f h):iy id Q .ret f h:=hk
theorem aJ {id:Nat} (hk:Q .normal f h):iy id Q (.exit id) f h:=by simp only [iy,if_true];exact hk
theorem aD {id i:Nat} (hne:Nat.beq i id=false) (hk:Q (.exit i) f h):iy id Q (.exit i) f h:=by
 have e:i ≠ id:=fun e=>by rw [e,Nat.beq_refl] at hne;cases hne
 simp only [iy,if_neg e]
 exact hk
theorem WC.GQ {c:Operand} {x y:Code} {b:Bool} (i j:Nat) (hc:f.ev c=some (.bool b)) (ht:b=true→Br i (WC P n x Q f h)) (hf:b=false→Br j (WC P n y Q f h)):WC P n (.cond c x y) Q f h :=
 .cond hc (fun e=>(ht e).out) (fun e=>(hf e).out)
theorem WC.BD {c:Operand} {x y:Code} (i:Nat) (hc:f.ev c=some (.bool true)) (ht:Br i (WC P n x Q f h)):WC P n (.cond c x y) Q f h:=.Ea hc ht.out
theorem WC.BE {c:Operand} {x y:Code} (j:Nat) (hc:f.ev c=some (.bool false)) (hf:Br j (WC P n y Q f h)):WC P n (.cond c x y) Q f h:=.Eb hc hf.out
theorem WC.bD {X:Type} {c:Code} (G:X→Fr) (fx:Fr) (I:X→ah→Prop) (μ:X→Nat) (x0:X) (hs:nV (G x0++fx) f) (h0:I x0 h)
   (round:∀ x h,I x h→WC P n c (lG (fun f' h'=>∃ x',nV (G x'++fx) f'∧I x' h'∧μ x' < μ x) Q) (G x++fx) h):WC P n (.loop c) Q f h :=
 .loop (fun x=>G x++fx) I μ x0 hs h0 round
theorem cm {fn:Func} {R:Value→ah→Prop} (v:Value) (hr:gm P h f fn.results.toList [v]) (hR:R v h):wq P fn R .ret f h:=⟨[v],hr,hR⟩
theorem cV {fn:Func} {R:Value→ah→Prop} (v u:Value) (hr:gm P h f fn.results.toList [v,u]) (hR:R (.tuple ⟨[v,u]⟩) h):wq P fn R .ret f h:=⟨[v,u],hr,hR⟩
theorem mP {fn:Func} {R:Value→ah→Prop} (v u x:Value) (hr:gm P h f fn.results.toList [v,u,x]) (hR:R (.tuple ⟨[v,u,x]⟩) h):wq P fn R .ret f h:=⟨[v,u,x],hr,hR⟩
theorem Eg {fn:Func} {R:Value→ah→Prop} (hr:gm P h f fn.results.toList []) (hR:R (.tuple ⟨[]⟩) h):wq P fn R .ret f h:=⟨[],hr,hR⟩
theorem fA {fn:Func} {R:Value→ah→Prop} (vs:List Value) (hr:gm P h f fn.results.toList vs) (hR:R (IU vs) h):wq P fn R .normal f h:=⟨vs,hr,hR⟩
theorem Rd.at_ {A:Option Addr} {k c sz:Nat} {xs:List Value} (r:Rd h (.slice A k c) sz k xs) (hn:0 < k):∃ b o,A=some ⟨b,o,Option.none⟩∧b < h.size∧At h b o xs:=by
 obtain ⟨A',c',e,_,_,hp⟩:=r
 injection e with e1 e2 e3
 subst e1
 exact hp hn
theorem At.get {b o p:Nat} {vs:List Value} {v:Value} (ha:At h b o vs) (j:Nat) (hj:vs[j]?=some v) (hp:p=o+j):cell h ⟨b,p,Option.none⟩=some v:=by subst hp;exact ha j v hj
theorem aE {d:Option Tmp} {ty:TypeId} {pos:String} {af:Array Edge} {g:Option (Nat × Bool)} {t e:TypeId} {x y:Operand} {A:Option Addr} {b o l c sz k:Nat} {kd:IntKind} {i:Int} (hu:P.underlying t=some (.slice e)) (hz:∀ w,(sizeOf e).run P w=.ok sz w)
   (hx:f.ev x=some (.slice A l c)) (hy:f.ev y=some (.int kd i)) (hi:i=(k:Int)) (hk:k < l) (hA:A=some ⟨b,o,Option.none⟩) :
   bN P f ⟨d,.indexAddr t x y,ty,pos,af,g⟩ h (.pointer (some ⟨b,o+k * sz,Option.none⟩)):=by
 subst hA
 subst hi
 exact tf hu hz hx hy ⟨by omega,by omega⟩
end
structure gL (κ:Type) (d:TypeDesc) (enc:κ→Value):Prop where
 key:∀ k,IsKey d (enc k)
 inj:∀ a b,enc a=enc b→a=b
theorem fB:gL (List UInt8) .string St:=⟨fun _=>trivial,fun a b e=>by
 simp only [St,Value.string.injEq,ByteArray.mk.injEq,Array.mk.injEq] at e
 exact e⟩
section
variable {κ:Type} [DecidableEq κ]
def cT (es:List (κ × Value)) (k:κ):Option Value:=(es.find? fun p=>decide (p.1=k)).map (·.2)
def tr (es:List (κ × Value)) (k:κ) (v:Value):List (κ × Value) :=
 if (cT es k).isSome then es.map (fun p=>if p.1=k then (k,v) else p) else es++[(k,v)]
def lY (es:List (κ × Value)) (k:κ):List (κ × Value):=es.filter fun p=>decide (p.1 ≠ k)
end
def Mp {κ:Type} (_d:TypeDesc) (enc:κ→Value) (h:ah) (m:Nat) (es:List (κ × Value)):Prop :=
 ∃ arr clock,h[m]?=some (.map arr clock)∧Stamped arr clock∧arr.toList.map (fun e=>(e.key,e.val))=es.map fun p=>(enc p.1,p.2)
section
variable {κ:Type} [DecidableEq κ] {d:TypeDesc} {enc:κ→Value} {h h':ah} {m:Nat} {es:List (κ × Value)}
omit [DecidableEq κ] in
theorem Mp.lt (hm:Mp d enc h m es):m < h.size:=by
 obtain ⟨arr,clock,hb,_⟩:=hm
 exact ai hb
omit [DecidableEq κ] in
theorem Mp.ext {S:Nat→Prop} (hm:Mp d enc h m es) (a:Ext S h h') (hS:¬ S m):Mp d enc h' m es:=by
 obtain ⟨arr,clock,hb,r⟩:=hm
 exact ⟨arr,clock,a.obj hb hS,r⟩
omit [DecidableEq κ] in
theorem Mp.new (h:ah):Mp d enc (h.push (.map #[] 0)) h.size ([]:List (κ × Value)):=⟨#[],0,mO _ _,stamped_empty 0,rfl⟩
omit [DecidableEq κ] in
theorem pA {l:List κ} (h1:(l.map enc).Nodup):l.Nodup:=by
 induction l with
 | nil=>simp
 | cons a l ih =>
   simp only [List.map_cons,List.nodup_cons,List.mem_map,not_exists,not_and] at h1 ⊢
   exact ⟨fun ha=>h1.1 a ha rfl,ih h1.2⟩
omit [DecidableEq κ] in
theorem Mp.nodup (_E:gL κ d enc) (hm:Mp d enc h m es):(es.map (·.1)).Nodup:=by
 obtain ⟨arr,clock,hb,hs,he⟩:=hm
 have h1:(arr.toList.map (·.key)).Nodup:=hs.2.2
 have h2:arr.toList.map (·.key)=(es.map (·.1)).map enc:=by
   have:=congrArg (List.map (·.1)) he
   simpa [List.map_map,Function.comp_def] using this
 rw [h2] at h1
 exact pA h1
theorem gM (E:gL κ d enc) {l:List MapEntry} (he:l.map (fun e=>(e.key,e.val))=es.map fun p=>(enc p.1,p.2)) (k:κ) :
   (Instr.findNow d (enc k) l 0=some none∧cT es k=Option.none∧∀ x∈l,x.key ≠ enc k) ∨
   ∃ j v e,Instr.findNow d (enc k) l 0=some (some (j,v))∧cT es k=some v∧l[j]?=some e∧e.key=enc k∧e.val=v∧j < l.length:=by
 have key : ∀ (l : List MapEntry) (es : List (κ × Value)) (i : Nat), l.map (fun e => (e.key, e.val)) = es.map (fun p => (enc p.1, p.2)) →
     (Instr.findNow d (enc k) l i=some none∧cT es k=Option.none∧∀ x∈l,x.key ≠ enc k) ∨
     ∃ j v e,Instr.findNow d (enc k) l i=some (some (i+j,v))∧cT es k=some v∧l[j]?=some e∧e.key=enc k∧e.val=v∧j < l.length:=by
   intro l
   induction l with
   | nil =>
     intro es i he
     have:es=[]:=by simpa using he.symm
     subst this
     exact .inl ⟨rfl,rfl,by simp⟩
   | cons e l ih =>
     intro es i he
     cases es with
     | nil=>simp at he
     | cons p es =>
       simp only [List.map_cons,List.cons.injEq,Prod.mk.injEq] at he
       obtain ⟨⟨hk,hv⟩,he⟩:=he
       obtain ⟨r,hr,hiff⟩:=sameNow_of_keys (E.key k) (show IsKey d e.key by rw [hk];exact E.key _)
       cases r with
       | true =>
         have e1:enc k=e.key:=hiff.1 rfl
         have e2:p.1=k:=E.inj _ _ (by rw [← hk,e1])
         exact .inr ⟨0,e.val,e,by simp [Instr.findNow,hr],by simp [cT,e2,hv],rfl,e1.symm,rfl,by simp⟩
       | false =>
         have e1:e.key ≠ enc k:=fun q=>by have:=hiff.2 q.symm;cases this
         have e2:p.1 ≠ k:=fun q=>e1 (by rw [hk,q])
         rcases ih es (i+1) he with ⟨h1,h2,h3⟩ | ⟨j,v,e',h1,h2,h3,h4,h5,h6⟩
         · exact .inl ⟨by simp [Instr.findNow, hr, h1], by simpa [cT, e2] using h2, fun x hx => by
             rcases List.mem_cons.1 hx with rfl | hx
             · exact e1
             · exact h3 x hx⟩
         · exact .inr ⟨j+1,v,e',by simp [Instr.findNow,hr,h1];omega,by simpa [cT,e2] using h2,by simpa using h3,h4,h5,by simp;omega⟩
 have:=key l es 0 he
 simpa using this
variable {P:Program} {f:Fr} {dd:Option Tmp} {ty:TypeId} {pos:String} {af:Array Edge} {g:Option (Nat × Bool)}
theorem gn {t kt et:TypeId} {x y:Operand} {k:κ} {v:Value} (E:gL κ d enc) (hu:P.underlying t=some (.map kt et)) (hd:P.underlying kt=some d) (hx:f.ev x=some (.map (some m))) (hy:f.ev y=some (enc k)) (hm:Mp d enc h m es) (hv:cT es k=some v) :
   bN P f ⟨dd,.lookup t x y true,ty,pos,af,g⟩ h (.tuple ⟨[v,.bool true]⟩)∧bN P f ⟨dd,.lookup t x y false,ty,pos,af,g⟩ h v:=by
 have key:∀ (ρ:Operand→Value) (w:World) (c:Bool),kN ρ f→w.heap=h→(execOp ρ ⟨dd,.lookup t x y c,ty,pos,af,g⟩).run P w=.ok (.value (if c then .tuple ⟨[v,.bool true]⟩ else v)) w:=by
   intro ρ w c ha hw
   subst hw
   obtain ⟨arr,clock,hb,_,he⟩:=hm
   rcases gM E he k with ⟨h1,h2,_⟩ | ⟨j,v',e,h1,h2,_⟩
   · rw [hv] at h2;cases h2
   · rw [hv] at h2;injection h2 with h2;subst h2
     simp [execOp,ha _ _ hx,ha _ _ hy,Instr.lookup,run_underlying hu,MapKept.run_getObj_map hb,run_checkKey hd (E.key k),run_findKey hd h1]
 exact ⟨fun ρ w ha hw=>key ρ w true ha hw,fun ρ w ha hw=>key ρ w false ha hw⟩
theorem dq {t kt et:TypeId} {x y:Operand} {k:κ} {z:Value} (E:gL κ d enc) (hu:P.underlying t=some (.map kt et)) (hd:P.underlying kt=some d) (hz:∀ w,(zeroValue et).run P w=.ok z w) (hx:f.ev x=some (.map (some m))) (hy:f.ev y=some (enc k)) (hm:Mp d enc h m es) (hv:cT es k=Option.none) :
   bN P f ⟨dd,.lookup t x y true,ty,pos,af,g⟩ h (.tuple ⟨[z,.bool false]⟩)∧bN P f ⟨dd,.lookup t x y false,ty,pos,af,g⟩ h z:=by
 have key:∀ (ρ:Operand→Value) (w:World) (c:Bool),kN ρ f→w.heap=h→(execOp ρ ⟨dd,.lookup t x y c,ty,pos,af,g⟩).run P w=.ok (.value (if c then .tuple ⟨[z,.bool false]⟩ else z)) w:=by
   intro ρ w c ha hw
   subst hw
   obtain ⟨arr,clock,hb,_,he⟩:=hm
   rcases gM E he k with ⟨h1,h2,_⟩ | ⟨j,v',e,h1,h2,_⟩
   · simp [execOp,ha _ _ hx,ha _ _ hy,Instr.lookup,run_underlying hu,MapKept.run_getObj_map hb,run_checkKey hd (E.key k),run_findKey hd h1,hz]
   · rw [hv] at h2;cases h2
 exact ⟨fun ρ w ha hw=>key ρ w true ha hw,fun ρ w ha hw=>key ρ w false ha hw⟩
theorem xU {arr:Array MapEntry} (E:gL κ d enc) (he:arr.toList.map (fun e=>(e.key,e.val))=es.map fun p=>(enc p.1,p.2)) (hnd:(arr.toList.map (·.key)).Nodup) {k:κ} {v v0:Value} {j:Nat} {e:MapEntry} (hv:cT es k=some v0) (hj:arr.toList[j]?=some e) (hk:e.key=enc k) :
   (arr.modify j fun e=>{ e with key:=enc k,val:=v }).toList.map (fun e=>(e.key,e.val))=(tr es k v).map fun p=>(enc p.1,p.2):=by
 unfold tr
 rw [hv]
 simp only [Option.isSome_some,if_true,List.map_map]
 apply List.ext_getElem?
 intro i
 have h0:arr.toList[i]?.map (fun e=>(e.key,e.val))=es[i]?.map (fun p=>(enc p.1,p.2)):=by
   have:=congrArg (fun l=>l[i]?) he
   simpa using this
 simp only [List.getElem?_map,Array.getElem?_toList,Array.getElem?_modify,Function.comp_def] at h0 hj ⊢
 by_cases e1:j=i
 · subst e1
   rw [if_pos rfl,hj]
   rw [hj] at h0
   cases hp:es[j]? with
   | none=>rw [hp] at h0;cases h0
   | some p =>
     rw [hp] at h0
     simp only [Option.map_some,Option.some.injEq,Prod.mk.injEq] at h0 ⊢
     have:p.1=k:=E.inj _ _ (by rw [← h0.1,hk])
     rw [if_pos this]
     exact ⟨rfl,rfl⟩
 · rw [if_neg e1]
   cases hp:es[i]? with
   | none=>rw [hp] at h0;simpa using h0
   | some p =>
     rw [hp] at h0
     cases ha:arr[i]? with
     | none=>rw [ha] at h0;cases h0
     | some a =>
       rw [ha] at h0
       simp only [Option.map_some,Option.some.injEq,Prod.mk.injEq] at h0 ⊢
       have:p.1 ≠ k:=fun q=>by
         have ha':arr.toList[i]?=some a:=by simpa using ha
         have hj':arr.toList[j]?=some e:=by simpa using hj
         have hki:a.key=e.key:=by rw [h0.1,q,hk]
         have h1:(arr.toList.map (·.key))[i]?=some a.key:=by simp [ha]
         have h2:(arr.toList.map (·.key))[j]?=some a.key:=by simp [hj,hki]
         have hi:=(List.getElem?_eq_some_iff.1 h1).1
         exact e1 (((List.getElem?_inj hi hnd).1 (h1.trans h2.symm)).symm)
       rw [if_neg this]
       exact h0
theorem gN {t kt et:TypeId} {x y z:Operand} {k:κ} {v:Value} (E:gL κ d enc) (hu:P.underlying t=some (.map kt et)) (hd:P.underlying kt=some d) (hx:f.ev x=some (.map (some m))) (hy:f.ev y=some (enc k)) (hz:f.ev z=some v) (hm:Mp d enc h m es) :
   eG P f ⟨dd,.mapUpdate t x y z,ty,pos,af,g⟩ h (fun _ h'=>Mp d enc h' m (tr es k v)∧Ext (fun b=>b=m) h h') :=
 fun ρ w ha hw=>by
   subst hw
   obtain ⟨arr,clock,hb,hs,he⟩:=hm
   rcases gM E he k with ⟨h1,h2,h3⟩ | ⟨j,v0,e,h1,h2,h3,h4,h5,h6⟩
   · refine ⟨undef,{ w with heap:=w.heap.setIfInBounds m (.map (arr.push { key:=enc k,val:=v,born:=clock }) (clock+1)) },⟨rfl,rfl,rfl,trivial⟩,⟨⟨_,_,dD hb,stamped_push hs h3,?_⟩,.set _ _ _ rfl⟩,.inr ⟨?_,rfl⟩⟩
     · simp [tr,h2,he]
     · simp [execOp,ha _ _ hx,ha _ _ hy,ha _ _ hz,Instr.mapUpdate,run_underlying hu,MapKept.run_getObj_map hb,run_checkKey hd (E.key k),run_findKey hd h1,MapKept.run_setObj_map _ hb]
   · have hj:arr[j]?=some e:=by simpa using h3
     have hkey:∀ e',arr[j]?=some e'→({ e' with key:=enc k,val:=v }:MapEntry).key=e'.key:=fun e' he'=>by rw [hj] at he';cases he';exact h4.symm
     refine ⟨undef,{ w with heap:=w.heap.setIfInBounds m (.map (arr.modify j fun e=>{ e with key:=enc k,val:=v }) clock) },⟨rfl,rfl,rfl,trivial⟩,⟨⟨_,_,dD hb,stamped_modify hs _ _ (fun _ _=>rfl) (fun e' _ he'=>hkey e' he'),xU E he hs.2.2 h2 h3 h4⟩,.set _ _ _ rfl⟩,.inr ⟨?_,rfl⟩⟩
     simp [execOp,ha _ _ hx,ha _ _ hy,ha _ _ hz,Instr.mapUpdate,run_underlying hu,MapKept.run_getObj_map hb,run_checkKey hd (E.key k),run_findKey hd h1,hj,h4,run_keyThatStays (E.key k),MapKept.run_setObj_map _ hb]
theorem xV {arr:Array MapEntry} (E:gL κ d enc) (he:arr.toList.map (fun e=>(e.key,e.val))=es.map fun p=>(enc p.1,p.2)) (hnd:(arr.toList.map (·.key)).Nodup) {k:κ} {j:Nat} {e:MapEntry} (hj:arr.toList[j]?=some e) (hk:e.key=enc k) :
   (arr.eraseIdxIfInBounds j).toList.map (fun e=>(e.key,e.val))=(lY es k).map fun p=>(enc p.1,p.2):=by
 have hlt:j < arr.size:=by simpa using (List.getElem?_eq_some_iff.1 hj).1
 unfold Array.eraseIdxIfInBounds
 rw [dif_pos hlt,Array.toList_eraseIdx]
 have key : ∀ (l : List MapEntry) (es : List (κ × Value)) (j : Nat), l.map (fun e => (e.key, e.val)) = es.map (fun p => (enc p.1, p.2)) → (l.map (·.key)).Nodup → l[j]? = some e →
     (l.eraseIdx j).map (fun e=>(e.key,e.val))=(lY es k).map fun p=>(enc p.1,p.2):=by
   intro l
   induction l with
   | nil=>intro es j _ _ h1;simp at h1
   | cons a l ih =>
     intro es j he hnd h1
     cases es with
     | nil=>simp at he
     | cons p es =>
       simp only [List.map_cons,List.cons.injEq,Prod.mk.injEq,List.nodup_cons] at he hnd
       cases j with
       | zero =>
         simp only [List.getElem?_cons_zero,Option.some.injEq] at h1
         subst h1
         have e2:p.1=k:=E.inj _ _ (by rw [← he.1.1,hk])
         have e3:lY es k=es:=List.filter_eq_self.2 fun q hq=>by
           simp only [decide_eq_true_eq]
           intro e4
           have:(enc q.1,q.2)∈es.map (fun p=>(enc p.1,p.2)):=List.mem_map.2 ⟨q,hq,rfl⟩
           rw [← he.2] at this
           obtain ⟨x,hx,aI⟩:=List.mem_map.1 this
           simp only [Prod.mk.injEq] at aI
           exact hnd.1 (List.mem_map.2 ⟨x,hx,by rw [aI.1,e4,← hk]⟩)
         simp only [List.eraseIdx_cons_zero,lY,List.filter_cons,e2,ne_eq,not_true_eq_false,decide_false,Bool.false_eq_true,if_false]
         simp only [lY,ne_eq] at e3
         rw [e3];exact he.2
       | succ j =>
         simp only [List.getElem?_cons_succ] at h1
         have e2:p.1 ≠ k:=fun q=>by
           have:a.key=e.key:=by rw [he.1.1,q,hk]
           exact hnd.1 (List.mem_map.2 ⟨e,List.mem_of_getElem? h1,this.symm⟩)
         simp only [List.eraseIdx_cons_succ,List.map_cons,lY,List.filter_cons,ne_eq,e2,not_false_eq_true,decide_true,if_true,List.cons.injEq,Prod.mk.injEq]
         exact ⟨he.1,by simpa [lY] using ih es j he.2 hnd.2 h1⟩
 exact key arr.toList es j he hnd hj
theorem fo {t kt et:TypeId} {x y:Operand} {ts:Array TypeId} {k:κ} {s:TypeId} (hts:ts=#[t,s]) (E:gL κ d enc) (hu:P.underlying t=some (.map kt et)) (hd:P.underlying kt=some d) (hx:f.ev x=some (.map (some m))) (hy:f.ev y=some (enc k)) (hm:Mp d enc h m es) :
   eG P f ⟨dd,.call { callee:=.builtin .delete,args:=#[x,y],argTypes:=ts },ty,pos,af,g⟩ h (fun _ h'=>Mp d enc h' m (lY es k)∧Ext (fun b=>b=m) h h') :=
 fun ρ w ha hw=>by
   subst hw
   subst hts
   obtain ⟨arr,clock,hb,hs,he⟩:=hm
   rcases gM E he k with ⟨h1,h2,h3⟩ | ⟨j,v0,e,h1,h2,h3,h4,h5,h6⟩
   · refine ⟨.tuple #[],{ w with heap:=w.heap.setIfInBounds m (.map arr clock) },⟨rfl,rfl,rfl,trivial⟩,⟨⟨_,_,dD hb,hs,?_⟩,.set _ _ _ rfl⟩,.inl ?_⟩
     · have e3 : lY es k = es := List.filter_eq_self.2 fun q hq => by
         simp only [decide_eq_true_eq]
         intro e4
         have:(enc q.1,q.2)∈es.map (fun p=>(enc p.1,p.2)):=List.mem_map.2 ⟨q,hq,rfl⟩
         rw [← he] at this
         obtain ⟨x,hx,aI⟩:=List.mem_map.1 this
         simp only [Prod.mk.injEq] at aI
         exact h3 x hx (by rw [aI.1,e4])
       rw [e3,he]
     · simp [execOp,resolve,invoke,builtin,ha _ _ hx,ha _ _ hy,Builtin.delete_,run_underlying hu,MapKept.run_getObj_map hb,run_checkKey hd (E.key k),run_findKey hd h1,MapKept.run_setObj_map _ hb]
   · refine ⟨.tuple #[],{ w with heap:=w.heap.setIfInBounds m (.map (arr.eraseIdxIfInBounds j) clock) },⟨rfl,rfl,rfl,trivial⟩,⟨⟨_,_,dD hb,stamped_erase hs j,xV E he hs.2.2 h3 h4⟩,.set _ _ _ rfl⟩,.inl ?_⟩
     simp [execOp,resolve,invoke,builtin,ha _ _ hx,ha _ _ hy,Builtin.delete_,run_underlying hu,MapKept.run_getObj_map hb,run_checkKey hd (E.key k),run_findKey hd h1,MapKept.run_setObj_map _ hb]
end
section
variable {κ:Type} [DecidableEq κ]
end
end Go.RK
namespace Go.RK
open Go
section
variable {P:Program} {n:Env} {Q:eL} {f:Fr} {h:ah} {l0 rest:List Oper} {K:Fr→Prop}
theorem WC.fU {id:Nat} {l:List Oper} (hm:P.follows .mixedOrders=true) (hB:Region.lexB .any l.toArray=true)
   (hq:WQ P n l l (fun h'=>h'=h) (fun g=>Q .normal g h) f) (hd:n.ro=Option.none∨jj l=true:=by first | exact .inl rfl | exact .inr rfl):WC P n (.region id l.toArray true) Q f h :=
 .draw (fun h'=>h'=h) hm hB rfl (hd:=hd) (fun a w0 ha=>fe (fun _ ⟨g,hg,hk⟩=>⟨g,hg,fun h' e=>by subst e;exact hk⟩) _ _ (hq a w0 ha))
theorem WQ.aK {o:Oper} {v:Value} {t:Nat} (hok:bN P f o h v) (hg:goes f l0 o=true) (hd:o.dst=some t) (ht:Nat.blt t n.n=true) (hk:WQ P n l0 rest (fun h'=>h'=h) K ((t,v) :: f)):WQ P n l0 (o :: rest) (fun h'=>h'=h) K f :=
 .step (fun h' e=>by subst e;exact hok) hg hd ht hk
end
theorem nt {b:Bool} (h:(!b)=true):b=false:=by simpa using h
theorem nf {b:Bool} (h:(!b)=false):b=true:=by simpa using h
section
variable {P:Program} {f:Fr} {h:ah} {d:Option Tmp} {ty:TypeId} {pos:String} {af:Array Edge} {g:Option (Nat × Bool)}
theorem eG.mono {o:Oper} {R R':Value→ah→Prop} (ho:eG P f o h R) (hr:∀ v h',R v h'→R' v h'):eG P f o h R':=fun ρ w ha hw=>by
 obtain ⟨v,w',hs,hR,hrun⟩:=ho ρ w ha hw
 exact ⟨v,w',hs,hr _ _ hR,hrun⟩
def GR (h:ah) (o:Obj) (b:Nat) (h':ah):Prop:=h.size≤b∧h'[b]?=some o∧Ext No h h'
theorem jX (h:ah) (o:Obj):GR h o h.size (h.push o):=⟨Nat.le_refl _,mO h o,.push _ h o⟩
theorem an {t:TypeId} {z:Value} (hz:∀ w,(zeroValue t).run P w=.ok z w) :
   eG P f ⟨d,.alloc t,ty,pos,af,g⟩ h (fun u h'=>∃ b,u=.pointer (some ⟨b,0,Option.none⟩)∧GR h (.cells z.cells t (0,0)) b h') :=
 (xS hz).mono fun _ _ ⟨hv,hh⟩=>⟨_,hv,hh▸jX _ _⟩
theorem aG {t:TypeId} {x:Operand} {v:Value} (hx:f.ev x=some v) :
   eG P f ⟨d,.box t x,ty,pos,af,g⟩ h (fun u h'=>∃ b,u=.pointer (some ⟨b,0,Option.none⟩)∧GR h (.cells v.cells t (0,0)) b h') :=
 (Ef hx).mono fun _ _ ⟨hv,hh⟩=>⟨_,hv,hh▸jX _ _⟩
theorem iz {t:TypeId} :
   eG P f ⟨d,.makeMap t Option.none,ty,pos,af,g⟩ h (fun u h'=>∃ b,u=.map (some b)∧GR h (.map #[] 0) b h') :=
 th.mono fun _ _ ⟨hv,hh⟩=>⟨_,hv,hh▸jX _ _⟩
theorem aB {t:TypeId} {x y:Operand} {b o:Nat} {cs:List Value} {e:TypeId} {v:Value} (hz:∀ w,(sizeOf t).run P w=.ok 1 w) (hx:f.ev x=some (.pointer (some ⟨b,o,Option.none⟩))) (hy:f.ev y=some v)
   (hb:h[b]?=some (.cells ⟨cs⟩ e (0,0))) (ho:o < cs.length) (hv:v.oneCell'=true) (Jo:v.cells=#[v]) :
   eG P f ⟨d,.store t x y,ty,pos,af,g⟩ h (fun _ h'=>h'[b]?=some (.cells ⟨cs.set o v⟩ e (0,0))∧Ext (fun k=>k=b) h h') :=
 (xR hz hx hy hb ho hv Jo).mono fun _ _ ⟨_,hh⟩=>hh▸⟨dD hb,.set _ _ _ rfl⟩
theorem mQ {t:TypeId} {x y:Operand} {b o k:Nat} {cs vs:List Value} {e:TypeId} (hz:∀ w,(sizeOf t).run P w=.ok k w) (hx:f.ev x=some (.pointer (some ⟨b,o,Option.none⟩))) (hy:f.ev y=some (.agg ⟨vs⟩))
   (hk:vs.length=k) (hb:h[b]?=some (.cells ⟨cs⟩ e (0,0))) (ho:o+vs.length≤cs.length) (hv:∀ v∈vs,v.oneCell'=true) :
   eG P f ⟨d,.store t x y,ty,pos,af,g⟩ h (fun _ h'=>h'[b]?=some (.cells ⟨cs.take o++vs++cs.drop (o+vs.length)⟩ e (0,0))∧Ext (fun k=>k=b) h h') :=
 (wm hz hx hy hk hb ho hv).mono fun _ _ ⟨_,hh⟩=>hh▸⟨dD hb,.set _ _ _ rfl⟩
theorem al {t:TypeId} {x y:Operand} {b k:Nat} {cs vs:List Value} {e:TypeId} (hz:∀ w,(sizeOf t).run P w=.ok k w) (hx:f.ev x=some (.pointer (some ⟨b,0,Option.none⟩))) (hy:f.ev y=some (.agg ⟨vs⟩))
   (hk:vs.length=k) (hb:h[b]?=some (.cells ⟨cs⟩ e (0,0))) (ho:cs.length=k) (hv:∀ v∈vs,v.oneCell'=true) :
   eG P f ⟨d,.store t x y,ty,pos,af,g⟩ h (fun _ h'=>h'[b]?=some (.cells ⟨vs⟩ e (0,0))∧Ext (fun k=>k=b) h h') :=
 (mQ hz hx hy hk hb (by omega) hv).mono fun _ _ ⟨h1,h2⟩=>⟨by rw [h1];simp [hk,ho],h2⟩
theorem aF {t:TypeId} {ps:List (Nat × Operand)} {vs cs:List Value} (F:List Value→List Value) (hp:ps.map (fun p=>f.ev p.2)=vs.map some) (_hcs:cs=F vs) (hb:P.built t ((ps.map (·.1)).zip vs)=some ⟨cs⟩) :
   bN P f ⟨d,.build t ⟨ps⟩,ty,pos,af,g⟩ h (.agg ⟨cs⟩):=by
 refine xT (qs:=(ps.map (·.1)).zip vs) ?_ hb
 clear hb _hcs
 induction ps generalizing vs with
 | nil=>cases vs <;> simp_all
 | cons p ps ih =>
   cases vs with
   | nil=>simp at hp
   | cons v vs =>
     simp only [List.map_cons,List.cons.injEq] at hp
     simp only [List.map_cons,List.zip_cons_cons,List.cons.injEq,Prod.mk.injEq,true_and]
     exact ⟨hp.1,ih hp.2⟩
def Le (P:Program) (e:TypeId) (len:Nat) (parts:List (Nat × Value)):Option (Array Value) :=
 match P.info? e with
 | some ie=>match ie.zero with
   | some z=>if len * ie.size > 2 ^ 24 then Option.none else
     Instr.fill (fun i=>some (i * ie.size,ie.size)) ((Array.range (len * ie.size)).map ((if len * ie.size=0 then #[] else z.cells)[· % (if len * ie.size=0 then #[] else z.cells).size]!)) parts
   | Option.none=>Option.none
 | Option.none=>Option.none
theorem au {t e len:Nat} {ps:List (Nat × Operand)} {vs cs:List Value} (F:List Value→List Value) (hu:P.underlying t=some (.slice e)) (hp:ps.map (fun p=>f.ev p.2)=vs.map some) (_hcs:cs=F vs) (hb:Le P e len ((ps.map (·.1)).zip vs)=some ⟨cs⟩) :
   eG P f ⟨d,.buildSlice t len ⟨ps⟩,ty,pos,af,g⟩ h (fun u h'=>∃ b,u=.slice (some ⟨b,0,Option.none⟩) len len∧GR h (.cells ⟨cs⟩ e (0,0)) b h'):=by
 intro ρ w ha hw
 subst hw
 have hps:ps.map (fun p=>(p.1,ρ p.2))=(ps.map (·.1)).zip vs:=by
   clear hb _hcs
   induction ps generalizing vs with
   | nil=>cases vs <;> simp_all
   | cons p ps ih =>
     cases vs with
     | nil=>simp at hp
     | cons v vs =>
       simp only [List.map_cons,List.cons.injEq] at hp
       simp only [List.map_cons,List.zip_cons_cons,List.cons.injEq,Prod.mk.injEq,true_and]
       exact ⟨ha _ _ hp.1,ih hp.2⟩
 have e2:(Array.map (fun x:Nat × Operand=>(x.fst,ρ x.snd)) ⟨ps⟩).toList=(ps.map (·.1)).zip vs:=by simp [hps]
 unfold Le at hb
 cases hi:P.info? e with
 | none=>rw [hi] at hb;cases hb
 | some ie =>
   rw [hi] at hb
   simp only at hb
   cases hz:ie.zero with
   | none=>rw [hz] at hb;cases hb
   | some z =>
     rw [hz] at hb
     simp only at hb
     by_cases hs:len * ie.size > 2 ^ 24
     · rw [if_pos hs] at hb;cases hb
     · rw [if_neg hs] at hb
       refine ⟨_,w.alloc (.cells ⟨cs⟩ e (0,0)),⟨rfl,rfl,rfl,trivial⟩,⟨w.heap.size,rfl,jX _ _⟩,.inl ?_⟩
       have hsz:∀ w,(sizeOf e).run P w=.ok ie.size w:=fun w=>by simp [sizeOf,typeInfo,hi]
       have hzv:∀ w,(zeroValue e).run P w=.ok z w:=fun w=>by simp [zeroValue,typeInfo,hi,hz]
       by_cases h0:len * ie.size=0
       · simp only [if_pos h0] at hb
         simp only [execOp,Instr.buildSlice,run_underlying hu,hsz,if_neg hs,if_pos h0,Sem.run_bind,Sem.run_pure,Result.andThen_ok]
         rw [e2,hb]
         simp [newRow,newObj,Sem.run]
       · simp only [if_neg h0] at hb
         simp only [execOp,Instr.buildSlice,run_underlying hu,hsz,hzv,if_neg hs,if_neg h0,Sem.run_bind,Sem.run_pure,Result.andThen_ok]
         rw [e2,hb]
         simp [newRow,newObj,Sem.run]
theorem bx {b len sz:Nat} {cs:List Value} {e:TypeId} {z:Nat × Nat} (hb:h[b]?=some (.cells ⟨cs⟩ e z)) (hl:cs.length=len * sz):Rd h (.slice (some ⟨b,0,Option.none⟩) len len) sz len cs :=
 ⟨_,_,rfl,Nat.le_refl _,hl,fun _=>⟨b,0,rfl,ai hb,At.av hb⟩⟩
theorem dE {b len sz:Nat} {cs:List Value} {e:TypeId} (hb:h[b]?=some (.cells ⟨cs⟩ e (0,0))) (hl:cs.length=len * sz) (hm:len≤maxLen):Own h (.slice (some ⟨b,0,Option.none⟩) len len) e sz len cs :=
 ⟨hl,.inr ⟨b,len,⟨cs⟩,rfl,hb,Nat.le_refl _,hm,by simpa using hl,by simp [← hl]⟩⟩
theorem ag.as {k:FuncId} {args:Array Value} {v v':Value} (hc:ag P k args h (fun u h'=>u=v∧h'=h)) (e:v=v'):ag P k args h (fun u h'=>u=v'∧h'=h):=hc.mono fun _ _ p=>⟨p.1.trans e,p.2⟩
theorem aa {b o:Nat} {cs:List Value} {t:TypeId} {z:Nat × Nat} {v:Value} (hb:h[b]?=some (.cells ⟨cs⟩ t z)) (hv:cs[o]?=some v):cell h ⟨b,o,Option.none⟩=some v:=by
 rw [cell_of hb];simpa using hv
theorem Ext.bm {S:Nat→Prop} {h':ah} (a:Ext S h h') {b:Nat} {o:Obj} (hb:h[b]?=some o) (hS:¬ S b):h'[b]?=some o:=a.obj hb hS
end
end Go.RK
namespace Go.RK
open Go Go.ChangeShapes Go.WideShapes Go.ChangeAt Go.RowKit Go.Deep
theorem cK {α:Type} {sz:Nat} {F:α→List Value} (hl:∀ a,(F a).length=sz) (l:List α):(l.flatMap F).length=l.length * sz:=by
 induction l with
 | nil=>simp
 | cons a l ih=>simp [ih,hl,Nat.add_mul,Nat.add_comm]
def dS (P:Program) (w:World) (t:TypeId) {α:Type} (F:α→List Value) (Q:α→Prop):Prop :=
 ∀ (H:Type) (enc:TypeId × Value→H) (base:Nat) (spare:Nat→Bool) (held:Bool) (fuel:Nat) (cs:List Value) (x:DataW H × List MemPlace),DataW.trod enc P w base spare held fuel t cs=some x→(∀ n∈x.1.weights P t,n≤reachBytes)→∃ a,cs=F a∧Q a
section
variable {P:Program} {w:World} {t:TypeId}
theorem dS.map {α β:Type} {F:α→List Value} {Q:α→Prop} (o:dS P w t F Q) (g:α→β) {F':β→List Value} {Q':β→Prop} (hF:∀ a,F a=F' (g a)) (hQ:∀ a,Q a→Q' (g a)):dS P w t F' Q':=by
 intro H enc base spare held fuel cs x h hz
 obtain ⟨a,rfl,q⟩:=o H enc base spare held fuel cs x h hz
 exact ⟨g a,hF a,hQ a q⟩
theorem ep {k:IntKind} (ht:P.underlying t=some (.int k)):dS P w t (fun n:Int=>[.int k n]) (fun n=>(Lit.int k n).wf=true):=by
 intro H enc base spare held fuel cs x h _
 obtain ⟨n,h1,_,h2⟩:=DataW.trod_int ht h
 exact ⟨n,h1,h2⟩
theorem tu (ht:P.underlying t=some .bool):dS P w t (fun b:Bool=>[.bool b]) (fun _=>True):=by
 intro H enc base spare held fuel cs x h _
 obtain ⟨b,h1,_⟩:=DataW.trod_bool ht h
 exact ⟨b,h1,trivial⟩
theorem gQ (ht:P.underlying t=some .string):dS P w t (fun l:List UInt8=>[St l]) (fun l=>l.length≤reachBytes):=by
 intro H enc base spare held fuel cs x h hz
 obtain ⟨s,h1,rfl,h2⟩:=DataW.trod_string ht h
 exact ⟨s.data.toList,h1,hz _ (by simp [DataW.weights])⟩
def pC (P:Program) (w:World) (o:Nat) (fs:List Field) {α:Type} (F:α→List Value) (Q:α→Prop):Prop :=
 ∀ (H:Type) (enc:TypeId × Value→H) (base:Nat) (spare:Nat→Bool) (held:Bool) (n:Nat) (cs:List Value),
   (∀ f∈fs,∃ x,DataW.trod enc P w base spare held n f.type ((cs.drop f.offset).take (P.cellsOf f.type))=some x∧∀ n∈x.1.weights P f.type,n≤reachBytes)→∃ a,(cs.drop o).take (F a).length=F a∧(F a).length=(fs.map fun f=>P.cellsOf f.type).sum∧Q a
theorem mR {o:Nat}:pC P w o [] (fun _:Unit=>[]) (fun _=>True):=fun _ _ _ _ _ _ _ _=>⟨(),by simp,by simp,trivial⟩
theorem cg {α β:Type} {o:Nat} {f:Field} {fs:List Field} {F:α→List Value} {Q:α→Prop} {G:β→List Value} {R:β→Prop} {sz:Nat} (ho:f.offset=o) (h1:dS P w f.type F Q) (hc:P.cellsOf f.type=sz) (hl:∀ a,(F a).length=sz) (h2:pC P w (o+sz) fs G R) :
   pC P w o (f :: fs) (fun p:α × β=>F p.1++G p.2) (fun p=>Q p.1∧R p.2):=by
 intro H enc base spare held n cs h
 obtain ⟨x,hx,hz⟩:=h f (by simp)
 obtain ⟨a,ha,qa⟩:=h1 H enc base spare held n _ _ hx hz
 obtain ⟨b,hb,hbl,qb⟩:=h2 H enc base spare held n cs fun g hg=>h g (by simp [hg])
 refine ⟨(a,b),?_,?_,qa,qb⟩
 · rw [ho,hc] at ha
   simp only [List.length_append]
   rw [List.take_add,hl,ha,List.drop_drop,hb]
 · simp [hl,hc,hbl]
theorem jY {α:Type} {fs:List Field} {F:α→List Value} {Q:α→Prop} (ht:P.underlying t=some (.struct ⟨fs⟩)) (hc:P.cellsOf t=(fs.map fun f=>P.cellsOf f.type).sum) (hf:pC P w 0 fs F Q):dS P w t F Q:=by
 intro H enc base spare held fuel cs x h hz
 obtain ⟨xs,n,_,rfl,hl,hxl,hi⟩:=DataW.trod_struct ht h
 obtain ⟨a,ha,hal,q⟩:=hf H enc base spare held n cs fun f hm=>by
   obtain ⟨i,hi',e⟩:=List.mem_iff_getElem.1 hm
   have h1:=hi i f (by simp [← e,hi'])
   have h2:i < xs.length:=by rw [hxl];simpa using hi'
   rw [List.getElem?_eq_getElem h2] at h1
   refine ⟨_,h1,fun m hm=>hz m ?_⟩
   simp only [DataW.weights,ht]
   exact DataW.weights_mem_each (j:=i) (by simp [List.getElem?_eq_getElem hi',e]) (by simp [List.getElem?_eq_getElem h2]) m hm
 refine ⟨a,?_,q⟩
 rw [← ha,List.drop_zero,List.take_of_length_le (by omega)]
theorem iA {H:Type} {P:Program} {e:TypeId}:∀ {l:List (DataW H)} {d:DataW H},d∈l→∀ n∈d.weights P e,n∈DataW.weightsAll P e l
 | c :: l,d,hd,n,hn=>by
   simp only [DataW.weightsAll,List.mem_append]
   rcases List.mem_cons.1 hd with rfl | hd
   · exact .inl hn
   · exact .inr (iA hd n hn)
theorem wv {h:ah} {a:Addr} {v:Value} (hc:cell h a=some v):a.spot=Option.none:=by
 unfold cell at hc
 split at hc
 · split at hc
   · cases hc
   · rename_i h1;simpa using h1
 · cases hc
theorem dK {α:Type} {e:TypeId} {F:α→List Value} {Q:α→Prop} {sz:Nat} (ht:P.underlying t=some (.slice e)) (hc:P.cellsOf e=sz) (hp:0 < sz) (hl:∀ a,(F a).length=sz) (h1:dS P w e F Q) :
   dS P w t (fun p:Value × List α=>[p.1]) (fun p=>Rd w.heap p.1 sz p.2.length (p.2.flatMap F)∧p.2.length≤maxLen∧(∃ A c,p.1=.slice A p.2.length c∧c≤maxLen)∧(∀ a∈p.2,Q a)∧p.2.length * P.bytesOf e≤reachBytes):=by
 intro H enc base spare held fuel cs x h hz
 rcases open_slice ht h with ⟨rfl,_⟩ | ⟨a,len,cap,m,n,D,Pl,rfl,hb,hle,hm,hme,rfl,hi⟩
 · exact ⟨(.slice Option.none 0 0,[]),rfl,Rd.nil _ _,by simp [maxLen],⟨_,_,rfl,by simp [maxLen]⟩,by simp,by simp⟩
 · rw [hc] at hi
   have hml:len≤m:=by rw [hme];split <;> omega
   have key:∀ k,k≤len→∃ l:List α,l.length=k∧(∀ a∈l,Q a)∧∀ (j:Nat) (v:Value),(l.flatMap F)[j]?=some v→w.cell? (a.add j)=some v:=by
     intro k
     induction k with
     | zero=>intro _;exact ⟨[],rfl,by simp,by simp⟩
     | succ k ih =>
       intro hk
       obtain ⟨l,hll,hq,hj⟩:=ih (by omega)
       obtain ⟨cs',hcs,htr⟩:=hi k (by omega)
       obtain ⟨b,rfl,qb⟩:=h1 H enc base spare held n _ _ htr fun m hm=>hz m (by
         simp only [DataW.weights,ht,List.mem_cons,List.mem_append]
         exact .inr (.inl (iA (List.mem_map.2 ⟨k,List.mem_range.2 (by omega),rfl⟩) m hm)))
       obtain ⟨_,hcl,hcell⟩:=World.cells?_some hcs
       have hfl:(l.flatMap F).length=k * sz:=by rw [← hll];exact cK hl l
       refine ⟨l++[b],by simp [hll],?_,?_⟩
       · intro c hcm
         rcases List.mem_append.1 hcm with hcm | hcm
         · exact hq c hcm
         · simp at hcm;subst hcm;exact qb
       · intro j v hv
         simp only [List.flatMap_append,List.flatMap_cons,List.flatMap_nil,List.append_nil] at hv
         by_cases hjl:j < (l.flatMap F).length
         · rw [List.getElem?_append_left hjl] at hv
           exact hj j v hv
         · rw [List.getElem?_append_right (by omega)] at hv
           have hlt:=(List.getElem?_eq_some_iff.1 hv).1
           have h2:=hcell (j - (l.flatMap F).length) (by rw [← hl b];exact hlt)
           rw [hv] at h2
           rw [← h2,Go.Deep.add_add]
           congr 2
           omega
   obtain ⟨l,hll,hq,hj⟩:=key len (Nat.le_refl _)
   refine ⟨(.slice (some a) len cap,l),rfl,⟨some a,cap,by rw [hll],by show l.length≤cap;omega,?_,fun hn=>?_⟩,by show l.length≤_;omega,⟨_,_,by rw [hll],hm⟩,hq,by
     have:=hz _ (by simp only [DataW.weights,ht];exact List.mem_cons_self)
     refine Nat.le_trans (Nat.mul_le_mul_right _ ?_) this
     simp [hll]⟩
   · exact cK hl l
   · have h0 : 0 < (l.flatMap F).length := by
       cases l with
       | nil=>simp at hn
       | cons a l=>simp [hl];omega
     have Gv:=hj 0 _ (List.getElem?_eq_getElem h0)
     rw [Addr.add_zero'] at Gv
     obtain ⟨b,o,spot⟩:=a
     have hs:spot=Option.none:=wv Gv
     subst hs
     refine ⟨b,o,rfl,uV Gv,fun j v hv=>?_⟩
     have:=hj j v hv
     rw [Addr.add_lit] at this
     exact this
end
theorem At.elem {α:Type} {h:ah} {b o sz:Nat} {F:α→List Value} (hl:∀ a,(F a).length=sz) {xs:List α} (ha:At h b o (xs.flatMap F)) {k:Nat} {x:α} (hk:xs[k]?=some x):At h b (o+k * sz) (F x):=by
 intro j v hv
 have hlt:=(List.getElem?_eq_some_iff.1 hv).1
 rw [hl] at hlt
 have key:∀ (xs:List α) (k:Nat),xs[k]?=some x→(xs.flatMap F)[k * sz+j]?=some v:=by
   intro xs
   induction xs with
   | nil=>intro k hk;simp at hk
   | cons y ys ih =>
     intro k hk
     cases k with
     | zero =>
       simp only [List.getElem?_cons_zero,Option.some.injEq] at hk
       subst hk
       simp only [List.flatMap_cons,Nat.zero_mul,Nat.zero_add]
       rw [List.getElem?_append_left (by rw [hl];exact hlt)]
       exact hv
     | succ k =>
       simp only [List.getElem?_cons_succ] at hk
       simp only [List.flatMap_cons]
       rw [List.getElem?_append_right (by rw [hl,Nat.add_mul];omega),hl]
       have:(k+1) * sz+j - sz=k * sz+j:=by rw [Nat.add_mul];omega
       rw [this]
       exact ih k hk
 have:=ha (k * sz+j) v (key xs k hk)
 rwa [← Nat.add_assoc] at this
theorem wx {P:Program} {k:FuncId} {args:List Value} {w:World} (hc:ag P k ⟨args⟩ w.heap (fun u h'=>u=.bool true∧Ext No w.heap h')) :
   Calls P k ⟨args⟩ w fun e w'=>e=.returned (.bool true)∧Below w.heap.size w w' :=
 (hc w rfl).mono fun _ _ ⟨hs,v,he,hv,hx⟩=>⟨by rw [he,hv],⟨hs.os,hs.tape,hs.output,hx.size,fun b hb=>hx.ab b hb id⟩⟩
end Go.RK
namespace Go.RK
open Go
section
variable {P:Program} {ops:Array Oper} {Q:Exit→Act→World→Prop} {md:Region.Mode} {C:ah→Prop} {k:Nat}
def jZ (ops:Array Oper) (k:Nat) (L:Array Bool):Prop:=∀ j,k≤j→j < ops.size→L.getD j true=false
def Dp (P:Program) (md:Region.Mode) (ops:Array Oper) (Q:Exit→Act→World→Prop) (C:ah→Prop) (k:Nat):Nat→Array Bool→Act→World→Prop
 | 0,listed,a,w=>Region.ready md ops listed=[]∧Q .normal a w
 | fuel+1,listed,a,w =>
   (Region.ready md ops listed=[]→Q .normal a w) ∧
   ∀ i∈Region.ready md ops listed,wpOp P ops Q i (fun a' w'=>(jZ ops k (listed.setIfInBounds i true)→C w'.heap)∧Dp P md ops Q C k fuel (listed.setIfInBounds i true) a' w') a w
theorem mS:∀ (fuel:Nat) (listed:Array Bool) (a:Act) (w:World),Dp P md ops Q C k fuel listed a w→wpAny P md ops Q fuel listed a w
 | 0,_,_,_,h=>h
 | fuel+1,_,_,_,h=>⟨h.1,fun i hi=>wpOp_mono (fun a' w' h'=>mS fuel _ a' w' h'.2) (h.2 i hi)⟩
theorem jz {i j:Nat} {listed:Array Bool} (hw:Region.waitsFor md ops j i=true) (hi:listed.getD i true=false):j ∉ Region.ready md ops listed:=by
 intro hj
 obtain ⟨oj,hoj,e,he,hb,hon⟩:=Region.waitsFor_spec hw
 obtain ⟨_,oj',hoj',hall⟩:=mem_ready.1 hj
 rw [hoj] at hoj'
 injection hoj' with hoj'
 subst hoj'
 have h1:=hall e he hb
 rw [hon] at h1
 rcases Nat.lt_or_ge i listed.size with h' | h'
 · simp [h'] at hi h1;rw [hi] at h1;cases h1
 · simp [Array.getElem?_eq_none h'] at h1
theorem jZ.set {L:Array Bool} (h:jZ ops k L) {i:Nat} (hi:i < k):jZ ops k (L.setIfInBounds i true):=fun j hj hs=>by
 rw [getD_set_ne true (by omega)];exact h j hj hs
theorem oD {i:Nat} {oi:Oper} {v:Value} (hi:ops[i]?=some oi) (hsel:∀ (j:Nat) (o:Oper) cs b,ops[j]?=some o→o.op ≠ .select cs b)
   (hQ:∀ c a w,Q (.panic c) (a.put oi.dst v) w→Q (.panic c) a w) (hik:i < k) (hw:∀ j,k≤j→j < ops.size→Region.waitsFor md ops j i=true) :
   ∀ (fuel:Nat) (listed:Array Bool) (a:Act) (w:World),jZ ops k listed →
     (∀ j oj,ops[j]?=some oj→j ≠ i→listed.getD j true=false→(∀ e∈oj.after,Region.binds md e=true→e.on ≠ i)→oi.apart ops oj=true) →
     i∈Region.ready md ops listed→YieldsIf P ops (fun w=>C w.heap) oi v a→C w.heap →
     Dp P md ops Q C k fuel (listed.setIfInBounds i true) (a.put oi.dst v) w→Dp P md ops Q C k (fuel+1) listed a w:=by
 intro fuel
 induction fuel with
 | zero =>
   intro listed a w _ _ hr hy hS H
   refine ⟨fun h=>(by rw [h] at hr;cases hr),fun j hj=>?_⟩
   by_cases hji:j=i
   · subst hji;exact hy.wpOp hi hS ⟨fun _=>hS,H⟩
   · have:=ready_mono hj hji
     rw [H.1] at this
     cases this
 | succ fuel ih =>
   intro listed a w hE hfree hr hy hS H
   refine ⟨fun h=>(by rw [h] at hr;cases hr),fun j hj=>?_⟩
   by_cases hji:j=i
   · subst hji;exact hy.wpOp hi hS ⟨fun _=>hS,H⟩
   · have h1:=H.2 j (ready_mono hj hji)
     obtain ⟨hjun,oj,hoj,hall⟩:=mem_ready.1 hj
     have hiun:=(mem_ready.1 hr).1
     have hjs:j < ops.size:=(Array.getElem?_eq_some_iff.1 hoj).1
     have hjk:j < k:=by
       rcases Nat.lt_or_ge j k with h' | h'
       · exact h'
       · exact absurd hj (jz (hw j h' hjs) hiun)
     have hnot:∀ e∈oj.after,Region.binds md e=true→e.on ≠ i:=fun e he hb heq=>by
       have h1:=hall e he hb
       rw [heq] at h1
       rcases Nat.lt_or_ge i listed.size with h' | h'
       · simp [h'] at hiun h1;rw [hiun] at h1;cases h1
       · simp [Array.getElem?_eq_none h'] at h1
     have h2:=wpOp_putIf hoj (hfree j oj hoj hji hjun hnot) (fun cs b=>hsel i oi cs b hi) (fun cs b=>hsel j oj cs b hoj) hQ hy h1
     have hfree' : ∀ k ok, ops[k]? = some ok → k ≠ i → (listed.setIfInBounds j true).getD k true = false →
         (∀ e∈ok.after,Region.binds md e=true→e.on ≠ i)→oi.apart ops ok=true:=fun k ok hk hki hun hno=>by
       refine hfree k ok hk hki ?_ hno
       by_cases hjk:j=k
       · subst hjk;exact hjun
       · rw [getD_set_ne true hjk] at hun;exact hun
     have hE':jZ ops k (listed.setIfInBounds j true):=hE.set hjk
     refine wpOp_mono (fun a' w' h3=>?_) h2
     have hC:C w'.heap:=h3.2.1 (by rw [Array.setIfInBounds_comm _ _ (Ne.symm hji)];exact hE'.set hik)
     refine ⟨fun _=>hC,ih (listed.setIfInBounds j true) a' w' hE' hfree' (ready_mono hr (Ne.symm hji)) h3.1 hC ?_⟩
     rw [Array.setIfInBounds_comm _ _ hji]
     exact h3.2.2
end
theorem tv {d n:Nat} (hd:d < n):Nat.blt d n=true:=by
 have h1:d+1≤n:=hd
 simpa [Nat.blt,Nat.ble_eq] using h1
def gR (Q:Exit→Act→World→Prop):Exit→Act→World→Prop
 | .panic _,_,_=>False
 | e,a,w=>Q e a w
theorem qW {Q:Exit→Act→World→Prop} (e:Exit) (a:Act) (w:World) (h:gR Q e a w):Q e a w:=by cases e <;> first | exact h | exact h.elim
section
variable {P:Program} {n:Env} {Q:eL} {f:Fr} {h:ah} {l:List Oper} {C:ah→Prop} {k fuel:Nat} {L:Array Bool}
def WH (P:Program) (n:Env) (l:List Oper) (Q:eL) (C:ah→Prop) (k fuel:Nat) (L:Array Bool) (f:Fr) (h:ah):Prop :=
 ∀ (w0:World) (a:Act) (w:World),eo w0 w→jP n a f→w.heap=h→Dp P .any l.toArray (gR (cS n Q w0)) C k fuel L a w
theorem WC.bW {id:Nat} {l:List Oper} (C:ah→Prop) (k fuel:Nat) (hf:l.length=fuel) (hm:P.follows .mixedOrders=true)
   (hq:WH P n l Q C k fuel (Array.replicate fuel false) f h) (hd:n.ro=Option.none∨jj l=true:=by first | exact .inl rfl | exact .inr rfl):WC P n (.region id l.toArray true) Q f h:=by
 intro a w ha hw
 refine wpIn_mono (td (Q:=gR (cS n Q w)) (by simpa using hd) (fun ⟨_,_,hh⟩=>cS.shut ⟨_,_,hh⟩) hm ?_) qW
 have:=mS _ _ _ _ (hq w a { w with drawn:=w.drawn+1 } ⟨rfl,rfl,rfl,trivial⟩ ha hw)
 subst hf
 exact this
theorem WH.take {o:Oper} {v:Value} {t:Nat} (i:Nat) (hi:l[i]?=some o) (hs:Region.noSelect l.toArray=true) (hfr:Region.free .any l.toArray L i=true) (hr:(Region.ready .any l.toArray L).contains i=true)
   (hE:(List.range l.length).all (fun j=>Nat.blt j k || (!L.getD j true && Region.waitsFor .any l.toArray j i))=true) (hik:Nat.blt i k=true) (hC:C h)
   (hok:∀ h',C h'→bN P f o h' v) (hg:goes f l o=true) (hd:o.dst=some t) (ht:Nat.blt t n.n=true)
   (hk:WH P n l Q C k fuel (L.setIfInBounds i true) ((t,v) :: f) h):WH P n l Q C k (fuel+1) L f h:=by
 intro w0 a w hsm ha hw
 have hEall:∀ j,k≤j→j < l.toArray.size→L.getD j true=false∧Region.waitsFor .any l.toArray j i=true:=by
   intro j hj hjs
   have:=List.all_eq_true.1 hE j (by simpa using hjs)
   have hb:Nat.blt j k=false:=by
     cases e:Nat.blt j k
     · rfl
     · have:=ix e;omega
   simpa [hb] using this
 refine oD (by simpa using hi) (Region.noSelect_spec hs) (fun c a w q=>q) (ix hik) (fun j hj hjs=>(hEall j hj hjs).2) fuel L a w (fun j hj hjs=>(hEall j hj hjs).1)
   (Region.free_spec (by simpa using hi) hfr) (by simpa using hr) (.inl ⟨cC ha hg,fun w' hC'=>hok _ hC' _ w' ha.eK rfl⟩) (by rw [hw];exact hC) ?_
 rw [hd]
 exact hk w0 _ w hsm (ha.put ht _) hw
theorem WH.pass {o:Oper} {t:Nat} (i:Nat) (hi:l[i]?=some o) (hs:Region.noSelect l.toArray=true) (hfr:Region.free .any l.toArray L i=true) (hr:(Region.ready .any l.toArray L).contains i=true)
   (hE:(List.range l.length).all (fun j=>Nat.blt j k || (!L.getD j true && Region.waitsFor .any l.toArray j i))=true) (hik:Nat.blt i k=true) (hC:C h)
   (hg:stops f l o=true) (hd:o.dst=some t) (ht:Nat.blt t n.n=true)
   (hk:WH P n l Q C k fuel (L.setIfInBounds i true) ((t,undef) :: f) h):WH P n l Q C k (fuel+1) L f h:=by
 intro w0 a w hsm ha hw
 have hEall:∀ j,k≤j→j < l.toArray.size→L.getD j true=false∧Region.waitsFor .any l.toArray j i=true:=by
   intro j hj hjs
   have:=List.all_eq_true.1 hE j (by simpa using hjs)
   have hb:Nat.blt j k=false:=by
     cases e:Nat.blt j k
     · rfl
     · have:=ix e;omega
   simpa [hb] using this
 refine oD (by simpa using hi) (Region.noSelect_spec hs) (fun c a w q=>q) (ix hik) (fun j hj hjs=>(hEall j hj hjs).2) fuel L a w (fun j hj hjs=>(hEall j hj hjs).1)
   (Region.free_spec (by simpa using hi) hfr) (by simpa using hr) (.inr ⟨fa ha hg,rfl⟩) (by rw [hw];exact hC) ?_
 rw [hd]
 exact hk w0 _ w hsm (ha.put ht _) hw
theorem WH.part (t:Nat) {b:Bool} (hb:f.get t=some (.bool b)) (h1:b=true→WH P n l Q C k fuel L ((t,.bool true) :: f) h) (h2:b=false→WH P n l Q C k fuel L ((t,.bool false) :: f) h):WH P n l Q C k fuel L f h:=by
 cases b
 · exact fun w0 a w hs ha hw=>h2 rfl w0 a w hs (ha.iP hb) hw
 · exact fun w0 a w hs ha hw=>h1 rfl w0 a w hs (ha.iP hb) hw
def aC (P:Program) (n:Env) (l:List Oper) (Q:eL) (C:ah→Prop) (k fuel:Nat) (L:Array Bool) (f:Fr) (h:ah) (i:Nat):Prop :=
 ∀ (w0:World) (a:Act) (w:World),eo w0 w→jP n a f→w.heap=h →
   wpOp P l.toArray (gR (cS n Q w0)) i (fun a' w'=>(jZ l.toArray k (L.setIfInBounds i true)→C w'.heap)∧Dp P .any l.toArray (gR (cS n Q w0)) C k fuel (L.setIfInBounds i true) a' w') a w
theorem WH.one (i:Nat) (hr:Region.ready .any l.toArray L=[i]) (h1:aC P n l Q C k fuel L f h i):WH P n l Q C k (fuel+1) L f h :=
 fun w0 a w hs ha hw=>⟨fun e=>(by rw [hr] at e;cases e),fun j hj=>by rw [hr] at hj;simp at hj;subst hj;exact h1 w0 a w hs ha hw⟩
theorem WH.two (i j:Nat) (hr:Region.ready .any l.toArray L=[i,j]) (h1:aC P n l Q C k fuel L f h i) (h2:aC P n l Q C k fuel L f h j):WH P n l Q C k (fuel+1) L f h :=
 fun w0 a w hs ha hw=>⟨fun e=>(by rw [hr] at e;cases e),fun m hj=>by
   rw [hr] at hj
   simp at hj
   rcases hj with rfl | rfl
   · exact h1 w0 a w hs ha hw
   · exact h2 w0 a w hs ha hw⟩
theorem WH.done (hr:Region.ready .any l.toArray L=[]) (hq:Q .normal f h):WH P n l Q C k 0 L f h :=
 fun _ _ _ hs ha hw=>⟨hr,rfl,hs,_,ha,hw▸hq⟩
theorem aC.run {o:Oper} {R:Value→ah→Prop} {i t:Nat} (hi:l[i]?=some o) (hok:eG P f o h R) (hg:goes f l o=true) (hd:o.dst=some t) (ht:Nat.blt t n.n=true)
   (hk:∀ v h',R v h'→(Nat.blt i k=true→C h')∧WH P n l Q C k fuel (L.setIfInBounds i true) ((t,v) :: f) h') (hlt:Nat.ble k i=true→Nat.blt i L.size=true):aC P n l Q C k fuel L f h i:=by
 intro w0 a w hs ha hw
 unfold wpOp
 have hi':l.toArray[i]?=some o:=by simpa using hi
 simp only [hi',if_pos (cC ha hg)]
 refine .inl ?_
 obtain ⟨v,w',hs',hR,hrun⟩:=hok a.eval w ha.eK hw
 unfold Oper.wp
 obtain ⟨hC,hW⟩:=hk v w'.heap hR
 have key:(jZ l.toArray k (L.setIfInBounds i true)→C w'.heap)∧Dp P .any l.toArray (gR (cS n Q w0)) C k fuel (L.setIfInBounds i true) (a.put o.dst v) w':=by
   refine ⟨fun hE=>?_,by rw [hd];exact hW w0 _ w' (hs.trans hs') (ha.put ht _) rfl⟩
   rcases Nat.lt_or_ge i k with h' | h'
   · exact hC (tv h')
   · have h1:=hE i h' (by simpa using (List.getElem?_eq_some_iff.1 hi).1)
     have h2:=ix (hlt (by simpa [Nat.ble_eq] using h'))
     simp [h2] at h1
 rcases hrun with hrun | ⟨hrun,rfl⟩ <;> rw [hrun] <;> simp only [Oper.upon] <;> exact key
theorem aC.cO {o:Oper} {R:Value→ah→Prop} {i:Nat} (hi:l[i]?=some o) (hok:eG P f o h R) (hg:goes f l o=true) (hd:o.dst=Option.none)
   (hk:∀ v h',R v h'→(Nat.blt i k=true→C h')∧WH P n l Q C k fuel (L.setIfInBounds i true) f h') (hlt:Nat.ble k i=true→Nat.blt i L.size=true):aC P n l Q C k fuel L f h i:=by
 intro w0 a w hs ha hw
 unfold wpOp
 have hi':l.toArray[i]?=some o:=by simpa using hi
 simp only [hi',if_pos (cC ha hg)]
 refine .inl ?_
 obtain ⟨v,w',hs',hR,hrun⟩:=hok a.eval w ha.eK hw
 unfold Oper.wp
 obtain ⟨hC,hW⟩:=hk v w'.heap hR
 have key:(jZ l.toArray k (L.setIfInBounds i true)→C w'.heap)∧Dp P .any l.toArray (gR (cS n Q w0)) C k fuel (L.setIfInBounds i true) (a.put o.dst v) w':=by
   refine ⟨fun hE=>?_,by rw [hd];exact hW w0 _ w' (hs.trans hs') ha rfl⟩
   rcases Nat.lt_or_ge i k with h' | h'
   · exact hC (tv h')
   · have h1:=hE i h' (by simpa using (List.getElem?_eq_some_iff.1 hi).1)
     have h2:=ix (hlt (by simpa [Nat.ble_eq] using h'))
     simp [h2] at h1
 rcases hrun with hrun | ⟨hrun,rfl⟩ <;> rw [hrun] <;> simp only [Oper.upon] <;> exact key
theorem aC.call {o:Oper} {i t:Nat} {fk:FuncId} {xs:List Operand} {vs:List Value} {ts:Array TypeId} {R:Value→ah→Prop} (hi:l[i]?=some o) (ho:o.op=.call { callee:=.value (.func fk),args:=⟨xs⟩,argTypes:=ts })
   (hc:∀ (args:Array Value) (w:World),(callFunc fk args).run P w=.ok (.enter fk args) w)
   (hx:xs.map f.ev=vs.map some) (hR:ag P fk ⟨vs⟩ h R) (hg:goes f l o=true) (hd:o.dst=some t) (ht:Nat.blt t n.n=true)
   (hk:∀ v h',R v h'→(Nat.blt i k=true→C h')∧WH P n l Q C k fuel (L.setIfInBounds i true) ((t,v) :: f) h') (hlt:Nat.ble k i=true→Nat.blt i L.size=true):aC P n l Q C k fuel L f h i:=by
 intro w0 a w hs ha hw
 unfold wpOp
 have hi':l.toArray[i]?=some o:=by simpa using hi
 simp only [hi',if_pos (cC ha hg)]
 refine .inl ?_
 have hargs:xs.map a.eval=vs:=by
   clear ho hR
   induction xs generalizing vs with
   | nil=>cases vs <;> simp_all
   | cons x xs ih =>
     cases vs with
     | nil=>simp at hx
     | cons v vs =>
       simp only [List.map_cons,List.cons.injEq] at hx ⊢
       exact ⟨ha.eK _ _ hx.1,ih hx.2⟩
 unfold Oper.wp
 have hrun:(execOp a.eval o).run P w=.ok (.enter fk ⟨vs⟩) w:=by
   have e2:Array.map a.eval ⟨xs⟩=⟨vs⟩:=by rw [← hargs];simp
   simp [execOp,ho,resolve,Deferred.ofValue,invoke,Act.eval,e2,hc]
 rw [hrun]
 simp only [Oper.upon]
 refine (hR w hw).mono fun e w' ⟨hs',v,he,hv⟩=>?_
 subst he
 obtain ⟨hC,hW⟩:=hk v w'.heap hv
 refine ⟨fun hE=>?_,by rw [hd];exact hW w0 _ w' (hs.trans hs') (ha.put ht _) rfl⟩
 rcases Nat.lt_or_ge i k with h' | h'
 · exact hC (tv h')
 · have h1:=hE i h' (by simpa using (List.getElem?_eq_some_iff.1 hi).1)
   have h2:=ix (hlt (by simpa [Nat.ble_eq] using h'))
   simp [h2] at h1
def WS (P:Program) (n:Env) (l0 l:List Oper) (K:Fr→Prop) (f:Fr) (h:ah):Prop :=
 ∀ (a:Act) (w:World),jP n a f→w.heap=h→wpStill P l0.toArray w (fun a'=>∃ g,jP n a' g∧K g) l a
theorem fg {ops:Array Oper} {w:World} {K K':Act→Prop} (hK:∀ a,K a→K' a):∀ (l:List Oper) (a:Act),wpStill P ops w K l a→wpStill P ops w K' l a
 | [],a,hq=>hK a hq
 | o :: l,a,hq=>by
   unfold wpStill at hq ⊢
   split
   · rename_i hw
     rw [if_pos hw] at hq
     unfold Oper.still at hq ⊢
     generalize (execOp a.eval o).run P w=r at hq ⊢
     cases r with
     | ok x w2 =>
       cases x <;> simp only [Oper.stillUpon] at hq ⊢ <;> first | exact hq | exact ⟨hq.1,fg hK l _ hq.2⟩ | skip
       obtain ⟨h1,v,h2,h3⟩:=hq
       exact ⟨h1,v,h2,fg hK l _ h3⟩
     | halt x w2=>exact hq
   · rename_i hw
     rw [if_neg hw] at hq
     exact fg hK l _ hq
theorem mT {Q:Exit→Act→World→Prop} {a:Act} {w:World} {l:List Oper} (n:Nat) (hB:Region.lexTailB .any l.toArray n=true)
   (h:wpStill P l.toArray w (fun a'=>wpList P l.toArray Q (l.drop n) a' w) (l.take n) a):wpAny P .any l.toArray Q l.toArray.size (Array.replicate l.toArray.size false) a w:=by
 simp only [Region.lexTailB,Bool.and_eq_true,decide_eq_true_eq] at hB
 obtain ⟨⟨⟨⟨hsel,hn⟩,hs⟩,hc⟩,hlex⟩:=hB
 have hn':n < l.length:=by simpa using hn
 have htl:(l.take n).length=n:=by simp;omega
 have hdl:(l.drop n).length=l.toArray.size - n:=by simp
 have Jp:HeadInv .any l.toArray n (Array.replicate l.toArray.size false) :=
   ⟨by simp,fun j oj _ hl=>(by rw [getD_replicate_false] at hl;cases hl),fun t _ ht=>getD_in (by simpa using ht) (getD_replicate_false _ _)⟩
 have H:=wpAnyL_lex (P:=P) (md:=.any) (g:=l.toArray.size - n) hsel hs hc hn (l.take n) 0 _ a (fun j hj=>by
   have hj':j < n:=by rw [htl] at hj;exact hj
   simp [hj']) (by simpa using htl) Jp (by rw [htl];exact hlex) h
 have:=wpAny_of_head (P:=P) (Q':=Q) (g:=l.toArray.size - n) (fun listed a' hL=>by
   have:=wpAny_of_seq (P:=P) (md:=.any) (Q':=Q) (l.drop n) n listed a' w (fun j=>by simp [List.getElem?_drop]) (by rw [hdl];exact hL.1) hL.2
   rwa [hdl] at this) _ _ _ H
 rw [htl,show n+(l.toArray.size - n)=l.toArray.size by omega] at this
 exact this
theorem WC.jl {id:Nat} {l:List Oper} (k:Nat) (hm:P.follows .mixedOrders=true) (hB:Region.lexTailB .any l.toArray k=true)
   (hq:WS P n l (l.take k) (fun g=>WL P n l (l.drop k) Q g h) f h) (hd:n.ro=Option.none∨jj l=true:=by first | exact .inl rfl | exact .inr rfl):WC P n (.region id l.toArray true) Q f h:=by
 intro a w ha hw
 refine td (by simpa using hd) cS.shut hm (mT k hB ?_)
 refine fg ?_ _ _ (hq a { w with drawn:=w.drawn+1 } ha hw)
 rintro a' ⟨g,hg,hk⟩
 exact gK (w:=w) (w':={ w with drawn:=w.drawn+1 }) ⟨rfl,rfl,rfl,trivial⟩ _ _ _ (hk a' { w with drawn:=w.drawn+1 } hg hw)
variable {K:Fr→Prop} {l0 rest:List Oper}
theorem WS.nil (hk:K f):WS P n l0 [] K f h:=fun _ _ ha _=>⟨f,ha,hk⟩
theorem WS.step {o:Oper} {v:Value} {t:Nat} (hok:bN P f o h v) (hg:goes f l0 o=true) (hd:o.dst=some t) (ht:Nat.blt t n.n=true) (hk:WS P n l0 rest K ((t,v) :: f) h):WS P n l0 (o :: rest) K f h:=by
 intro a w ha hw
 refine wpStill_step fun K' hK'=>?_
 rw [if_pos (cC ha hg)]
 unfold Oper.still
 rw [hok _ w ha.eK hw,Oper.stillUpon_value,hd]
 exact hK' _ (hk _ w (ha.put ht _) hw)
theorem WS.pass {o:Oper} {t:Nat} (hg:stops f l0 o=true) (hd:o.dst=some t) (ht:Nat.blt t n.n=true) (hk:WS P n l0 rest K ((t,undef) :: f) h):WS P n l0 (o :: rest) K f h:=by
 intro a w ha hw
 refine wpStill_step fun K' hK'=>?_
 rw [if_neg (by rw [fa ha hg];exact Bool.false_ne_true),hd]
 exact hK' _ (hk _ w (ha.put ht _) hw)
end
section
variable {P:Program} {f:Fr} {h:ah} {d:Option Tmp} {ty:TypeId} {pos:String} {af:Array Edge} {g:Option (Nat × Bool)}
theorem j0 {t e:TypeId} {x lo hi mx:Operand} {A:Option Addr} {n c sz:Nat} {l k m:Int} (ht:P.underlying t=some (.slice e)) (hz:∀ w,(sizeOf e).run P w=.ok sz w) (hx:f.ev x=some (.slice A n c)) (hlo:f.ev lo=some (In l)) (hhi:f.ev hi=some (In k)) (hmx:f.ev mx=some (In m)) (h0:0≤l∧l≤k∧k≤m∧m≤c) :
   bN P f ⟨d,.slice t x (some lo) (some hi) (some mx),ty,pos,af,g⟩ h (.slice (if m.toNat=l.toNat then A else A.map (·.add (l.toNat * sz))) (k.toNat - l.toNat) (m.toNat - l.toNat)) :=
 fun ρ w ha _=>by
   have e:(k.toNat:Int)=k:=Int.toNat_of_nonneg (by omega)
   have e':(m.toNat:Int)=m:=Int.toNat_of_nonneg (by omega)
   have e1:(0≤l∧l≤k):=⟨h0.1,h0.2.1⟩
   have e2:(0≤k∧k≤m):=⟨by omega,h0.2.2.1⟩
   have e3:(0≤m∧m≤(c:Int)):=⟨by omega,h0.2.2.2⟩
   simp [execOp,ha _ _ hx,ha _ _ hlo,ha _ _ hhi,ha _ _ hmx,Instr.sliceAt,Instr.slice,run_underlying ht,Instr.sliceBounds,Instr.sliceBound,asIntOf,e1,e2,e3,e,e',hz]
theorem qX {t e:TypeId} {x hi mx:Operand} {A:Option Addr} {n c sz:Nat} {k m:Int} (ht:P.underlying t=some (.slice e)) (hz:∀ w,(sizeOf e).run P w=.ok sz w) (hx:f.ev x=some (.slice A n c)) (hhi:f.ev hi=some (In k)) (hmx:f.ev mx=some (In m)) (h0:0≤k∧k≤m∧m≤c) :
   bN P f ⟨d,.slice t x Option.none (some hi) (some mx),ty,pos,af,g⟩ h (.slice A k.toNat m.toNat) :=
 fun ρ w ha _=>by
   have e':(m.toNat:Int)=m:=Int.toNat_of_nonneg (by omega)
   have e2:(0≤k∧k≤m):=⟨h0.1,h0.2.1⟩
   have e3:(0≤m∧m≤(c:Int)):=⟨by omega,h0.2.2⟩
   have e4:(if m.toNat=0 then A else A.map (·.add (0 * sz)))=A:=by
     split
     · rfl
     · cases A <;> simp [Addr.add_zero']
   simp [execOp,ha _ _ hx,ha _ _ hhi,ha _ _ hmx,Instr.sliceAt,Instr.slice,run_underlying ht,Instr.sliceBounds,Instr.sliceBound,asIntOf,e2,e3,e',hz] at e4 ⊢
   exact e4
theorem lI {t e:TypeId} {x hi:Operand} {A:Option Addr} {n c sz k:Nat} (ht:P.underlying t=some (.slice e)) (hz:∀ w,(sizeOf e).run P w=.ok sz w) (hx:f.ev x=some (.slice A n c)) (hhi:f.ev hi=some (In (k:Int))) (h0:k≤c) :
   bN P f ⟨d,.slice t x Option.none (some hi) Option.none,ty,pos,af,g⟩ h (.slice A k c):=jy ht hz hx hhi ⟨by omega,by omega⟩
theorem dL {t e:TypeId} {x lo:Operand} {A:Option Addr} {n c sz l:Nat} (ht:P.underlying t=some (.slice e)) (hz:∀ w,(sizeOf e).run P w=.ok sz w) (hx:f.ev x=some (.slice A n c)) (hlo:f.ev lo=some (In (l:Int))) (h0:l≤n) :
   bN P f ⟨d,.slice t x (some lo) Option.none Option.none,ty,pos,af,g⟩ h (.slice (if c=l then A else A.map (·.add (l * sz))) (n - l) (c - l)):=tm ht hz hx hlo ⟨by omega,by omega⟩
theorem qY {t e:TypeId} {x lo:Operand} {A:Option Addr} {n c sz l:Nat} (ht:P.underlying t=some (.slice e)) (hz:∀ w,(sizeOf e).run P w=.ok sz w) (hx:f.ev x=some (.slice A n c)) (hlo:f.ev lo=some (In ((l:Int)+1))) (h0:l+1≤n) :
   bN P f ⟨d,.slice t x (some lo) Option.none Option.none,ty,pos,af,g⟩ h (.slice (if c=l+1 then A else A.map (·.add ((l+1) * sz))) (n - (l+1)) (c - (l+1))):=dL (l:=l+1) ht hz hx (by simpa using hlo) h0
theorem fh {t e:TypeId} {x hi mx:Operand} {A:Option Addr} {n c sz k m:Nat} (ht:P.underlying t=some (.slice e)) (hz:∀ w,(sizeOf e).run P w=.ok sz w) (hx:f.ev x=some (.slice A n c)) (hhi:f.ev hi=some (In (k:Int))) (hmx:f.ev mx=some (In (m:Int))) (h0:k≤m∧m≤c) :
   bN P f ⟨d,.slice t x Option.none (some hi) (some mx),ty,pos,af,g⟩ h (.slice A k m):=qX ht hz hx hhi hmx ⟨by omega,by omega,by omega⟩
theorem cW {t e:TypeId} {x lo hi:Operand} {A:Option Addr} {n c sz l k:Nat} (ht:P.underlying t=some (.slice e)) (hz:∀ w,(sizeOf e).run P w=.ok sz w) (hx:f.ev x=some (.slice A n c)) (hlo:f.ev lo=some (In (l:Int))) (hhi:f.ev hi=some (In (k:Int))) (h0:l≤k∧k≤c) :
   bN P f ⟨d,.slice t x (some lo) (some hi) Option.none,ty,pos,af,g⟩ h (.slice (if c=l then A else A.map (·.add (l * sz))) (k - l) (c - l)):=qV ht hz hx hlo hhi ⟨by omega,by omega,by omega⟩
theorem j1 {x y:Operand} {k:IntKind} {a b:Int} {ts:Array TypeId} (hx:f.ev x=some (.int k a)) (hy:f.ev y=some (.int k b)) :
   bN P f ⟨d,.call { callee:=.builtin .min,args:=#[x,y],argTypes:=ts },ty,pos,af,g⟩ h (.int k (if b < a then b else a)) :=
 fun ρ w ha _=>by simp [execOp,resolve,invoke,builtin,ha _ _ hx,ha _ _ hy,Builtin.min_,Builtin.min2]
theorem pD {x y:Operand} {k:IntKind} {a b:Int} {ts:Array TypeId} (hx:f.ev x=some (.int k a)) (hy:f.ev y=some (.int k b)) :
   bN P f ⟨d,.call { callee:=.builtin .max,args:=#[x,y],argTypes:=ts },ty,pos,af,g⟩ h (.int k (if a < b then b else a)) :=
 fun ρ w ha _=>by simp [execOp,resolve,invoke,builtin,ha _ _ hx,ha _ _ hy,Builtin.max_,Builtin.max2]
theorem oE {t e:TypeId} {x:Operand} {A:Option Addr} {b o k c:Nat} {cs:List Value} {z:Value} {ts:Array TypeId} (hts:ts=#[t]) (hu:P.underlying t=some (.slice e)) (hz:∀ w,(zeroValue e).run P w=.ok z w) (hx:f.ev x=some (.slice A k c)) (hA:A=some ⟨b,o,Option.none⟩) (hk:0 < k)
   (hb:h[b]?=some (.cells ⟨cs⟩ e (0,0))) (ho:o+k * z.cells.size≤cs.length) (Mh:z.cells.all (·.oneCell')=true) :
   eG P f ⟨d,.call { callee:=.builtin .clear,args:=#[x],argTypes:=ts },ty,pos,af,g⟩ h
     (fun _ h'=>∃ cs',h'[b]?=some (.cells ⟨cs'⟩ e (0,0))∧cs'.length=cs.length∧(∀ j,j≤o→cs'.take j=cs.take j)∧Ext (fun k=>k=b) h h') :=
 fun ρ w ha hw=>by
   subst hts
   subst hw
   subst hA
   have h1:∀ v∈(Builtin.zeroCells z.cells k).toList,v.oneCell'=true:=by
     intro v hv
     simp only [Builtin.zeroCells,Array.toList_map,List.mem_map,Array.toList_range,List.mem_range] at hv
     obtain ⟨i,hi,rfl⟩:=hv
     have hp:0 < z.cells.size:=by
       rcases Nat.eq_zero_or_pos z.cells.size with e | e
       · rw [e] at hi;omega
       · exact e
     have hlt:i % z.cells.size < z.cells.size:=Nat.mod_lt _ hp
     rw [getElem!_pos z.cells _ hlt]
     exact Array.all_eq_true.1 Mh _ hlt
   have hl:(Builtin.zeroCells z.cells k).toList.length=k * z.cells.size:=by simp [Builtin.zeroCells]
   obtain ⟨w',hr,hs,hh⟩:=cJ (P:=P) b e (Builtin.zeroCells z.cells k).toList 0 o cs w hb (by rw [hl];omega) h1
   refine ⟨.tuple #[],w',hs,⟨_,by rw [hh];exact dD hb,?_,?_,by rw [hh];exact .set _ _ _ rfl⟩,.inl ?_⟩
   · simp only [Nat.add_zero,List.length_append,List.length_take,List.length_drop,hl];omega
   · intro j hj
     simp only [Nat.add_zero,List.append_assoc]
     rw [List.take_append_of_le_length (by simp;omega),List.take_take]
     congr 1
     omega
   · cases k with
     | zero=>omega
     | succ k=>simp [execOp,resolve,invoke,builtin,ha _ _ hx,Builtin.clear_,run_underlying hu,hz,hr]
theorem lJ {x y:Operand} {t e:TypeId} {i:TypeInfo} {sz:Nat} {ts:Array TypeId} (hts:ts=#[t,t]) (ht:P.underlying t=some (.slice e)) (hi:P.info? e=some i) (hsz:i.size=sz)
   {u:Value} {b n c m:Nat} {cs news:List Value} (hx:f.ev x=some (.slice (some ⟨b,0,Option.none⟩) n c)) (hy:f.ev y=some u) (hb:h[b]?=some (.cells ⟨cs⟩ e (0,0))) (hcs:cs.length=c * sz) (hrd:Rd h u sz m news) (h1:∀ c∈news,c.oneCell'=true) (hroom:n+m≤c) :
   eG P f ⟨d,.call { callee:=.builtin .append,args:=#[x,y],argTypes:=ts },ty,pos,af,g⟩ h
     (fun v' h'=>v'=.slice (some ⟨b,0,Option.none⟩) (n+m) c∧h'[b]?=some (.cells ⟨cs.take (n * sz)++news++cs.drop ((n+m) * sz)⟩ e (0,0))∧Ext (fun k=>k=b) h h') :=
 fun ρ w ha hw=>by
   subst hw
   subst hts
   subst hsz
   obtain ⟨A,c',rfl,hc,hl,hp⟩:=hrd
   have hfit:n * i.size+news.length≤cs.length:=by rw [hl,hcs,← Nat.add_mul];exact Nat.mul_le_mul_right _ hroom
   rcases A with _ | a
   · have hm : m = 0 := by
       rcases Nat.eq_zero_or_pos m with e | e
       · exact e
       · obtain ⟨b,o,e,_⟩:=hp e;cases e
     subst hm
     obtain rfl:news=[]:=List.eq_nil_of_length_eq_zero (by simpa using hl)
     refine ⟨_,w,.refl w,⟨rfl,by simpa using hb,.refl _ _⟩,.inl ?_⟩
     have hn:n≤c:=by omega
     simp [execOp,resolve,invoke,builtin,ha _ _ hx,ha _ _ hy,Builtin.append_,run_underlying ht,sizeOf,typeInfo,hi,Builtin.lenOf,Builtin.firstCells,hn,storeCells]
   · have hnews : ∀ j u, news[j]? = some u → w.cell? (a.add j) = some u := by
       intro j u hj
       have hm:0 < m:=by
         rcases Nat.eq_zero_or_pos m with e | e
         · subst e
           have:news=[]:=List.eq_nil_of_length_eq_zero (by simpa using hl)
           subst this
           simp at hj
         · exact e
       obtain ⟨b,o,e,_,hat⟩:=hp hm
       injection e with e
       subst e
       rw [Addr.add_lit]
       exact hat j u hj
     have hr:=run_append_room (P:=P) w t ty e i ht hi b n c ⟨cs⟩ hb a m c' news hl hnews h1 hroom (by simpa using hfit)
     refine ⟨_,w.setRow b (cs.take (n * i.size)++news++cs.drop (n * i.size+news.length)).toArray,⟨rfl,rfl,rfl,trivial⟩,⟨rfl,?_,⟨by simp [World.setRow],fun k _ hk=>setRow_other w b k _ (fun e=>hk (by omega))⟩⟩,.inl (by simp only [execOp,resolve,invoke,builtin,Sem.run_bind,Sem.run_pure,Result.andThen_ok,List.map_toArray,List.map_cons,List.map_nil,ha _ _ hx,ha _ _ hy,hr])⟩
     have e1:n * i.size+news.length=(n+m) * i.size:=by rw [hl,Nat.add_mul]
     rw [setRow_heap w b ⟨cs⟩ _ e _ hb,e1]
theorem Rd.drop {A:Option Addr} {n c sz l:Nat} {xs:List Value} (r:Rd h (.slice A n c) sz n xs) (hl:l≤n) :
   Rd h (.slice (if c=l then A else A.map (·.add (l * sz))) (n - l) (c - l)) sz (n - l) (xs.drop (l * sz)):=by
 obtain ⟨A',c',e,r'⟩:=oC r hl (Nat.le_refl n)
 simp only [Value.slice.injEq] at e
 obtain ⟨rfl,_,rfl⟩:=e
 rwa [List.take_of_length_le (by
   obtain ⟨_,_,_,_,hlen,_⟩:=r
   rw [List.length_drop,hlen,← Nat.sub_mul]
   exact Nat.le_refl _)] at r'
theorem Rd.take {A:Option Addr} {n c sz k:Nat} {xs:List Value} (r:Rd h (.slice A n c) sz n xs) (hk:k≤n):Rd h (.slice A k c) sz k (xs.take (k * sz)):=by
 obtain ⟨A',c',e,hc,hlen,hp⟩:=r
 simp only [Value.slice.injEq] at e
 obtain ⟨rfl,_,rfl⟩:=e
 refine ⟨A,c,rfl,by omega,?_,fun hn=>?_⟩
 · rw [List.length_take,hlen];exact Nat.min_eq_left (Nat.mul_le_mul_right _ hk)
 · obtain ⟨b,o,e,hb,hat⟩:=hp (by omega)
   exact ⟨b,o,e,hb,hat.take _⟩
theorem Own.block {v:Value} {e:TypeId} {sz n:Nat} {xs:List Value} (r:Own h v e sz n xs) (hn:0 < n):∃ b c cs,v=.slice (some ⟨b,0,Option.none⟩) n c∧h[b]?=some (.cells ⟨cs⟩ e (0,0))∧n≤c∧c≤maxLen∧cs.length=c * sz∧cs.take (n * sz)=xs:=by
 obtain ⟨hl,⟨rfl,rfl⟩ | ⟨b,c,cur,rfl,hb,h1,h2,h3,h4⟩⟩:=r
 · omega
 · exact ⟨b,c,cur.toList,rfl,hb,h1,h2,by simpa using h3,h4⟩
theorem Own.av {b c sz n:Nat} {cs:List Value} {e:TypeId} {xs:List Value} (hb:h[b]?=some (.cells ⟨cs⟩ e (0,0))) (hn:n≤c) (hm:c≤maxLen) (hl:cs.length=c * sz) (hx:cs.take (n * sz)=xs):Own h (.slice (some ⟨b,0,Option.none⟩) n c) e sz n xs:=by
 refine ⟨?_,.inr ⟨b,c,⟨cs⟩,rfl,hb,hn,hm,by simpa using hl,hx⟩⟩
 rw [← hx,List.length_take,hl]
 exact Nat.min_eq_left (Nat.mul_le_mul_right _ hn)
theorem bU {h:ah} {v v':Value} (hl:v'.ownBlock=v.ownBlock∨v'.ownBlock=some h.size) {B:Nat} (hv:∀ k,v.ownBlock=some k→B≤k) (hB:B≤h.size):∀ k,v'.ownBlock=some k→B≤k:=by
 intro k hk
 rcases hl with e | e
 · exact hv k (e▸hk)
 · rw [e] at hk;injection hk with hk;omega
end
@[reducible] def By (b:UInt8):Value:=.int .u8 b.toNat
abbrev bA (l:List UInt8):List Value:=l.map By
theorem uW (l:List UInt8):∀ v∈bA l,v.oneCell'=true:=by
 intro v hv
 obtain ⟨x,_,rfl⟩:=List.mem_map.1 hv
 rfl
section
variable {P:Program} {f:Fr} {h:ah} {d:Option Tmp} {ty:TypeId} {pos:String} {af:Array Edge} {g:Option (Nat × Bool)}
section ints
variable {t t2:TypeId} {x y:Operand} {k:IntKind} {a b:Int}
theorem Eh (hx:f.ev x=some (.int k a)) (hy:f.ev y=some (.int k b)) (hb:b ≠ 0):bN P f ⟨d,.binOp .quo t x y t2,ty,pos,af,g⟩ h (.int k (k.wrap (a.tdiv b))) :=
 fun ρ w ha _=>by simp [execOp,ha _ _ hx,ha _ _ hy,eqGuard,binOp,Op.intDiv,hb]
theorem xW (hx:f.ev x=some (.int k a)) (hy:f.ev y=some (.int k b)) (hb:b ≠ 0):bN P f ⟨d,.binOp .rem t x y t2,ty,pos,af,g⟩ h (.int k (a.tmod b)) :=
 fun ρ w ha _=>by simp [execOp,ha _ _ hx,ha _ _ hy,eqGuard,binOp,Op.intDiv,hb]
theorem iR (hx:f.ev x=some (In a)) (hy:f.ev y=some (In b)) (hb:b ≠ 0) (h0 : -9223372036854775808≤a.tdiv b∧a.tdiv b≤9223372036854775807):bN P f ⟨d,.binOp .quo t x y t2,ty,pos,af,g⟩ h (In (a.tdiv b)):=by
 have:=Eh (P:=P) (d:=d) (ty:=ty) (pos:=pos) (af:=af) (g:=g) (h:=h) (t:=t) (t2:=t2) hx hy hb
 rwa [wrap_i64 _ h0.1 h0.2] at this
theorem j3 {a b:Int} (h : -9223372036854775808≤a∧a≤9223372036854775807) (hb:1 < b) : -9223372036854775808≤a.tdiv b∧a.tdiv b≤9223372036854775807:=by
 have h1:(a.tdiv b).natAbs≤a.natAbs:=by rw [Int.natAbs_tdiv];exact Nat.div_le_self _ _
 by_cases h0:a < 0
 · have:a.tdiv b≤0:=(by rw [← Int.neg_neg a,Int.neg_tdiv];have:0≤(-a).tdiv b:=Int.tdiv_nonneg (by omega) (by omega);omega)
   omega
 · have:0≤a.tdiv b:=Int.tdiv_nonneg (by omega) (by omega)
   omega
theorem Ei (hx:f.ev x=some (.int k a)):bN P f ⟨d,.unOp .neg t x,ty,pos,af,g⟩ h (.int k (k.wrap (0 - a))) :=
 fun ρ w ha _=>by simp [execOp,ha _ _ hx,Op.unary,Op.intArith]
theorem pE (hx:f.ev x=some (In a)) (h0 : -9223372036854775808 ≤ -a ∧ -a≤9223372036854775807):bN P f ⟨d,.unOp .neg t x,ty,pos,af,g⟩ h (In (-a)):=by
 have:=Ei (P:=P) (d:=d) (ty:=ty) (pos:=pos) (af:=af) (g:=g) (h:=h) (t:=t) hx
 rwa [wrap_i64 _ (by omega) (by omega),Int.zero_sub] at this
theorem mo {src dst:TypeId} {u:TypeDesc} {k2:IntKind} (hs:P.underlying src=some u) (hd:P.underlying dst=some (.int k2)) (hx:f.ev x=some (.int k a)) :
   bN P f ⟨d,.convert src dst x,ty,pos,af,g⟩ h (.int k2 (k2.wrap a)) :=
 fun ρ w ha _=>by simp [execOp,ha _ _ hx,convert,run_underlying hs,run_underlying hd,Conv.intToInt]
theorem j4 {src dst:TypeId} {u:TypeDesc} (hs:P.underlying src=some u) (hd:P.underlying dst=some (.int .i64)) (hx:f.ev x=some (.int k a)) (h0 : -9223372036854775808≤a∧a≤9223372036854775807) :
   bN P f ⟨d,.convert src dst x,ty,pos,af,g⟩ h (In a):=by
 have:=mo (P:=P) (d:=d) (ty:=ty) (pos:=pos) (af:=af) (g:=g) (h:=h) hs hd hx
 rwa [wrap_i64 _ h0.1 h0.2] at this
theorem oF {src dst:TypeId} {u:TypeDesc} (hs:P.underlying src=some u) (hd:P.underlying dst=some (.int .u8)) (hx:f.ev x=some (.int k a)) (h0:0≤a∧a < 256) :
   bN P f ⟨d,.convert src dst x,ty,pos,af,g⟩ h (.int .u8 a):=by
 have:=mo (P:=P) (d:=d) (ty:=ty) (pos:=pos) (af:=af) (g:=g) (h:=h) hs hd hx
 rwa [IntKind.wrap_u8,Int.emod_eq_of_lt h0.1 h0.2] at this
end ints
theorem lK {t:TypeId} {x lo:Operand} {a:List UInt8} {k:IntKind} {i:Int} (hu:P.underlying t=some .string) (hx:f.ev x=some (St a)) (hlo:f.ev lo=some (.int k i)) (h0:0≤i∧i≤a.length) :
   bN P f ⟨d,.slice t x (some lo) Option.none Option.none,ty,pos,af,g⟩ h (St (a.drop i.toNat)) :=
 fun ρ w ha _=>by
   have hs:(ByteArray.mk ⟨a⟩).size=a.length:=rfl
   have e:(ByteArray.mk ⟨a⟩).extract i.toNat a.length=ByteArray.mk ⟨(a.drop i.toNat).take (a.length - i.toNat)⟩:=ByteArray.extract_mk a _ _
   have e2:(a.drop i.toNat).take (a.length - i.toNat)=a.drop i.toNat:=List.take_of_length_le (by simp)
   rw [e2] at e
   have h1:0≤i∧i≤(a.length:Int):=h0
   simp [execOp,ha _ _ hx,ha _ _ hlo,Instr.sliceAt,run_underlying hu,Instr.slice,Instr.sliceBounds,Instr.sliceBound,asIntOf,hs,h1,e]
theorem lL {t:TypeId} {x hi:Operand} {a:List UInt8} {k:IntKind} {j:Int} (hu:P.underlying t=some .string) (hx:f.ev x=some (St a)) (hhi:f.ev hi=some (.int k j)) (h0:0≤j∧j≤a.length) :
   bN P f ⟨d,.slice t x Option.none (some hi) Option.none,ty,pos,af,g⟩ h (St (a.take j.toNat)) :=
 fun ρ w ha _=>by
   have hs:(ByteArray.mk ⟨a⟩).size=a.length:=rfl
   have e:(ByteArray.mk ⟨a⟩).extract 0 j.toNat=ByteArray.mk ⟨(a.drop 0).take (j.toNat - 0)⟩:=ByteArray.extract_mk a _ _
   have h1:0≤j∧j≤(a.length:Int):=h0
   simp only [List.drop_zero,Nat.sub_zero] at e
   simp [execOp,ha _ _ hx,ha _ _ hhi,Instr.sliceAt,run_underlying hu,Instr.slice,Instr.sliceBounds,Instr.sliceBound,asIntOf,hs,h1,e]
theorem jA {src dst e:TypeId} {x:Operand} {a:List UInt8} {u:TypeDesc} (hs:P.underlying src=some u) (hd:P.underlying dst=some (.slice e)) (he:P.underlying e=some (.int .u8)) (hx:f.ev x=some (St a)) :
   eG P f ⟨d,.convert src dst x,ty,pos,af,g⟩ h (fun v h'=>∃ b c,v=.slice (some ⟨b,0,Option.none⟩) a.length c∧h.size≤b∧Rd h' v 1 a.length (bA a)∧Ext No h h') :=
 fun ρ w ha hw=>by
   subst hw
   have hr:=Lib.run_convert_string_bytes (P:=P) w src dst e ⟨⟨a⟩⟩ hs hd he
   have hsz:=Lib.bytesWorld_size w e ⟨⟨a⟩⟩
   have hcap:a.length≤grownCap w (ByteArray.mk ⟨a⟩).size 0 e:=by
     have:(ByteArray.mk ⟨a⟩).size=a.length:=rfl
     rw [this]
     exact grownCap_ge w _ _ e
   refine ⟨_,Lib.bytesWorld w e ⟨⟨a⟩⟩,?_,⟨w.heap.size,_,rfl,Nat.le_refl _,⟨_,_,rfl,hcap,by simp,fun _=>⟨_,0,rfl,by omega,fun j v hj=>?_⟩⟩,⟨by omega,fun b hb _=>Lib.bytesWorld_at_old w e _ b hb⟩⟩,.inl ?_⟩
   · unfold Lib.bytesWorld World.freeze
     split <;> exact ⟨rfl,rfl,rfl,trivial⟩
   · have hj':j < a.length:=by simpa using (List.getElem?_eq_some_iff.1 hj).1
     have:=Lib.bytesWorld_cell w e ⟨⟨a⟩⟩ j hj'
     rw [Nat.zero_add]
     refine Eq.trans this ?_
     rw [← hj]
     simp [List.getD,hj']
   · simp [execOp,ha _ _ hx,hr]
     rfl
theorem foldl_push (l:List UInt8) (s:List UInt8):(l.map fun b=>(b.toNat:Int)).foldl (fun r n=>r.push (UInt8.ofNat n.toNat)) (ByteArray.mk ⟨s⟩)=ByteArray.mk ⟨s++l⟩:=by
 induction l generalizing s with
 | nil=>simp
 | cons b l ih =>
   have e:(ByteArray.mk ⟨s⟩).push (UInt8.ofNat (b.toNat:Int).toNat)=ByteArray.mk ⟨s++[b]⟩:=by
     apply ByteArray.ext
     simp [ByteArray.push]
   rw [List.map_cons,List.foldl_cons,e,ih]
   simp
theorem dM {src dst e:TypeId} {x:Operand} {A:Option Addr} {n c:Nat} {l:List UInt8} (hs:P.underlying src=some (.slice e)) (he:P.underlying e=some (.int .u8)) (hd:P.underlying dst=some .string) (hx:f.ev x=some (.slice A n c)) (hr:Rd h (.slice A n c) 1 n (bA l)) :
   bN P f ⟨d,.convert src dst x,ty,pos,af,g⟩ h (St l) :=
 fun ρ w ha hw=>by
   subst hw
   have hl:l.length=n:=by obtain ⟨_,_,_,_,hl,_⟩:=hr;simpa using hl
   subst hl
   cases A with
   | none =>
     have h0:l=[]:=by
       cases l with
       | nil=>rfl
       | cons a l=>obtain ⟨b,o,e,_⟩:=Rd.at_ hr (by simp);cases e
     subst h0
     simp only [execOp,ha _ _ hx,Sem.run_bind]
     rw [run_convert_bytes_string w src dst e _ _ _ hs he hd]
     rfl
   | some p =>
     have hcells:(loadCells p l.length).run P w=.ok ((l.map fun b=>(b.toNat:Int)).map (Value.int .u8)).toArray w:=by
       have e:(l.map fun b=>(b.toNat:Int)).map (Value.int .u8)=bA l:=by simp
       rw [e]
       have:l.length=(bA l).length:=by simp
       rw [this]
       refine run_loadCells_list w p _ fun j v hj=>?_
       obtain ⟨b,o,e,_,hat⟩:=Rd.at_ hr (by
         have:=(List.getElem?_eq_some_iff.1 hj).1
         simp at this;omega)
       injection e with e
       subst e
       rw [Addr.add_lit]
       exact hat j v hj
     simp only [execOp,ha _ _ hx,Sem.run_bind]
     rw [run_convert_bytes_string w src dst e _ _ _ hs he hd,run_bytesToString w p _ _ _ hcells]
     have:=foldl_push l []
     have e0:(ByteArray.empty:ByteArray)=ByteArray.mk ⟨[]⟩:=rfl
     rw [e0,this]
     rfl
theorem nX {t e:TypeId} {x y:Operand} {i:TypeInfo} {z:Value} {n:Nat} (bytes sz:Nat) (ht:P.underlying t=some (.slice e)) (hi:P.info? e=some i) (hz:i.zero=some z) (hby:i.bytes=bytes) (hsz:i.size=sz) (hx:f.ev x=some (In n)) (hy:f.ev y=some (In n)) (hb:bytes * n≤281474976710656) (hn:n≤maxLen) :
   eG P f ⟨d,.makeSlice t x y,ty,pos,af,g⟩ h (fun v h'=>∃ b zs,v=.slice (some ⟨b,0,Option.none⟩) n n∧h.size≤b∧h'[b]?=some (.cells ⟨zs⟩ e (0,0))∧zs.length=n * sz∧zs=(madeCells z.cells (n * sz)).toList∧Ext No h h') :=
 fun ρ w ha hw=>by
   subst hw
   subst hby
   subst hsz
   unfold maxLen at hn
   have hb':(i.bytes:Int) * (n:Int)≤281474976710656:=by
     have h:((i.bytes * n:Nat):Int)≤281474976710656:=by omega
     rwa [Int.natCast_mul] at h
   have hr:=run_make (P:=P) w t e i z ht hi hz .i64 .i64 n n (by omega) (Int.le_refl _) hb' (by omega)
   simp only [Int.toNat_natCast] at hr
   refine ⟨_,w.alloc (.cells (madeCells z.cells (n * i.size)) e),⟨rfl,rfl,rfl,trivial⟩,⟨w.heap.size,(madeCells z.cells (n * i.size)).toList,rfl,Nat.le_refl _,mO _ _,?_,rfl,.push _ _ _⟩,.inl ?_⟩
   · rw [Array.length_toList,size_madeCells]
   · simp only [execOp,ha _ _ hx,ha _ _ hy,Sem.run_bind,hr]
     rfl
theorem pF {x:Operand} {a:Addr} {n c:Nat} {ts:Array TypeId} (hx:f.ev x=some (.slice (some a) n c)) (hc:c ≠ 0) :
   bN P f ⟨d,.call { callee:=.builtin .unsafeSliceData,args:=#[x],argTypes:=ts },ty,pos,af,g⟩ h (.pointer (some a)) :=
 fun ρ w ha _=>by
   have:=Lib.run_unsafeSliceData_row (P:=P) w ts ty a n c hc
   simp [execOp,resolve,invoke,builtin,ha _ _ hx,this]
theorem nY {x:Operand} {n c:Nat} {ts:Array TypeId} (hx:f.ev x=some (.slice Option.none n c)) :
   bN P f ⟨d,.call { callee:=.builtin .unsafeSliceData,args:=#[x],argTypes:=ts },ty,pos,af,g⟩ h (.pointer Option.none) :=
 fun ρ w ha _=>by
   have:=Lib.run_unsafeSliceData_nil (P:=P) w ts ty n c
   simp [execOp,resolve,invoke,builtin,ha _ _ hx,this]
theorem j5 {x y:Operand} {pt it:TypeId} {p:Option Addr} {ts:Array TypeId} (hts:ts=#[pt,it]) (hx:f.ev x=some (.pointer p)) (hy:f.ev y=some (In 0)) :
   eG P f ⟨d,.call { callee:=.builtin .unsafeString,args:=#[x,y],argTypes:=ts },ty,pos,af,g⟩ h (fun v h'=>v=St []∧h'=h) :=
 fun ρ w ha hw=>by
   subst hw
   subst hts
   have:=Lib.run_unsafeString_none (P:=P) w pt it ty p
   refine ⟨_,w,.refl w,⟨rfl,rfl⟩,.inl ?_⟩
   simp [execOp,resolve,invoke,builtin,ha _ _ hx,ha _ _ hy,this]
   rfl
theorem kP {x y:Operand} {pt it e:TypeId} {b n:Nat} {cs:List Value} {l:List UInt8} {ts:Array TypeId} (hts:ts=#[pt,it]) (hp:P.underlying pt=some (.pointer e)) (fp:P.cellsOf e=1) (hx:f.ev x=some (.pointer (some ⟨b,0,Option.none⟩))) (hy:f.ev y=some (In n)) (hn:l.length=n)
   (hb:h[b]?=some (.cells ⟨cs⟩ e (0,0))) (hcs:cs.take n=bA l) (hm:n≤maxLen) :
   eG P f ⟨d,.call { callee:=.builtin .unsafeString,args:=#[x,y],argTypes:=ts },ty,pos,af,g⟩ h (fun v h'=>v=St l∧Ext (fun k=>k=b) h h') :=
 fun ρ w ha hw=>by
   subst hw
   subst hts
   subst hn
   unfold maxLen at hm
   by_cases h0:l=[]
   · subst h0
     have:=Lib.run_unsafeString_none (P:=P) w pt it ty (some ⟨b,0,Option.none⟩)
     refine ⟨_,w,.refl w,⟨rfl,.refl _ _⟩,.inl ?_⟩
     simp [execOp,resolve,invoke,builtin,ha _ _ hx,ha _ _ hy,this]
     rfl
   · have hlen : l.length ≤ cs.length := by
       have:=congrArg List.length hcs
       simp at this;omega
     have hsh:w.shape? b=some (e,cs.length):=by simp [World.shape?,hb]
     have hr:=Lib.run_unsafeString_row (P:=P) w pt it ty e hp fp b cs.length hsh l h0 hlen (by omega) (fun j x hj=>by
       rw [Addr.add_lit,mn,Nat.zero_add,cell_of hb]
       have hlt:=(List.getElem?_eq_some_iff.1 hj).1
       have:(cs.take l.length)[j]?=some (By x):=by rw [hcs];simp [hj]
       rw [List.getElem?_take,if_pos hlt] at this
       simpa using this)
     refine ⟨_,w.freeze ⟨b,0,Option.none⟩ l.length,?_,⟨rfl,?_⟩,.inl ?_⟩
     · unfold World.freeze
       split <;> exact ⟨rfl,rfl,rfl,trivial⟩
     · unfold World.freeze
       split
       · exact .refl _ _
       · refine ⟨by simp,fun k _ hk=>?_⟩
         simp only [Array.getElem?_modify]
         rw [if_neg (fun e=>hk e.symm)]
     · simp [execOp,resolve,invoke,builtin,ha _ _ hx,ha _ _ hy,hr]
theorem wy {k:FuncId} {x:Operand} {v u:Value} {ts:Array TypeId} (hc:∀ w:World,(callFunc k #[v]).run P w=.ok (.value u) w) (hx:f.ev x=some v) :
   bN P f ⟨d,.call { callee:=.value (.func k),args:=#[x],argTypes:=ts },ty,pos,af,g⟩ h u :=
 fun ρ w ha _=>by
   have e:ρ (.func k)=.func (.func k) #[] #[]:=ha _ _ rfl
   simp [execOp,resolve,Deferred.ofValue,invoke,e,ha _ _ hx,hc]
theorem qZ {src dst t e:TypeId} {j:TypeInfo} {x:Operand} {b o:Nat} {cs:List Value} {z:Nat × Nat} (hs:P.underlying src=some (.pointer t)) (hd:P.underlying dst=some .unsafePointer) (ht:P.info? t=some j) (hj:j.size ≠ 0)
   (hx:f.ev x=some (.pointer (some ⟨b,o,Option.none⟩))) (hb:h[b]?=some (.cells ⟨cs⟩ e z)) (ho:o < cs.length) :
   bN P f ⟨d,.convert src dst x,ty,pos,af,g⟩ h (.pointer (some ⟨b,o,Option.none⟩)) :=
 fun ρ w ha hw=>by
   subst hw
   have hsh:w.shape? b=some (e,cs.length):=by simp [World.shape?,hb]
   have:=Lib.run_to_unsafe (P:=P) w ⟨b,o,Option.none⟩ hs hd ht hj hsh ho
   simp [execOp,ha _ _ hx,this]
theorem nZ {src dst u e:TypeId} {j:TypeInfo} {x:Operand} {b o:Nat} {cs:List Value} {z:Nat × Nat} (hs:P.underlying src=some .unsafePointer) (hd:P.underlying dst=some (.pointer u)) (hu:P.info? u=some j)
   (hx:f.ev x=some (.pointer (some ⟨b,o,Option.none⟩))) (hb:h[b]?=some (.cells ⟨cs⟩ e z)) (hl:liesAt P P.depth e (cs.length / P.cellsOf e) o u 1=true) :
   bN P f ⟨d,.convert src dst x,ty,pos,af,g⟩ h (.pointer (some ⟨b,o,Option.none⟩)) :=
 fun ρ w ha hw=>by
   subst hw
   have hsh:w.shape? b=some (e,cs.length):=by simp [World.shape?,hb]
   have:=Lib.run_from_unsafe (P:=P) w ⟨b,o,Option.none⟩ hs hd hu hsh hl
   simp [execOp,ha _ _ hx,this]
theorem xX {t e t2:TypeId} {j:TypeInfo} {x y:Operand} {a:Addr} (hu:P.underlying t=some (.pointer e)) (he:P.info? e=some j) (hx:f.ev x=some (.pointer (some a))) (hy:f.ev y=some (.pointer (some a))) :
   bN P f ⟨d,.binOp .neq t x y t2,ty,pos,af,g⟩ h (.bool false) :=
 fun ρ w ha _=>by simp [execOp,ha _ _ hx,ha _ _ hy,eqGuard_at_pointer,Lib.run_neq_ptr_same w a hu he]
end
theorem bB {P:Program} {h:ah} {t:TypeId} {b k:Nat} {cs:List Value} {e:TypeId} {z:Nat × Nat} (ht:∀ w,(isAgg t).run P w=.ok true w) (hz:∀ w,(sizeOf t).run P w=.ok k w) (hb:h[b]?=some (.cells ⟨cs⟩ e z)) (hk:cs.length=k) :
   ∀ w:World,w.heap=h→(loadVar t ⟨b,0,Option.none⟩).run P w=.ok (.agg ⟨cs⟩) w:=fun w hw=>by
 subst hw
 subst hk
 have h1:(loadCells ⟨b,0,Option.none⟩ cs.length).run P w=.ok cs.toArray w:=run_loadCells_list w _ cs fun j v hj=>by rw [Addr.add_lit];exact At.av hb j v hj
 simp [loadVar,ht,hz,h1]
theorem bQ {h:ah} {v:Value} {e T:TypeId} {sz n b:Nat} {xs cs:List Value} {z:Nat × Nat} (ho:Own h v e sz n xs) (hb:h[b]?=some (.cells ⟨cs⟩ T z)) (hT:T ≠ e):v.ownBlock ≠ some b:=by
 intro h1
 obtain ⟨_,⟨rfl,_⟩ | ⟨g,cap,cur,rfl,hg,_⟩⟩:=ho
 · cases h1
 · simp only [Value.ownBlock,Option.some.injEq] at h1
   subst h1
   rw [hb] at hg
   simp only [Option.some.injEq,Obj.cells.injEq] at hg
   exact hT hg.2.1
theorem Ej {h h3:ah} {v v':Value} (hl:v'.ownBlock=v.ownBlock∨v'.ownBlock=some h3.size) (hs:h.size≤h3.size):∀ k,v'.ownBlock=some k→v.ownBlock=some k∨h.size≤k:=by
 intro k hk
 rcases hl with e | e <;> rw [e] at hk
 · exact .inl hk
 · simp only [Option.some.injEq] at hk;exact .inr (by omega)
section
variable {P:Program} {n:Env} {f:Fr} {h:ah} {l0 rest:List Oper} {Q:eL}
theorem WL.fC {o:Oper} {t s:Nat} {k:FuncId} {xs:List Operand} {fs vs us:List Value} {ts:Array TypeId} {R:Value→ah→Prop} (ho:o.op=.call { callee:=.value (.tmp s),args:=⟨xs⟩,argTypes:=ts })
   (hf:f.get s=some (.func (.func k) ⟨fs⟩ ⟨us⟩))
   (hc:∀ (args:Array Value) (w:World),(callFunc k args).run P w=.ok (.enter k args) w)
   (hx:xs.map f.ev=vs.map some) (hR:ag P k ⟨fs++vs++us⟩ h R) (hg:goes f l0 o=true) (hd:o.dst=some t) (ht:Nat.blt t n.n=true) (hk:∀ v h',R v h'→WL P n l0 rest Q ((t,v) :: f) h'):WL P n l0 (o :: rest) Q f h:=by
 intro a w ha hw
 refine wpList_step fun K hK=>?_
 rw [if_pos (cC ha hg)]
 have hargs:xs.map a.eval=vs:=by
   clear ho hR
   induction xs generalizing vs with
   | nil=>cases vs <;> simp_all
   | cons x xs ih =>
     cases vs with
     | nil=>simp at hx
     | cons v vs =>
       simp only [List.map_cons,List.cons.injEq] at hx ⊢
       exact ⟨ha.eK _ _ hx.1,ih hx.2⟩
 unfold Oper.wp
 have hf':a.eval (.tmp s)=.func (.func k) ⟨fs⟩ ⟨us⟩:=ha.eK (.tmp s) _ hf
 have hrun:(execOp a.eval o).run P w=.ok (.enter k ⟨fs++vs++us⟩) w:=by
   have e2:Array.map a.eval ⟨xs⟩=⟨vs⟩:=by rw [← hargs];simp
   have e3:(⟨fs⟩:Array Value)++(⟨vs⟩:Array Value)++(⟨us⟩:Array Value)=⟨fs++vs++us⟩:=by simp
   simp only [execOp,ho,resolve,hf',Deferred.ofValue,e2,Sem.run_bind,Sem.run_pure,Result.andThen_ok,invoke,e3]
   exact hc _ _
 rw [hrun]
 simp only [Oper.upon]
 refine (hR w hw).mono fun e w' ⟨hs,v,he,hv⟩=>?_
 subst he
 rw [hd]
 exact hK _ _ (gK hs _ _ _ (hk v _ hv _ w' (ha.put ht _) rfl))
end
inductive jm where
 | i (k:IntKind) (n:Int)
 | s (l:List UInt8)
 | b (v:Bool)
deriving DecidableEq
inductive Kd where
 | i (k:IntKind)
 | s
 | b
def jm.kd:jm→Kd
 | .i k _=>.i k
 | .s _=>.s
 | .b _=>.b
def jm.val:jm→Value
 | .i k n=>.int k n
 | .s l=>St l
 | .b v=>.bool v
def Kd.ok (P:Program) (t:TypeId):Kd→Bool
 | .i k=>match P.underlying t with | some (.int k')=>k == k' | _=>false
 | .s=>match P.underlying t with | some .string=>true | _=>false
 | .b=>match P.underlying t with | some .bool=>true | _=>false
def kQ (P:Program):Nat→List Field→List Kd→Bool
 | _,[],[]=>true
 | o,f :: fs,k :: ks=>f.name != "_" && f.offset == o && P.plainKey f.type && k.ok P f.type && kQ P (o+1) fs ks
 | _,_,_=>false
def uX (P:Program) (t:TypeId) (ks:List Kd):Bool :=
 (match P.underlying t with | some (.struct fs)=>kQ P 0 fs.toList ks | _=>false) && !P.stoodInHeld t && !P.eqGuardType P.depth t
section
variable {P:Program}
theorem tw (w:World) (d:Nat) {t:TypeId} {k:Kd} (hk:k.ok P t=true) {a b:jm} (ha:a.kd=k) (hb:b.kd=k):(Op.equalIn (d+1) t a.val b.val).run P w=.ok (decide (a=b)) w:=by
 subst ha
 cases a <;> cases b <;> simp only [jm.kd] at hb <;> try (cases hb)
 · rename_i k n m
   simp only [Kd.ok,jm.kd] at hk
   split at hk
   · rename_i hu
     show (Op.equalIn (d+1) t (.int _ _) (.int _ _)).run P w=_
     rw [run_equalIn_int w d t _ _ _ _ hu]
     simp [iQ]
   · cases hk
 · rename_i l m
   simp only [Kd.ok,jm.kd] at hk
   split at hk
   · rename_i hu
     show (Op.equalIn (d+1) t (.string _) (.string _)).run P w=_
     rw [run_equalIn_string w d t _ _ hu]
     simp [iQ]
   · cases hk
 · rename_i l m
   simp only [Kd.ok,jm.kd] at hk
   split at hk
   · rename_i hu
     show (Op.equalIn (d+1) t (.bool _) (.bool _)).run P w=_
     rw [run_equalIn_bool' w d t _ _ hu]
     simp [iQ]
   · cases hk
theorem fV (w:World) (d:Nat) (xs ys:Array Value):∀ (fs:List Field) (ks:List Kd) (o:Nat) (us vs:List jm),kQ P o fs ks=true→us.map jm.kd=ks→vs.map jm.kd=ks →
   (∀ (j:Nat) (a:jm),us[j]?=some a→xs[o+j]?=some a.val)→(∀ (j:Nat) (a:jm),vs[j]?=some a→ys[o+j]?=some a.val) →
   (Op.eqFields (d+1) xs ys fs).run P w=.ok (decide (us=vs)) w
 | [],[],o,us,vs,_,ha,hb,_,_=>by
   obtain rfl:us=[]:=by simpa using ha
   obtain rfl:vs=[]:=by simpa using hb
   simp [Op.eqFields]
 | f :: fs,k :: ks,o,us,vs,hf,ha,hb,hx,hy=>by
   simp only [kQ,Bool.and_eq_true,bne_iff_ne,beq_iff_eq] at hf
   obtain ⟨⟨⟨⟨h1,h2⟩,h3⟩,h4⟩,h5⟩:=hf
   cases us with
   | nil=>simp at ha
   | cons a us =>
     cases vs with
     | nil=>simp at hb
     | cons b vs =>
       simp only [List.map_cons,List.cons.injEq] at ha hb
       have p1:=hx 0 a rfl
       have p2:=hy 0 b rfl
       rw [Nat.add_zero,← h2] at p1 p2
       have r1:=run_part_plain (P:=P) (w:=w) h3 p1
       have r2:=run_part_plain (P:=P) (w:=w) h3 p2
       have r3:=tw (P:=P) w d h4 ha.1 hb.1
       have ih:=fV w d xs ys fs ks (o+1) us vs h5 ha.2 hb.2 (fun j c hj=>by
         have:=hx (j+1) c (by simpa using hj)
         rwa [show o+(j+1)=o+1+j by omega] at this) (fun j c hj=>by
         have:=hy (j+1) c (by simpa using hj)
         rwa [show o+(j+1)=o+1+j by omega] at this)
       simp only [Op.eqFields,h1,ne_eq,not_false_eq_true,if_true,Sem.run_bind,r1,r2,r3,Result.andThen_ok]
       by_cases e:a=b
       · simp [e,ih]
       · simp [e]
 | [],_ :: _,_,_,_,hf,_,_,_,_=>by simp [kQ] at hf
 | _ :: _,[],_,_,_,hf,_,_,_,_=>by simp [kQ] at hf
theorem re (w:World) {t:TypeId} {ks:List Kd} (hF:uX P t ks=true) {us vs:List jm} (ha:us.map jm.kd=ks) (hb:vs.map jm.kd=ks) :
   (Op.equalIn 10000 t (.agg ⟨us.map jm.val⟩) (.agg ⟨vs.map jm.val⟩)).run P w=.ok (decide (us=vs)) w:=by
 simp only [uX,Bool.and_eq_true,Bool.not_eq_true'] at hF
 obtain ⟨⟨h1,h2⟩,h3⟩:=hF
 split at h1
 · rename_i fs hu
   have hfs:P.fieldsOf t=fs:=by simp [Program.fieldsOf,hu]
   have:=run_equalIn_struct (P:=P) w 9999 t ⟨us.map jm.val⟩ ⟨vs.map jm.val⟩ (by rw [hfs];exact hu) h2
   rw [show (10000:Nat)=9999+1 from rfl,this,hfs]
   exact fV w 9998 _ _ fs.toList ks 0 us vs h1 ha hb (fun j a hj=>by simp [hj]) (fun j a hj=>by simp [hj])
 · cases h1
variable {f:Fr} {h:ah} {d:Option Tmp} {ty:TypeId} {pos:String} {af:Array Edge} {g:Option (Nat × Bool)}
theorem mq {t t2:TypeId} {x y:Operand} {us vs:List jm} (ks:List Kd) (hF:uX P t ks=true) (ha:us.map jm.kd=ks) (hb:vs.map jm.kd=ks) (hx:f.ev x=some (.agg ⟨us.map jm.val⟩)) (hy:f.ev y=some (.agg ⟨vs.map jm.val⟩)) :
   bN P f ⟨d,.binOp .neq t x y t2,ty,pos,af,g⟩ h (.bool (!decide (us=vs))):=fun ρ w hag _=>by
 have hg:P.eqGuardType P.depth t=false:=by
   simp only [uX,Bool.and_eq_true,Bool.not_eq_true'] at hF
   exact hF.2
 have r1:=run_eqGuard_agg (P:=P) w .neq t x y ⟨us.map jm.val⟩ ⟨vs.map jm.val⟩ hg
 have r2:=run_neq_struct (P:=P) w t ⟨us.map jm.val⟩ ⟨vs.map jm.val⟩
 rw [re w hF ha hb] at r2
 simp only [execOp,hag _ _ hx,hag _ _ hy,Sem.run_bind,r1,r2,Result.andThen_ok,Sem.run_pure]
theorem Rd.ext' {h h':ah} {S:Nat→Prop} {v:Value} {sz n:Nat} {xs:List Value} (r:Rd h v sz n xs) (a:Ext S h h') (hS:∀ b,0 < n→v.ownBlock=some b→¬ S b):Rd h' v sz n xs:=by
 obtain ⟨A,c,rfl,hc,hl,hp⟩:=r
 refine ⟨A,c,rfl,hc,hl,fun hn=>?_⟩
 obtain ⟨b,o,rfl,hb,hat⟩:=hp hn
 exact ⟨b,o,rfl,Nat.lt_of_lt_of_le hb a.size,hat.ext a (hS b hn rfl)⟩
theorem Rd.lt {h:ah} {v:Value} {sz n b:Nat} {xs:List Value} (r:Rd h v sz n xs) (hn:0 < n) (hb:v.ownBlock=some b):b < h.size:=by
 obtain ⟨A,c,rfl,hc,hl,hp⟩:=r
 obtain ⟨b',o,rfl,hb',_⟩:=hp hn
 simp only [Value.ownBlock,Option.some.injEq] at hb
 exact hb▸hb'
theorem Own.lt {h:ah} {v:Value} {e:TypeId} {sz n k:Nat} {xs:List Value} (ho:Own h v e sz n xs) (hk:v.ownBlock=some k):k < h.size:=by
 obtain ⟨_,⟨rfl,_⟩ | ⟨g,cap,cur,rfl,hg,_⟩⟩:=ho
 · cases hk
 · simp only [Value.ownBlock,Option.some.injEq] at hk
   exact hk▸ai hg
theorem Own.cap {h:ah} {v:Value} {e:TypeId} {sz n:Nat} {xs:List Value} (ho:Own h v e sz n xs):∃ A c,v=.slice A n c∧c≤maxLen:=by
 obtain ⟨_,⟨rfl,rfl⟩ | ⟨g,cap,cur,rfl,hg,hn,hm,_⟩⟩:=ho
 · exact ⟨_,_,rfl,by decide⟩
 · exact ⟨_,_,rfl,hm⟩
theorem Own.Ek {h:ah} {v:Value} {e:TypeId} {sz n:Nat} {xs:List Value} (ho:Own h v e sz n xs):∃ A c,v=.slice A n c∧c≤maxLen:=ho.cap
theorem At.pre {h:ah} {b o:Nat} {xs ys:List Value} (a:At h b o (xs++ys)):At h b o xs:=fun j v hj=>a j v (by rw [List.getElem?_append_left (List.getElem?_eq_some_iff.1 hj).1];exact hj)
variable {w:World} {t:TypeId}
theorem dS.map' {α β:Type} {F:α→List Value} {Q:α→Prop} (o:dS P w t F Q) (g:α→β) {F':β→List Value} {Q':β→Prop} (hF:∀ a,Q a→F a=F' (g a)∧Q' (g a)):dS P w t F' Q':=by
 intro H enc base spare held fuel cs x h hz
 obtain ⟨a,rfl,q⟩:=o H enc base spare held fuel cs x h hz
 exact ⟨g a,(hF a q).1,(hF a q).2⟩
theorem tz (ht:P.underlying t=some (.int .u8)):dS P w t (fun b:UInt8=>[By b]) (fun _=>True) :=
 (ep ht).map' (fun n=>UInt8.ofNat n.toNat) fun n hn=>by
   have h1:0≤n∧n≤255:=by simpa [Lit.wf,IntKind.signed,IntKind.bits,IntKind.max,IntKind.min] using hn
   refine ⟨?_,trivial⟩
   have:(UInt8.ofNat n.toNat).toNat=n.toNat:=by simp;omega
   unfold By
   rw [this]
   simp;omega
theorem rf {α:Type} (F:α→Value) (l:List α):l.flatMap (fun b=>[F b])=l.map F:=by
 induction l with
 | nil=>rfl
 | cons a l ih=>simp [ih]
theorem lM {e:TypeId} (ht:P.underlying t=some (.slice e)) (hc:P.cellsOf e=1) (hb:P.bytesOf e=1) (he:P.underlying e=some (.int .u8)) :
   dS P w t (fun p:Value × List UInt8=>[p.1]) (fun p=>Rd w.heap p.1 1 p.2.length (bA p.2)∧p.2.length≤reachBytes) :=
 (dK ht hc (by decide) (fun _=>rfl) (tz he)).map id (fun _=>rfl) fun p q=>⟨by have:=q.1;rw [rf] at this;exact this,by simpa [hb] using q.2.2.2.2⟩
end
structure TT:Prop where
structure Hb (T p:Prop):Prop where
 out:T→p
structure Zz (q:Prop):Prop where
 out:q
structure PT (t:Nat):Prop where
theorem aw (i:Nat) {p:Prop} (h:p):Br i p:=⟨h⟩
class bu (P:Program) (s i:Nat) (o:outParam Nat):Prop where
 ex:∃ fs fl k,P.underlying s=some (.struct fs)∧fs[i]?=some fl∧fl.offset=o∧∀ w,(sizeOf fl.type).run P w=.ok (k+1) w
class iB (P:Program) (t:Nat):Prop where
 ex:∃ e,P.underlying t=some (.slice e)
class GS (P:Program) (t:Nat):Prop where
 ex:P.underlying t=some .string
class dG (P:Program) (t:Nat):Prop where
 ex:∀ w,(isAgg t).run P w=.ok false w
structure jn (P:Program) (f:Fr) (o:Oper) (h:ah) (v:Value):Prop where
 out:bN P f o h v
section
variable {P:Program} {f:Fr} {h:ah} {d:Option Tmp} {ty:TypeId} {pos:String} {af:Array Edge} {g:Option (Nat × Bool)} {x y c:Operand} {v:Value}
theorem lN {s i b o o':Nat} [c:bu P s i o'] (hx:f.ev x=some (.pointer (some ⟨b,o,Option.none⟩))):jn P f ⟨d,.fieldAddr s x i,ty,pos,af,g⟩ h (.pointer (some ⟨b,o+o',Option.none⟩)):=by
 obtain ⟨fs,fl,k,h1,h2,h3,h4⟩:=c.ex
 subst h3
 exact ⟨ad hx h1 h2 h4⟩
theorem xY {t:Nat} {a:List UInt8} [k:GS P t] (hx:f.ev x=some (St a)):jn P f ⟨d,.call { callee:=.builtin .len,args:=#[x],argTypes:=#[t] },ty,pos,af,g⟩ h (In a.length):=⟨jU rfl k.ex hx⟩
theorem xZ {t:Nat} {p:Option Addr} {l c:Nat} [k:iB P t] (hx:f.ev x=some (.slice p l c)):jn P f ⟨d,.call { callee:=.builtin .len,args:=#[x],argTypes:=#[t] },ty,pos,af,g⟩ h (In l):=by
 obtain ⟨e,he⟩:=k.ex
 exact ⟨cq rfl he hx⟩
section
variable {t t2:TypeId} {k:IntKind} {a b:Int} {s u:List UInt8}
theorem x5 (hx:f.ev x=some (In a)) (hy:f.ev y=some (In b)) (h0 : -9223372036854775808≤a+b∧a+b≤9223372036854775807):jn P f ⟨d,.binOp .add t x y t2,ty,pos,af,g⟩ h (In (a+b)):=⟨eX hx hy h0⟩
theorem Dq (hx:f.ev x=some (.int k a)) (hy:f.ev y=some (.int k b)):jn P f ⟨d,.binOp .add t x y t2,ty,pos,af,g⟩ h (.int k (k.wrap (a+b))):=⟨xP hx hy⟩
theorem x6 (hx:f.ev x=some (In a)) (hy:f.ev y=some (In b)) (h0 : -9223372036854775808≤a - b∧a - b≤9223372036854775807):jn P f ⟨d,.binOp .sub t x y t2,ty,pos,af,g⟩ h (In (a - b)):=⟨eY hx hy h0⟩
theorem Dr (hx:f.ev x=some (.int k a)) (hy:f.ev y=some (.int k b)):jn P f ⟨d,.binOp .sub t x y t2,ty,pos,af,g⟩ h (.int k (k.wrap (a - b))):=⟨te hx hy⟩
theorem uY (hx:f.ev x=some (.int k a)) (hy:f.ev y=some (.int k b)) (hp:a=b):jn P f ⟨d,.binOp .eql t x y t2,ty,pos,af,g⟩ h (.bool true):=⟨bN.fv hp (mM hx hy)⟩
theorem uZ (hx:f.ev x=some (.int k a)) (hy:f.ev y=some (.int k b)) (hp:¬(a=b)):jn P f ⟨d,.binOp .eql t x y t2,ty,pos,af,g⟩ h (.bool false):=⟨bN.fy hp (mM hx hy)⟩
theorem Ds (hx:f.ev x=some (.int k a)) (hy:f.ev y=some (.int k b)):jn P f ⟨d,.binOp .eql t x y t2,ty,pos,af,g⟩ h (.bool (decide (a=b))):=⟨mM hx hy⟩
theorem u0 (hx:f.ev x=some (.int k a)) (hy:f.ev y=some (.int k b)) (hp:a < b):jn P f ⟨d,.binOp .lss t x y t2,ty,pos,af,g⟩ h (.bool true):=⟨bN.fv hp (mH hx hy)⟩
theorem u3 (hx:f.ev x=some (.int k a)) (hy:f.ev y=some (.int k b)) (hp:¬(a < b)):jn P f ⟨d,.binOp .lss t x y t2,ty,pos,af,g⟩ h (.bool false):=⟨bN.fy hp (mH hx hy)⟩
theorem Dt (hx:f.ev x=some (.int k a)) (hy:f.ev y=some (.int k b)):jn P f ⟨d,.binOp .lss t x y t2,ty,pos,af,g⟩ h (.bool (decide (a < b))):=⟨mH hx hy⟩
theorem u4 (hx:f.ev x=some (.int k a)) (hy:f.ev y=some (.int k b)) (hp:a > b):jn P f ⟨d,.binOp .gtr t x y t2,ty,pos,af,g⟩ h (.bool true):=⟨bN.fv hp (mL hx hy)⟩
theorem u5 (hx:f.ev x=some (.int k a)) (hy:f.ev y=some (.int k b)) (hp:¬(a > b)):jn P f ⟨d,.binOp .gtr t x y t2,ty,pos,af,g⟩ h (.bool false):=⟨bN.fy hp (mL hx hy)⟩
theorem Du (hx:f.ev x=some (.int k a)) (hy:f.ev y=some (.int k b)):jn P f ⟨d,.binOp .gtr t x y t2,ty,pos,af,g⟩ h (.bool (decide (a > b))):=⟨mL hx hy⟩
theorem u6 (hx:f.ev x=some (.int k a)) (hy:f.ev y=some (.int k b)) (hp:a≤b):jn P f ⟨d,.binOp .leq t x y t2,ty,pos,af,g⟩ h (.bool true):=⟨bN.fv hp (mJ hx hy)⟩
theorem u7 (hx:f.ev x=some (.int k a)) (hy:f.ev y=some (.int k b)) (hp:¬(a≤b)):jn P f ⟨d,.binOp .leq t x y t2,ty,pos,af,g⟩ h (.bool false):=⟨bN.fy hp (mJ hx hy)⟩
theorem Dv (hx:f.ev x=some (.int k a)) (hy:f.ev y=some (.int k b)):jn P f ⟨d,.binOp .leq t x y t2,ty,pos,af,g⟩ h (.bool (decide (a≤b))):=⟨mJ hx hy⟩
theorem va (hx:f.ev x=some (.int k a)) (hy:f.ev y=some (.int k b)) (hp:a ≥ b):jn P f ⟨d,.binOp .geq t x y t2,ty,pos,af,g⟩ h (.bool true):=⟨bN.fv hp (dv hx hy)⟩
theorem vd (hx:f.ev x=some (.int k a)) (hy:f.ev y=some (.int k b)) (hp:¬(a ≥ b)):jn P f ⟨d,.binOp .geq t x y t2,ty,pos,af,g⟩ h (.bool false):=⟨bN.fy hp (dv hx hy)⟩
theorem Dw (hx:f.ev x=some (.int k a)) (hy:f.ev y=some (.int k b)):jn P f ⟨d,.binOp .geq t x y t2,ty,pos,af,g⟩ h (.bool (decide (a ≥ b))):=⟨dv hx hy⟩
theorem ve (hx:f.ev x=some (.int k a)) (hy:f.ev y=some (.int k b)) (hp:¬(a=b)):jn P f ⟨d,.binOp .neq t x y t2,ty,pos,af,g⟩ h (.bool true):=⟨bN.jS hp (jx hx hy)⟩
theorem vh (hx:f.ev x=some (.int k a)) (hy:f.ev y=some (.int k b)) (hp:a=b):jn P f ⟨d,.binOp .neq t x y t2,ty,pos,af,g⟩ h (.bool false):=⟨bN.jT hp (jx hx hy)⟩
theorem Dx (hx:f.ev x=some (.int k a)) (hy:f.ev y=some (.int k b)):jn P f ⟨d,.binOp .neq t x y t2,ty,pos,af,g⟩ h (.bool (!decide (a=b))):=⟨jx hx hy⟩
theorem rh (hx:f.ev x=some (St s)) (hy:f.ev y=some (St u)) (hp:s=u):jn P f ⟨d,.binOp .eql t x y t2,ty,pos,af,g⟩ h (.bool true):=⟨bN.fv hp (px hx hy)⟩
theorem rj (hx:f.ev x=some (St s)) (hy:f.ev y=some (St u)) (hp:¬(s=u)):jn P f ⟨d,.binOp .eql t x y t2,ty,pos,af,g⟩ h (.bool false):=⟨bN.fy hp (px hx hy)⟩
theorem x7 (hx:f.ev x=some (St s)) (hy:f.ev y=some (St u)):jn P f ⟨d,.binOp .eql t x y t2,ty,pos,af,g⟩ h (.bool (decide (s=u))):=⟨px hx hy⟩
theorem rk (hx:f.ev x=some (St s)) (hy:f.ev y=some (St u)) (hp:¬(s=u)):jn P f ⟨d,.binOp .neq t x y t2,ty,pos,af,g⟩ h (.bool true):=⟨bN.jS hp (mm hx hy)⟩
theorem rl (hx:f.ev x=some (St s)) (hy:f.ev y=some (St u)) (hp:s=u):jn P f ⟨d,.binOp .neq t x y t2,ty,pos,af,g⟩ h (.bool false):=⟨bN.jT hp (mm hx hy)⟩
theorem x8 (hx:f.ev x=some (St s)) (hy:f.ev y=some (St u)):jn P f ⟨d,.binOp .neq t x y t2,ty,pos,af,g⟩ h (.bool (!decide (s=u))):=⟨mm hx hy⟩
end
end
def x9 (f:Fr):Op→Option Value
 | .move x=>f.ev x
 | .assign x=>f.ev x
 | .pick c x y=>match f.ev c with
   | some (.bool true)=>f.ev x
   | some (.bool false)=>f.ev y
   | _=>Option.none
 | .extract x i=>match f.ev x with
   | some (.tuple ⟨vs⟩)=>vs[i]?
   | _=>Option.none
 | .unOp .not _ x=>match f.ev x with
   | some (.bool b)=>some (.bool (!b))
   | _=>Option.none
 | _=>Option.none
theorem ya {P:Program} {f:Fr} {o:Oper} {h:ah} {v:Value} (e:x9 f o.op=some v):bN P f o h v:=by
 obtain ⟨d,op,ty,pos,af,g⟩:=o
 dsimp only at e
 unfold x9 at e
 split at e
 · exact ak e
 · exact aP e
 · split at e
   · exact cH (by assumption) e
   · exact cI (by assumption) e
   · cases e
 · split at e
   · exact bP (by assumption) e
   · cases e
 · split at e
   · cases e;exact dw (by assumption)
   · cases e
 · cases e
def GU:BinOp→Bool
 | .eql=>true
 | .neq=>true
 | .lss=>true
 | .leq=>true
 | .gtr=>true
 | .geq=>true
 | _=>false
section
variable {P:Program} {n:Env} {Q:eL} {f:Fr} {h:ah} {l0 l rest:List Oper}
theorem WC.sr {id:Nat} {l:List Oper} {y:Code} (hl:WL P n l l (lG (WC P n y Q) Q) f h) (hd:n.ro=Option.none∨jj l=true:=by first | exact .inl rfl | exact .inr rfl):WC P n (.seq (.region id l.toArray false) y) Q f h:=.seq (.region hl hd)
def BF:Op→Bool
 | .move _=>true
 | .assign _=>true
 | .pick _ _ _=>true
 | .extract _ _=>true
 | .fieldAddr _ _ _=>true
 | .unOp .not _ _=>true
 | .binOp b _ _ _ _=>GU b
 | .call c=>match c.callee with
   | .builtin .len=>true
   | _=>false
 | _=>false
theorem WL.GV {o:Oper} {t:Nat} (_:BF o.op=true) (hg:stops f l0 o=true) (hd:o.dst=some t) (ht:Nat.blt t n.n=true) (hk:WL P n l0 rest Q ((t,undef) :: f) h):WL P n l0 (o :: rest) Q f h:=.pass hg hd ht hk
theorem WL.s {o:Oper} {v:Value} {t:Nat} (hok:jn P f o h v) (hg:goes f l0 o=true) (hd:o.dst=some t) (ht:Nat.blt t n.n=true) (hk:WL P n l0 rest Q ((t,v) :: f) h):WL P n l0 (o :: rest) Q f h:=.step hok.out hg hd ht hk
theorem WL.auto {o:Oper} {v:Value} {t:Nat} (hok:x9 f o.op=some v) (hg:goes f l0 o=true) (hd:o.dst=some t) (ht:Nat.blt t n.n=true) (hk:WL P n l0 rest Q ((t,v) :: f) h):WL P n l0 (o :: rest) Q f h:=.step (ya hok) hg hd ht hk
section
variable {d:Option Tmp} {ty:TypeId} {pos:String} {af:Array Edge} {g:Option (Nat × Bool)} {x y:Operand} {t2 s:TypeId} {k:IntKind} {a b:Int} {op:BinOp} {t:Nat}
theorem WL.sX (b:BinOp) {s u:TypeId} (k:WL P n l0 (⟨d,.binOp b s x y u,ty,pos,af,g⟩ :: rest) Q f h):WL P n l0 (⟨d,.binOp b s x y u,ty,pos,af,g⟩ :: rest) Q f h:=k
theorem WL.Lf {xs:Array Operand} {ts:Array TypeId} (k:WL P n l0 (⟨d,.call { callee:=.builtin .len,args:=xs,argTypes:=ts },ty,pos,af,g⟩ :: rest) Q f h):WL P n l0 (⟨d,.call { callee:=.builtin .len,args:=xs,argTypes:=ts },ty,pos,af,g⟩ :: rest) Q f h:=k
end
theorem WL.Mi {d:Option Tmp} {op:Op} {ty:TypeId} {pos:String} {af:Array Edge} (k:WL P n l0 (⟨d,op,ty,pos,af,Option.none⟩ :: rest) Q f h):WL P n l0 (⟨d,op,ty,pos,af,Option.none⟩ :: rest) Q f h:=k
theorem WL.Mj {d:Option Tmp} {op:Op} {ty:TypeId} {pos:String} {af:Array Edge} {g:Nat × Bool} (k:WL P n l0 (⟨d,op,ty,pos,af,some g⟩ :: rest) Q f h):WL P n l0 (⟨d,op,ty,pos,af,some g⟩ :: rest) Q f h:=k
theorem WL.Lg {d:Option Tmp} {b:BinOp} {s u:TypeId} {x y:Operand} {ty:TypeId} {pos:String} {af:Array Edge} {g:Option (Nat × Bool)} (k:WL P n l0 (⟨d,.binOp b s x y u,ty,pos,af,g⟩ :: rest) Q f h):WL P n l0 (⟨d,.binOp b s x y u,ty,pos,af,g⟩ :: rest) Q f h:=k
theorem WL.Lh (k:WL P n l0 [] Q f h):WL P n l0 [] Q f h:=k
theorem Go {p q:Prop} (k:q) (hx:Zz q→p:=by
   intro z
   repeat ((with_reducible refine WL.Mi ?_);first
     | refine WL.auto rfl rfl rfl rfl ?_
     | refine WL.s (lN rfl) rfl rfl rfl ?_
     | ((with_reducible refine WL.Lg ?_);first
       | ((with_reducible refine WL.sX .eql ?_);first
         | refine WL.s (uY rfl rfl (by omega)) rfl rfl rfl ?_
         | refine WL.s (uZ rfl rfl (by omega)) rfl rfl rfl ?_
         | refine WL.s (Ds rfl rfl) rfl rfl rfl ?_
         | refine WL.s (rh rfl rfl (by first | rfl | assumption | decide)) rfl rfl rfl ?_
         | refine WL.s (rj rfl rfl (by first | assumption | decide)) rfl rfl rfl ?_
         | refine WL.s (x7 rfl rfl) rfl rfl rfl ?_)
       | ((with_reducible refine WL.sX .lss ?_);first
         | refine WL.s (u0 rfl rfl (by omega)) rfl rfl rfl ?_
         | refine WL.s (u3 rfl rfl (by omega)) rfl rfl rfl ?_
         | refine WL.s (Dt rfl rfl) rfl rfl rfl ?_)
       | ((with_reducible refine WL.sX .neq ?_);first
         | refine WL.s (ve rfl rfl (by omega)) rfl rfl rfl ?_
         | refine WL.s (vh rfl rfl (by omega)) rfl rfl rfl ?_
         | refine WL.s (Dx rfl rfl) rfl rfl rfl ?_
         | refine WL.s (rl rfl rfl (by first | rfl | assumption | decide)) rfl rfl rfl ?_
         | refine WL.s (rk rfl rfl (by first | assumption | decide)) rfl rfl rfl ?_
         | refine WL.s (x8 rfl rfl) rfl rfl rfl ?_)
       | ((with_reducible refine WL.sX .gtr ?_);first
         | refine WL.s (u4 rfl rfl (by omega)) rfl rfl rfl ?_
         | refine WL.s (u5 rfl rfl (by omega)) rfl rfl rfl ?_
         | refine WL.s (Du rfl rfl) rfl rfl rfl ?_)
       | ((with_reducible refine WL.sX .leq ?_);first
         | refine WL.s (u6 rfl rfl (by omega)) rfl rfl rfl ?_
         | refine WL.s (u7 rfl rfl (by omega)) rfl rfl rfl ?_
         | refine WL.s (Dv rfl rfl) rfl rfl rfl ?_)
       | ((with_reducible refine WL.sX .geq ?_);first
         | refine WL.s (va rfl rfl (by omega)) rfl rfl rfl ?_
         | refine WL.s (vd rfl rfl (by omega)) rfl rfl rfl ?_
         | refine WL.s (Dw rfl rfl) rfl rfl rfl ?_)
       | ((with_reducible refine WL.sX .add ?_);first
         | refine WL.s (x5 rfl rfl (by omega)) rfl rfl rfl ?_
         | refine WL.s (Dq rfl rfl) rfl rfl rfl ?_)
       | ((with_reducible refine WL.sX .sub ?_);first
         | refine WL.s (x6 rfl rfl (by omega)) rfl rfl rfl ?_
         | refine WL.s (Dr rfl rfl) rfl rfl rfl ?_))
     | ((with_reducible refine WL.Lf ?_);first
       | refine WL.s (xZ rfl) rfl rfl rfl ?_
       | refine WL.s (xY rfl) rfl rfl rfl ?_))
   try ((with_reducible refine WL.Lh ?_);refine WL.nil ?_;repeat (with_reducible first | refine aS ?_ | refine aL ?_))
   exact z.out):p:=hx ⟨k⟩
theorem Gg {p q:Prop} (k:q) (hx:Zz q→p:=by
   intro z
   repeat ((with_reducible refine WL.Mj ?_);first
     | refine WL.GV rfl rfl rfl rfl ?_
     | refine WL.auto rfl rfl rfl rfl ?_
     | refine WL.s (lN rfl) rfl rfl rfl ?_
     | ((with_reducible refine WL.Lg ?_);first
       | ((with_reducible refine WL.sX .eql ?_);first
         | refine WL.s (uY rfl rfl (by omega)) rfl rfl rfl ?_
         | refine WL.s (uZ rfl rfl (by omega)) rfl rfl rfl ?_
         | refine WL.s (Ds rfl rfl) rfl rfl rfl ?_
         | refine WL.s (rh rfl rfl (by first | rfl | assumption | decide)) rfl rfl rfl ?_
         | refine WL.s (rj rfl rfl (by first | assumption | decide)) rfl rfl rfl ?_
         | refine WL.s (x7 rfl rfl) rfl rfl rfl ?_)
       | ((with_reducible refine WL.sX .lss ?_);first
         | refine WL.s (u0 rfl rfl (by omega)) rfl rfl rfl ?_
         | refine WL.s (u3 rfl rfl (by omega)) rfl rfl rfl ?_
         | refine WL.s (Dt rfl rfl) rfl rfl rfl ?_)
       | ((with_reducible refine WL.sX .neq ?_);first
         | refine WL.s (ve rfl rfl (by omega)) rfl rfl rfl ?_
         | refine WL.s (vh rfl rfl (by omega)) rfl rfl rfl ?_
         | refine WL.s (Dx rfl rfl) rfl rfl rfl ?_
         | refine WL.s (rl rfl rfl (by first | rfl | assumption | decide)) rfl rfl rfl ?_
         | refine WL.s (rk rfl rfl (by first | assumption | decide)) rfl rfl rfl ?_
         | refine WL.s (x8 rfl rfl) rfl rfl rfl ?_)
       | ((with_reducible refine WL.sX .gtr ?_);first
         | refine WL.s (u4 rfl rfl (by omega)) rfl rfl rfl ?_
         | refine WL.s (u5 rfl rfl (by omega)) rfl rfl rfl ?_
         | refine WL.s (Du rfl rfl) rfl rfl rfl ?_)
       | ((with_reducible refine WL.sX .leq ?_);first
         | refine WL.s (u6 rfl rfl (by omega)) rfl rfl rfl ?_
         | refine WL.s (u7 rfl rfl (by omega)) rfl rfl rfl ?_
         | refine WL.s (Dv rfl rfl) rfl rfl rfl ?_)
       | ((with_reducible refine WL.sX .geq ?_);first
         | refine WL.s (va rfl rfl (by omega)) rfl rfl rfl ?_
         | refine WL.s (vd rfl rfl (by omega)) rfl rfl rfl ?_
         | refine WL.s (Dw rfl rfl) rfl rfl rfl ?_)
       | ((with_reducible refine WL.sX .add ?_);first
         | refine WL.s (x5 rfl rfl (by omega)) rfl rfl rfl ?_
         | refine WL.s (Dq rfl rfl) rfl rfl rfl ?_)
       | ((with_reducible refine WL.sX .sub ?_);first
         | refine WL.s (x6 rfl rfl (by omega)) rfl rfl rfl ?_
         | refine WL.s (Dr rfl rfl) rfl rfl rfl ?_))
     | ((with_reducible refine WL.Lf ?_);first
       | refine WL.s (xZ rfl) rfl rfl rfl ?_
       | refine WL.s (xY rfl) rfl rfl rfl ?_))
   exact z.out):p:=hx ⟨k⟩
theorem Gn {p q:Prop} (k:q) (hx:Zz q→p:=by
   intro z
   try ((with_reducible refine WL.Lh ?_);refine WL.nil ?_)
   repeat (with_reducible first | refine aS ?_ | refine aL ?_)
   exact z.out):p:=hx ⟨k⟩
theorem G2 {p q:Prop} (k:q) (hx:Zz q→p:=by
   intro z
   refine WC.sr ?_;refine Go ?_
   exact z.out):p:=hx ⟨k⟩
theorem G3 {p q:Prop} (k:q) (hx:Zz q→p:=by
   intro z
   refine WC.seq ?_;refine WC.sr ?_;refine Go ?_
   exact z.out):p:=hx ⟨k⟩
theorem WL.k1 {t:Nat} (_:PT t) (_hb:f.get t=some (.bool true)) (k1:WL P n l0 l Q f h) (_:TT):WL P n l0 l Q f h:=k1
theorem WL.k2 {t:Nat} (_:PT t) (_hb:f.get t=some (.bool false)) (k1:WL P n l0 l Q f h) (_:TT):WL P n l0 l Q f h:=k1
theorem WL.GW {t:Nat} (_:PT t) {b:Bool} (hb:f.get t=some (.bool b)) (h1:b=true→WL P n l0 l Q ((t,.bool true) :: f) h) (h2:b=false→WL P n l0 l Q ((t,.bool false) :: f) h):WL P n l0 l Q f h:=.part t hb h1 h2
theorem bK (t:Nat) {p q1 q2:Prop} (k1:q1) (k2:q2) (hx:PT t→Zz q1→Zz q2→p:=by
   intro tg z1 z2
   first
   | exact WL.k1 tg rfl z1.out z2.out
   | exact WL.k2 tg rfl z1.out z2.out
   | (refine WL.GW tg rfl (fun hb=>?_) (fun hb=>?_)
      all_goals (first | replace hb:=of_decide_eq_true hb | replace hb:=of_decide_eq_false hb | replace hb:=of_decide_eq_false (nt hb) | replace hb:=of_decide_eq_true (nf hb) | skip)
      · revert hb;exact Hb.out z1.out
      · revert hb;exact Hb.out z2.out)):p:=hx ⟨⟩ ⟨k1⟩ ⟨k2⟩
theorem WC.Ml {c:Operand} {x y:Code} {i j:Nat} (_:PT i) (_:PT j) (hc:f.ev c=some (.bool true)) (ht:Br i (WC P n x Q f h)) (_:TT):WC P n (.cond c x y) Q f h:=.BD i hc ht
theorem WC.Mm {c:Operand} {x y:Code} {i j:Nat} (_:PT i) (_:PT j) (hc:f.ev c=some (.bool false)) (ht:Br j (WC P n y Q f h)) (_:TT):WC P n (.cond c x y) Q f h:=.BE j hc ht
theorem WC.Mn {c:Operand} {x y:Code} {b:Bool} {i j:Nat} (_:PT i) (_:PT j) (hc:f.ev c=some (.bool b)) (ht:b=true→Br i (WC P n x Q f h)) (hf:b=false→Br j (WC P n y Q f h)):WC P n (.cond c x y) Q f h:=.GQ i j hc ht hf
theorem aH (i j:Nat) {p q1 q2:Prop} (k1:q1) (k2:q2) (hx:PT i→PT j→Zz q1→Zz q2→p:=by
   intro ti tj z1 z2
   first
   | exact WC.Ml ti tj rfl z1.out z2.out
   | exact WC.Mm ti tj rfl z1.out z2.out
   | (refine WC.Mn ti tj rfl (fun hb=>?_) (fun hb=>?_)
      all_goals (first | replace hb:=of_decide_eq_true hb | replace hb:=of_decide_eq_false hb | replace hb:=of_decide_eq_false (nt hb) | replace hb:=of_decide_eq_true (nf hb) | skip)
      · revert hb;exact Hb.out z1.out
      · revert hb;exact Hb.out z2.out)):p:=hx ⟨⟩ ⟨⟩ ⟨k1⟩ ⟨k2⟩
theorem WL.ld {d:Option Tmp} {ty:TypeId} {pos:String} {af:Array Edge} {g:Option (Nat × Bool)} {x:Operand} {ts t b o:Nat} {v:Value} [c:dG P ts] (hx:f.ev x=some (.pointer (some ⟨b,o,Option.none⟩))) (hc:cell h ⟨b,o,Option.none⟩=some v) (hg:goes f l0 ⟨d,.load ts x,ty,pos,af,g⟩=true) (hd:d=some t) (ht:Nat.blt t n.n=true) (hk:WL P n l0 rest Q ((t,v) :: f) h):WL P n l0 (⟨d,.load ts x,ty,pos,af,g⟩ :: rest) Q f h:=.step (aA c.ex hx hc) hg hd ht hk
theorem Ld {p q:Prop} (k:q) (hx:Zz q→p:=by
   intro z
   refine WL.ld rfl (by first | assumption | exact aa (by assumption) rfl) rfl rfl rfl ?_
   exact z.out):p:=hx ⟨k⟩
theorem Gt {p q:Prop} (k:q) (hx:Zz q→p:=by
   intro z
   refine WC.ret ?_
   repeat' (with_reducible first | refine aZ ?_ | refine aV ?_)
   first | refine cm _ ⟨rfl,trivial⟩ ?_ | refine cV _ _ ⟨rfl,rfl,trivial⟩ ?_ | refine mP _ _ _ ⟨rfl,rfl,rfl,trivial⟩ ?_ | refine Eg trivial ?_
   exact z.out):p:=hx ⟨k⟩
structure GT (g:Fr):Prop where
theorem WC.Jq {c:Code} {g:Fr} (_:GT g) (hs:nV g f) (hc:WC P n c Q g h):WC P n c Q f h:=.sub g hs hc
theorem Gs {p q:Prop} (g:Fr) (k:q) (hx:GT g→Zz q→p:=by
   intro tg z
   refine WC.Jq tg ?_ z.out
   repeat' first | exact trivial | refine ⟨rfl,?_⟩):p:=hx ⟨⟩ ⟨k⟩
end
section
variable {P:Program} {n:Env} {l:List Oper} {Q:eL} {C:ah→Prop} {k fuel:Nat} {L:Array Bool} {f:Fr} {h:ah}
theorem WH.tk {o:Oper} {v:Value} {t:Nat} (i:Nat) (hi:l[i]?=some o) (hok:∀ h',C h'→bN P f o h' v) (hg:goes f l o=true) (hd:o.dst=some t) (ht:Nat.blt t n.n=true)
   (hk:WH P n l Q C k fuel (L.setIfInBounds i true) ((t,v) :: f) h)
   (hs:Region.noSelect l.toArray=true:=by kernel_rfl) (hfr:Region.free .any l.toArray L i=true:=by kernel_rfl) (hr:(Region.ready .any l.toArray L).contains i=true:=by kernel_rfl)
   (hE:(List.range l.length).all (fun j=>Nat.blt j k || (!L.getD j true && Region.waitsFor .any l.toArray j i))=true:=by kernel_rfl) (hik:Nat.blt i k=true:=by kernel_rfl) (hC:C h:=by first | exact Ext.refl _ _ | assumption) :
   WH P n l Q C k (fuel+1) L f h:=.take i hi hs hfr hr hE hik hC hok hg hd ht hk
theorem WH.ps {o:Oper} {t:Nat} (i:Nat) (hi:l[i]?=some o) (hg:stops f l o=true) (hd:o.dst=some t) (ht:Nat.blt t n.n=true)
   (hk:WH P n l Q C k fuel (L.setIfInBounds i true) ((t,undef) :: f) h)
   (hs:Region.noSelect l.toArray=true:=by kernel_rfl) (hfr:Region.free .any l.toArray L i=true:=by kernel_rfl) (hr:(Region.ready .any l.toArray L).contains i=true:=by kernel_rfl)
   (hE:(List.range l.length).all (fun j=>Nat.blt j k || (!L.getD j true && Region.waitsFor .any l.toArray j i))=true:=by kernel_rfl) (hik:Nat.blt i k=true:=by kernel_rfl) (hC:C h:=by first | exact Ext.refl _ _ | assumption) :
   WH P n l Q C k (fuel+1) L f h:=.pass i hi hs hfr hr hE hik hC hg hd ht hk
end
end Go.RK
namespace Go.Proofs.YtopgddfgefnmbaaGreatDoor
open Go Go.RK
theorem dm:Tryz.prog.follows .mixedOrders=true:=by kernel_rfl
instance:iB Tryz.prog 23:=⟨_,Tryz.underlying23⟩
instance:iB Tryz.prog 33:=⟨_,Tryz.underlying33⟩
instance:iB Tryz.prog 32:=⟨_,Tryz.underlying32⟩
instance:dG Tryz.prog 23:=⟨fun w=>Tryz.isAgg23 w⟩
instance:dG Tryz.prog 5:=⟨fun w=>Tryz.isAgg5 w⟩
instance:iB Tryz.prog 22:=⟨_,Tryz.underlying22⟩
instance:bu Tryz.prog 53 0 0:=⟨_,_,_,Tryz.underlying53,rfl,rfl,fun w=>Tryz.sizeOf5 w⟩
instance:bu Tryz.prog 42 0 0:=⟨_,_,_,Tryz.underlying42,rfl,rfl,fun w=>Tryz.sizeOf5 w⟩
instance:bu Tryz.prog 53 1 1:=⟨_,_,_,Tryz.underlying53,rfl,rfl,fun w=>Tryz.sizeOf23 w⟩
instance:iB Tryz.prog 39:=⟨_,Tryz.underlying39⟩
instance:iB Tryz.prog 75:=⟨_,Tryz.underlying75⟩
instance:dG Tryz.prog 66:=⟨fun w=>Tryz.isAgg66 w⟩
instance:bu Tryz.prog 42 5 5:=⟨_,_,_,Tryz.underlying42,rfl,rfl,fun w=>Tryz.sizeOf39 w⟩
instance:dG Tryz.prog 39:=⟨fun w=>Tryz.isAgg39 w⟩
instance:bu Tryz.prog 42 6 6:=⟨_,_,_,Tryz.underlying42,rfl,rfl,fun w=>Tryz.sizeOf39 w⟩
instance:bu Tryz.prog 42 7 7:=⟨_,_,_,Tryz.underlying42,rfl,rfl,fun w=>Tryz.sizeOf39 w⟩
instance:bu Tryz.prog 42 8 8:=⟨_,_,_,Tryz.underlying42,rfl,rfl,fun w=>Tryz.sizeOf40 w⟩
instance:dG Tryz.prog 40:=⟨fun w=>Tryz.isAgg40 w⟩
instance:iB Tryz.prog 40:=⟨_,Tryz.underlying40⟩
instance:bu Tryz.prog 42 2 2:=⟨_,_,_,Tryz.underlying42,rfl,rfl,fun w=>Tryz.sizeOf9 w⟩
instance:dG Tryz.prog 9:=⟨fun w=>Tryz.isAgg9 w⟩
instance:GS Tryz.prog 9:=⟨Tryz.underlying9⟩
instance:bu Tryz.prog 42 3 3:=⟨_,_,_,Tryz.underlying42,rfl,rfl,fun w=>Tryz.sizeOf9 w⟩
instance:bu Tryz.prog 42 4 4:=⟨_,_,_,Tryz.underlying42,rfl,rfl,fun w=>Tryz.sizeOf9 w⟩
instance:bu Tryz.prog 96 6 6:=⟨_,_,_,Tryz.underlying96,rfl,rfl,fun w=>Tryz.sizeOf4 w⟩
instance:dG Tryz.prog 4:=⟨fun w=>Tryz.isAgg4 w⟩
instance:bu Tryz.prog 96 1 1:=⟨_,_,_,Tryz.underlying96,rfl,rfl,fun w=>Tryz.sizeOf87 w⟩
instance:dG Tryz.prog 87:=⟨fun w=>Tryz.isAgg87 w⟩
instance:bu Tryz.prog 96 5 5:=⟨_,_,_,Tryz.underlying96,rfl,rfl,fun w=>Tryz.sizeOf4 w⟩
instance:bu Tryz.prog 96 2 2:=⟨_,_,_,Tryz.underlying96,rfl,rfl,fun w=>Tryz.sizeOf90 w⟩
instance:dG Tryz.prog 90:=⟨fun w=>Tryz.isAgg90 w⟩
instance:bu Tryz.prog 96 0 0:=⟨_,_,_,Tryz.underlying96,rfl,rfl,fun w=>Tryz.sizeOf94 w⟩
instance:dG Tryz.prog 94:=⟨fun w=>Tryz.isAgg94 w⟩
instance:iB Tryz.prog 94:=⟨_,Tryz.underlying94⟩
instance:bu Tryz.prog 62 0 0:=⟨_,_,_,Tryz.underlying62,rfl,rfl,fun w=>Tryz.sizeOf3 w⟩
instance:dG Tryz.prog 3:=⟨fun w=>Tryz.isAgg3 w⟩
instance:bu Tryz.prog 62 3 3:=⟨_,_,_,Tryz.underlying62,rfl,rfl,fun w=>Tryz.sizeOf60 w⟩
instance:dG Tryz.prog 60:=⟨fun w=>Tryz.isAgg60 w⟩
instance:iB Tryz.prog 60:=⟨_,Tryz.underlying60⟩
instance:bu Tryz.prog 59 0 0:=⟨_,_,_,Tryz.underlying59,rfl,rfl,fun w=>Tryz.sizeOf9 w⟩
instance:bu Tryz.prog 59 1 1:=⟨_,_,_,Tryz.underlying59,rfl,rfl,fun w=>Tryz.sizeOf9 w⟩
instance:bu Tryz.prog 62 1 1:=⟨_,_,_,Tryz.underlying62,rfl,rfl,fun w=>Tryz.sizeOf3 w⟩
instance:bu Tryz.prog 62 2 2:=⟨_,_,_,Tryz.underlying62,rfl,rfl,fun w=>Tryz.sizeOf3 w⟩
instance:bu Tryz.prog 42 1 1:=⟨_,_,_,Tryz.underlying42,rfl,rfl,fun w=>Tryz.sizeOf5 w⟩
instance:bu Tryz.prog 42 9 9:=⟨_,_,_,Tryz.underlying42,rfl,rfl,fun w=>Tryz.sizeOf3 w⟩
instance:bu Tryz.prog 125 0 0:=⟨_,_,_,Tryz.underlying125,rfl,rfl,fun w=>Tryz.sizeOf123 w⟩
instance:bu Tryz.prog 123 0 0:=⟨_,_,_,Tryz.underlying123,rfl,rfl,fun w=>Tryz.sizeOf119 w⟩
instance:dG Tryz.prog 119:=⟨fun w=>Tryz.isAgg119 w⟩
instance:bu Tryz.prog 125 5 6:=⟨_,_,_,Tryz.underlying125,rfl,rfl,fun w=>Tryz.sizeOf4 w⟩
instance:bu Tryz.prog 127 0 0:=⟨_,_,_,Tryz.underlying127,rfl,rfl,fun w=>Tryz.sizeOf3 w⟩
instance:bu Tryz.prog 127 1 1:=⟨_,_,_,Tryz.underlying127,rfl,rfl,fun w=>Tryz.sizeOf62 w⟩
instance:bu Tryz.prog 125 3 4:=⟨_,_,_,Tryz.underlying125,rfl,rfl,fun w=>Tryz.sizeOf23 w⟩
instance:bu Tryz.prog 123 1 1:=⟨_,_,_,Tryz.underlying123,rfl,rfl,fun w=>Tryz.sizeOf90 w⟩
instance:bu Tryz.prog 127 2 5:=⟨_,_,_,Tryz.underlying127,rfl,rfl,fun w=>Tryz.sizeOf42 w⟩
instance:bu Tryz.prog 125 4 5:=⟨_,_,_,Tryz.underlying125,rfl,rfl,fun w=>Tryz.sizeOf3 w⟩
instance:bu Tryz.prog 73 0 0:=⟨_,_,_,Tryz.underlying73,rfl,rfl,fun w=>Tryz.sizeOf3 w⟩
instance:bu Tryz.prog 73 1 1:=⟨_,_,_,Tryz.underlying73,rfl,rfl,fun w=>Tryz.sizeOf3 w⟩
instance:iB Tryz.prog 80:=⟨_,Tryz.underlying80⟩
instance:bu Tryz.prog 85 1 1:=⟨_,_,_,Tryz.underlying85,rfl,rfl,fun w=>Tryz.sizeOf23 w⟩
instance:bu Tryz.prog 147 3 3:=⟨_,_,_,Tryz.underlying147,rfl,rfl,fun w=>Tryz.sizeOf3 w⟩
instance:bu Tryz.prog 147 1 1:=⟨_,_,_,Tryz.underlying147,rfl,rfl,fun w=>Tryz.sizeOf23 w⟩
instance:bu Tryz.prog 147 0 0:=⟨_,_,_,Tryz.underlying147,rfl,rfl,fun w=>Tryz.sizeOf145 w⟩
instance:bu Tryz.prog 96 3 3:=⟨_,_,_,Tryz.underlying96,rfl,rfl,fun w=>Tryz.sizeOf60 w⟩
instance:bu Tryz.prog 96 4 4:=⟨_,_,_,Tryz.underlying96,rfl,rfl,fun w=>Tryz.sizeOf3 w⟩
instance:bu Tryz.prog 161 0 0:=⟨_,_,_,Tryz.underlying161,rfl,rfl,fun w=>Tryz.sizeOf158 w⟩
instance:dG Tryz.prog 158:=⟨fun w=>Tryz.isAgg158 w⟩
instance:bu Tryz.prog 153 5 5:=⟨_,_,_,Tryz.underlying153,rfl,rfl,fun w=>Tryz.sizeOf4 w⟩
instance:bu Tryz.prog 153 4 4:=⟨_,_,_,Tryz.underlying153,rfl,rfl,fun w=>Tryz.sizeOf4 w⟩
instance:bu Tryz.prog 85 0 0:=⟨_,_,_,Tryz.underlying85,rfl,rfl,fun w=>Tryz.sizeOf4 w⟩
instance:bu Tryz.prog 181 0 0:=⟨_,_,_,Tryz.underlying181,rfl,rfl,fun w=>Tryz.sizeOf87 w⟩
instance:bu Tryz.prog 125 1 2:=⟨_,_,_,Tryz.underlying125,rfl,rfl,fun w=>Tryz.sizeOf60 w⟩
instance:bu Tryz.prog 125 2 3:=⟨_,_,_,Tryz.underlying125,rfl,rfl,fun w=>Tryz.sizeOf3 w⟩
instance:bu Tryz.prog 153 3 3:=⟨_,_,_,Tryz.underlying153,rfl,rfl,fun w=>Tryz.sizeOf5 w⟩
instance:bu Tryz.prog 140 0 0:=⟨_,_,_,Tryz.underlying140,rfl,rfl,fun w=>Tryz.sizeOf5 w⟩
instance:bu Tryz.prog 140 3 3:=⟨_,_,_,Tryz.underlying140,rfl,rfl,fun w=>Tryz.sizeOf9 w⟩
instance:bu Tryz.prog 140 4 4:=⟨_,_,_,Tryz.underlying140,rfl,rfl,fun w=>Tryz.sizeOf9 w⟩
instance:bu Tryz.prog 140 5 5:=⟨_,_,_,Tryz.underlying140,rfl,rfl,fun w=>Tryz.sizeOf3 w⟩
instance:bu Tryz.prog 140 6 6:=⟨_,_,_,Tryz.underlying140,rfl,rfl,fun w=>Tryz.sizeOf3 w⟩
instance:bu Tryz.prog 140 1 1:=⟨_,_,_,Tryz.underlying140,rfl,rfl,fun w=>Tryz.sizeOf5 w⟩
instance:bu Tryz.prog 140 2 2:=⟨_,_,_,Tryz.underlying140,rfl,rfl,fun w=>Tryz.sizeOf9 w⟩
instance:bu Tryz.prog 140 9 9:=⟨_,_,_,Tryz.underlying140,rfl,rfl,fun w=>Tryz.sizeOf40 w⟩
instance:bu Tryz.prog 140 8 8:=⟨_,_,_,Tryz.underlying140,rfl,rfl,fun w=>Tryz.sizeOf137 w⟩
instance:dG Tryz.prog 137:=⟨fun w=>Tryz.isAgg137 w⟩
instance:bu Tryz.prog 140 7 7:=⟨_,_,_,Tryz.underlying140,rfl,rfl,fun w=>Tryz.sizeOf39 w⟩
instance:bu Tryz.prog 140 10 10:=⟨_,_,_,Tryz.underlying140,rfl,rfl,fun w=>Tryz.sizeOf138 w⟩
instance:dG Tryz.prog 138:=⟨fun w=>Tryz.isAgg138 w⟩
instance:bu Tryz.prog 145 0 0:=⟨_,_,_,Tryz.underlying145,rfl,rfl,fun w=>Tryz.sizeOf4 w⟩
instance:bu Tryz.prog 199 0 0:=⟨_,_,_,Tryz.underlying199,rfl,rfl,fun w=>Tryz.sizeOf23 w⟩
instance:bu Tryz.prog 207 0 0:=⟨_,_,_,Tryz.underlying207,rfl,rfl,fun w=>Tryz.sizeOf23 w⟩
instance:iB Tryz.prog 137:=⟨_,Tryz.underlying137⟩
instance:bu Tryz.prog 153 2 2:=⟨_,_,_,Tryz.underlying153,rfl,rfl,fun w=>Tryz.sizeOf46 w⟩
instance:dG Tryz.prog 46:=⟨fun w=>Tryz.isAgg46 w⟩
instance:bu Tryz.prog 153 1 1:=⟨_,_,_,Tryz.underlying153,rfl,rfl,fun w=>Tryz.sizeOf150 w⟩
instance:dG Tryz.prog 150:=⟨fun w=>Tryz.isAgg150 w⟩
instance:dG Tryz.prog 221:=⟨fun w=>Tryz.isAgg221 w⟩
instance:bu Tryz.prog 169 0 0:=⟨_,_,_,Tryz.underlying169,rfl,rfl,fun w=>Tryz.sizeOf9 w⟩
instance:bu Tryz.prog 169 1 1:=⟨_,_,_,Tryz.underlying169,rfl,rfl,fun w=>Tryz.sizeOf9 w⟩
instance:bu Tryz.prog 181 1 1:=⟨_,_,_,Tryz.underlying181,rfl,rfl,fun w=>Tryz.sizeOf4 w⟩
instance:bu Tryz.prog 212 0 0:=⟨_,_,_,Tryz.underlying212,rfl,rfl,fun w=>Tryz.sizeOf9 w⟩
instance:bu Tryz.prog 212 1 1:=⟨_,_,_,Tryz.underlying212,rfl,rfl,fun w=>Tryz.sizeOf3 w⟩
instance:bu Tryz.prog 212 2 2:=⟨_,_,_,Tryz.underlying212,rfl,rfl,fun w=>Tryz.sizeOf3 w⟩
instance:bu Tryz.prog 212 3 3:=⟨_,_,_,Tryz.underlying212,rfl,rfl,fun w=>Tryz.sizeOf3 w⟩
instance:bu Tryz.prog 212 4 4:=⟨_,_,_,Tryz.underlying212,rfl,rfl,fun w=>Tryz.sizeOf3 w⟩
instance:bu Tryz.prog 212 5 5:=⟨_,_,_,Tryz.underlying212,rfl,rfl,fun w=>Tryz.sizeOf3 w⟩
instance:bu Tryz.prog 212 6 6:=⟨_,_,_,Tryz.underlying212,rfl,rfl,fun w=>Tryz.sizeOf3 w⟩
instance:iB Tryz.prog 138:=⟨_,Tryz.underlying138⟩
instance:bu Tryz.prog 194 0 0:=⟨_,_,_,Tryz.underlying194,rfl,rfl,fun w=>Tryz.sizeOf5 w⟩
instance:bu Tryz.prog 194 1 1:=⟨_,_,_,Tryz.underlying194,rfl,rfl,fun w=>Tryz.sizeOf9 w⟩
instance:bu Tryz.prog 147 4 4:=⟨_,_,_,Tryz.underlying147,rfl,rfl,fun w=>Tryz.sizeOf48 w⟩
instance:dG Tryz.prog 48:=⟨fun w=>Tryz.isAgg48 w⟩
instance:bu Tryz.prog 199 2 2:=⟨_,_,_,Tryz.underlying199,rfl,rfl,fun w=>Tryz.sizeOf4 w⟩
instance:bu Tryz.prog 199 1 1:=⟨_,_,_,Tryz.underlying199,rfl,rfl,fun w=>Tryz.sizeOf4 w⟩
instance:bu Tryz.prog 189 0 0:=⟨_,_,_,Tryz.underlying189,rfl,rfl,fun w=>Tryz.sizeOf187 w⟩
instance:dG Tryz.prog 187:=⟨fun w=>Tryz.isAgg187 w⟩
instance:bu Tryz.prog 153 0 0:=⟨_,_,_,Tryz.underlying153,rfl,rfl,fun w=>Tryz.sizeOf149 w⟩
instance:dG Tryz.prog 149:=⟨fun w=>Tryz.isAgg149 w⟩
instance:bu Tryz.prog 261 1 1:=⟨_,_,_,Tryz.underlying261,rfl,rfl,fun w=>Tryz.sizeOf39 w⟩
instance:bu Tryz.prog 273 0 0:=⟨_,_,_,Tryz.underlying273,rfl,rfl,fun w=>Tryz.sizeOf261 w⟩
instance:bu Tryz.prog 261 0 0:=⟨_,_,_,Tryz.underlying261,rfl,rfl,fun w=>Tryz.sizeOf9 w⟩
instance:bu Tryz.prog 273 3 4:=⟨_,_,_,Tryz.underlying273,rfl,rfl,fun w=>Tryz.sizeOf4 w⟩
instance:bu Tryz.prog 273 1 2:=⟨_,_,_,Tryz.underlying273,rfl,rfl,fun w=>Tryz.sizeOf40 w⟩
instance:bu Tryz.prog 278 0 0:=⟨_,_,_,Tryz.underlying278,rfl,rfl,fun w=>Tryz.sizeOf3 w⟩
instance:iB Tryz.prog 301:=⟨_,Tryz.underlying301⟩
instance:dG Tryz.prog 165:=⟨fun w=>Tryz.isAgg165 w⟩
instance:bu Tryz.prog 147 2 2:=⟨_,_,_,Tryz.underlying147,rfl,rfl,fun w=>Tryz.sizeOf3 w⟩
instance:bu Tryz.prog 273 2 3:=⟨_,_,_,Tryz.underlying273,rfl,rfl,fun w=>Tryz.sizeOf271 w⟩
instance:bu Tryz.prog 278 1 1:=⟨_,_,_,Tryz.underlying278,rfl,rfl,fun w=>Tryz.sizeOf3 w⟩
instance:iB Tryz.prog 271:=⟨_,Tryz.underlying271⟩
instance:bu Tryz.prog 273 4 5:=⟨_,_,_,Tryz.underlying273,rfl,rfl,fun w=>Tryz.sizeOf4 w⟩
instance:dG Tryz.prog 271:=⟨fun w=>Tryz.isAgg271 w⟩
instance:bu Tryz.prog 278 2 2:=⟨_,_,_,Tryz.underlying278,rfl,rfl,fun w=>Tryz.sizeOf9 w⟩
instance:iB Tryz.prog 249:=⟨_,Tryz.underlying249⟩
instance:dG Tryz.prog 255:=⟨fun w=>Tryz.isAgg255 w⟩
instance:dG Tryz.prog 257:=⟨fun w=>Tryz.isAgg257 w⟩
instance:dG Tryz.prog 86:=⟨fun w=>Tryz.isAgg86 w⟩
instance:dG Tryz.prog 229:=⟨fun w=>Tryz.isAgg229 w⟩
instance:bu Tryz.prog 104 0 0:=⟨_,_,_,Tryz.underlying104,rfl,rfl,fun w=>Tryz.sizeOf97 w⟩
instance:dG Tryz.prog 97:=⟨fun w=>Tryz.isAgg97 w⟩
instance:bu Tryz.prog 104 1 1:=⟨_,_,_,Tryz.underlying104,rfl,rfl,fun w=>Tryz.sizeOf102 w⟩
instance:bu Tryz.prog 310 0 0:=⟨_,_,_,Tryz.underlying310,rfl,rfl,fun w=>Tryz.sizeOf3 w⟩
instance:bu Tryz.prog 310 1 1:=⟨_,_,_,Tryz.underlying310,rfl,rfl,fun w=>Tryz.sizeOf3 w⟩
instance:bu Tryz.prog 310 2 2:=⟨_,_,_,Tryz.underlying310,rfl,rfl,fun w=>Tryz.sizeOf3 w⟩
instance:bu Tryz.prog 344 1 1:=⟨_,_,_,Tryz.underlying344,rfl,rfl,fun w=>Tryz.sizeOf23 w⟩
instance:bu Tryz.prog 102 2 0:=⟨_,_,_,Tryz.underlying102,rfl,rfl,fun w=>Tryz.sizeOf2 w⟩
instance:iB Tryz.prog 337:=⟨_,Tryz.underlying337⟩
instance:bu Tryz.prog 344 0 0:=⟨_,_,_,Tryz.underlying344,rfl,rfl,fun w=>Tryz.sizeOf342 w⟩
instance:dG Tryz.prog 342:=⟨fun w=>Tryz.isAgg342 w⟩
instance:bu Tryz.prog 379 0 0:=⟨_,_,_,Tryz.underlying379,rfl,rfl,fun w=>Tryz.sizeOf5 w⟩
instance:bu Tryz.prog 379 1 1:=⟨_,_,_,Tryz.underlying379,rfl,rfl,fun w=>Tryz.sizeOf5 w⟩
end Go.Proofs.YtopgddfgefnmbaaGreatDoor
namespace Go.RK
open Go Go.MapKept Go.ChangeMaps
section
variable {P:Program} {f:Fr} {h:ah} {d:Option Tmp} {ty:TypeId} {pos:String} {af:Array Edge} {g:Option (Nat × Bool)}
variable {t t2:TypeId} {x y:Operand} {a b:Int}
theorem El (hx:f.ev x=some (In a)) (hy:f.ev y=some (In b)) (hb:0≤b∧b≤64):bN P f ⟨d,.binOp .shr t x y t2,ty,pos,af,g⟩ h (In (a / 2 ^ b.toNat)) :=
 fun ρ w ha _=>by
   have h1:¬ b < 0:=by omega
   have h2:min b.toNat 64=b.toNat:=by omega
   have h3:(IntKind.i64).bits=64:=rfl
   simp [execOp,ha _ _ hx,ha _ _ hy,eqGuard_shr,binOp_shr,Op.shift,h1,h3,h2]
theorem Em (hx:f.ev x=some (In a)) (hy:f.ev y=some (In b)) (hb:0≤b∧b≤64) (hr : -9223372036854775808≤a * 2 ^ b.toNat∧a * 2 ^ b.toNat≤9223372036854775807):bN P f ⟨d,.binOp .shl t x y t2,ty,pos,af,g⟩ h (In (a * 2 ^ b.toNat)) :=
 fun ρ w ha _=>by
   have h1:¬ b < 0:=by omega
   have h2:min b.toNat 64=b.toNat:=by omega
   have h3:(IntKind.i64).bits=64:=rfl
   have h4:=wrap_i64 _ hr.1 hr.2
   simp [execOp,ha _ _ hx,ha _ _ hy,eqGuard_shl,binOp_shl,Op.shift,h1,h3,h2,h4]
end
section
variable {P:Program} {f:Fr} {h:ah} {dd:Option Tmp} {ty:TypeId} {pos:String} {af:Array Edge} {g:Option (Nat × Bool)}
variable {κ:Type} [DecidableEq κ] {dsc:TypeDesc} {enc:κ→Value} {m:Nat} {es:List (κ × Value)} {k:κ}
end
end Go.RK
namespace Go.RK
open Go
section
variable {P:Program} {f:Fr} {h:ah} {d:Option Tmp} {ty:TypeId} {pos:String} {af:Array Edge} {g:Option (Nat × Bool)}
theorem fW {x y:Operand} {t u e:TypeId} {i:TypeInfo} {ts:Array TypeId} (hts:ts=#[t,u]) (ht:P.underlying t=some (.slice e)) (hu:P.underlying u=some .string) (hi:P.info? e=some i) (hz:i.zero=some (.int .u8 0)) (hsz:i.size=1) (hby:i.bytes=1)
   {v:Value} {n:Nat} {xs:List Value} {s:List UInt8} (hx:f.ev x=some v) (hy:f.ev y=some (St s)) (hown:Own h v e 1 n xs) (hm:n+s.length≤140737488355328) :
   eG P f ⟨d,.call { callee:=.builtin .append,args:=#[x,y],argTypes:=ts },ty,pos,af,g⟩ h
     (fun v' h'=>Own h' v' e 1 (n+s.length) (xs++bA s)∧Ext (fun k=>v.ownBlock=some k) h h'∧(∀ k,v'.ownBlock=some k→v.ownBlock=some k∨h.size≤k)∧(v'=.slice Option.none 0 0 ↔ v=.slice Option.none 0 0∧s=[])) :=
 fun ρ w ha hw=>by
   subst hw
   subst hts
   have hup:=hown.up
   have Jr:n+(ByteArray.mk ⟨s⟩).size≤maxLen:=by show n+s.length≤maxLen;unfold maxLen;omega
   obtain ⟨v',w',hr,ho',hgr,hiff⟩:=Lib.run_append_own_string (P:=P) w 0 t u ty e i ht hu hi hz hsz hby v n xs hup ⟨⟨s⟩⟩ Jr hm (Nat.zero_le _)
   have hloc:∀ k,v'.ownBlock=some k→v.ownBlock=some k∨w.heap.size≤k:=by
     intro k hk
     obtain ⟨hl,⟨rfl,Eo⟩ | ⟨g0,cap,cur,rfl,Js,hn,hc,hs,htk⟩⟩:=hown
     · have Jt:w.ownsRow w.heap.size e 1 (.slice Option.none 0 0) n xs:=⟨hl,.inl ⟨rfl,Eo⟩⟩
       obtain ⟨v2,w2,qO,dc,_,_⟩:=Lib.run_append_own_string (P:=P) w w.heap.size t u ty e i ht hu hi hz hsz hby _ n xs Jt ⟨⟨s⟩⟩ Jr hm (Nat.le_refl _)
       rw [hr] at qO
       injection qO with e1 e2
       subst e1
       obtain ⟨_,⟨rfl,_⟩ | ⟨g1,_,_,rfl,hb,_⟩⟩:=dc
       · cases hk
       · simp only [Value.ownBlock,Option.some.injEq] at hk
         exact .inr (hk▸hb)
     · by_cases hroom:n+(ByteArray.mk ⟨s⟩).size≤cap
       · have qO:=Lib.run_append_room_string (P:=P) w t u ty e i ht hu hi hsz g0 n cap cur Js ⟨⟨s⟩⟩ hroom (by rw [hs];simpa using hroom)
         rw [hr] at qO
         injection qO with e1 e2
         subst e1
         exact .inl hk
       · have hxl:xs.length=n:=by simpa using hl
         have holds:=hup.cells (g:=g0) rfl
         have qO:=Lib.run_append_grow_string (P:=P) w t u ty e i (.int .u8 0) ht hu hi hz ⟨g0,0,Option.none⟩ n cap xs (by rw [hsz];omega) holds ⟨⟨s⟩⟩ (by omega) (by unfold maxLen at Jr;omega) (by rw [hby];exact growslice_fits (by omega) (by show (n+s.length) * 1≤140737488355328;omega))
         rw [hr] at qO
         injection qO with e1 e2
         subst e1
         simp only [Value.ownBlock,Option.some.injEq] at hk
         exact .inr (by omega)
   refine ⟨v',w',⟨hgr.tape,hgr.os,hgr.output,trivial⟩,⟨.down ho',⟨hgr.size,fun k hk hS=>hgr.block k hk (fun e=>hS e.symm)⟩,hloc,?_⟩,.inl ?_⟩
   · rw [hiff]
     constructor
     · rintro ⟨h1,h2⟩
       exact ⟨h1,List.eq_nil_of_length_eq_zero h2⟩
     · rintro ⟨h1,rfl⟩
       exact ⟨h1,rfl⟩
   · simp [execOp,resolve,invoke,builtin,ha _ _ hx,ha _ _ hy,hr]
end
end Go.RK
namespace Go.Proofs.YtopgddfgefnmbaaGreatDoor
open Go Go.RK
def bI (n:Int) (i:Nat):UInt8:=UInt8.ofNat ((n / 256 ^ i) % 256).toNat
def kI (n:Int) (s:Nat):Nat→List UInt8
 | 0=>[]
 | k+1=>kI n s k++[bI n (s - 1 - k)]
def be (n:Int) (s:Nat):List UInt8:=kI n s s
theorem pG (n:Int) (s k:Nat):(kI n s k).length=k:=by
 induction k with
 | zero=>rfl
 | succ k ih=>simp [kI,ih]
theorem bn (n:Int) (s:Nat):(be n s).length=s:=pG n s s
theorem yd (n:Int) (i:Nat):((bI n i).toNat:Int)=(n / 256 ^ i) % 256:=by
 unfold bI
 have h1:0≤(n / 256 ^ i) % 256:=Int.emod_nonneg _ (by decide)
 have h2:(n / 256 ^ i) % 256 < 256:=Int.emod_lt_of_pos _ (by decide)
 have h3:(UInt8.ofNat ((n / 256 ^ i) % 256).toNat).toNat=((n / 256 ^ i) % 256).toNat:=by simp;omega
 rw [h3,Int.toNat_of_nonneg h1]
def Sz (s:Nat):Prop:=s=1∨s=2∨s=4
def Rt (n:Int) (s:Nat):Prop := -(256 ^ s / 2)≤n∧n < 256 ^ s
theorem Dy {n x:Int} {i:Nat} (h:x % 256=(n / 256 ^ i) % 256):(.int .u8 (IntKind.u8.wrap x):Value)=By (bI n i):=by
 unfold By
 rw [yd,← h]
 congr 1
theorem BG {h:ah} (s:Nat) (hs:Sz s):ag Tryz.prog 180 ⟨[In s]⟩ h fun u h'=>u=.bool true∧h'=h:=by
 rcases hs with rfl | rfl | rfl
 all_goals
   refine calls [(0,_)] Tryz.func180 rfl Tryz.ntmps180 rfl ⟨rfl,trivial⟩ ?_
   all_goals (refine G2 ?_;refine G3 ?_;refine WC.block ?_;refine G3 ?_;refine aH 1 2 ?_ TT.mk)
   all_goals try (
   refine aw 1 ?_
   all_goals (refine WC.skip ?_)
   skip)
   all_goals try (
   refine aw 2 ?_
   all_goals (refine G2 ?_;refine Gs [(3,_),(4,_)] ?_;refine aH 3 4 ?_ TT.mk)
   all_goals try (
   refine aw 3 ?_
   all_goals (refine WC.skip ?_)
   skip)
   all_goals try (
   refine aw 4 ?_
   all_goals (refine WC.region (Go ?_))
   skip)
   skip)
   all_goals (refine Gn ?_;refine aH 5 6 ?_ TT.mk;refine aw 5 ?_;refine G2 ?_;refine Gt ?_;exact ⟨rfl,rfl⟩)
theorem ye {h:ah} (s:Nat) (hs:Sz s):ag Tryz.prog 181 ⟨[In s]⟩ h fun u h'=>u=In (256 ^ s)∧h'=h:=by
 rcases hs with rfl | rfl | rfl
 all_goals
   refine calls [(0,_)] Tryz.func181 rfl Tryz.ntmps181 rfl ⟨rfl,trivial⟩ ?_
   all_goals (refine G2 ?_;refine G2 ?_;refine WL.step (jR rfl rfl (by omega)) rfl rfl rfl ?_;refine WL.step (Em rfl rfl (by decide) (by decide)) rfl rfl rfl (Go ?_);refine Gs [(2,_)] ?_;refine Gt ?_;exact ⟨rfl,rfl⟩)
theorem tA {s:Nat} (hs:Sz s):(256:Int) ^ s=256∨(256:Int) ^ s=65536∨(256:Int) ^ s=4294967296:=by
 rcases hs with rfl | rfl | rfl
 · exact .inl rfl
 · exact .inr (.inl rfl)
 · exact .inr (.inr rfl)
theorem pH {h:ah} (n:Int) (s:Nat) (hs:Sz s) (hr:Rt n s):ag Tryz.prog 173 ⟨[In n,In s]⟩ h fun u h'=>u=.bool true∧h'=h:=by
 obtain ⟨r1,r2⟩:=hr
 have ks:=ye (h:=h) s hs
 have hq:=tA hs
 generalize (256:Int) ^ s=q at r1 r2 ks hq
 rcases hq with rfl | rfl | rfl
 all_goals
   refine calls [(0,_),(1,_)] Tryz.func173 rfl Tryz.ntmps173 rfl ⟨rfl,rfl,trivial⟩ ?_
   all_goals (refine G2 ?_;refine G3 ?_;refine WL.call (vs:=[_]) rfl Tryz.call180 rfl (BG s hs) rfl rfl rfl ?_;rintro _ hz ⟨rfl,_⟩;subst hz;refine Go ?_;refine aH 1 2 ?_ TT.mk;refine aw 2 ?_;refine WC.skip ?_;refine Gn ?_;refine Gs [(0,_),(1,_)] ?_;refine G2 ?_;refine WL.call (vs:=[_]) rfl Tryz.call181 rfl (ks) rfl rfl rfl ?_;rintro _ hz ⟨rfl,_⟩;subst hz;refine WL.step (pE rfl (by omega)) rfl rfl rfl ?_;refine WL.step (iR rfl rfl (by decide) (j3 (by omega) (by decide))) rfl rfl rfl ?_;first | rw [show (-256:Int).tdiv 2 = -128 from rfl] | rw [show (-65536:Int).tdiv 2 = -32768 from rfl] | rw [show (-4294967296:Int).tdiv 2 = -2147483648 from rfl])
   all_goals (refine Go ?_;refine bK 14 ?_ TT.mk;refine Gg ?_;refine WL.call (vs:=[_]) rfl Tryz.call181 rfl (ks) rfl rfl rfl ?_;rintro _ hz ⟨rfl,_⟩;subst hz;refine Gg ?_;refine Go ?_;refine Gs [(4,_)] ?_;refine Gt ?_;exact ⟨rfl,rfl⟩)
theorem BH {h:ah} (n:Int) (s:Nat) (hs:Sz s) (hr:Rt n s) (kp:ag Tryz.prog 106 ⟨[In s]⟩ h fun u h'=>u=In (256 ^ s)∧h'=h) (kz:ag Tryz.prog 158 ⟨[In s]⟩ h fun u h'=>u=.bool true∧h'=h) :
   ag Tryz.prog 105 ⟨[In n,In s]⟩ h fun u h'=>u=.bool true∧h'=h:=by
 obtain ⟨r1,r2⟩:=hr
 have hq:=tA hs
 generalize (256:Int) ^ s=q at r1 r2 kp hq
 rcases hq with rfl | rfl | rfl
 all_goals
   refine calls [(0,_),(1,_)] Tryz.func105 rfl Tryz.ntmps105 rfl ⟨rfl,rfl,trivial⟩ ?_
   all_goals (refine G2 ?_;refine G2 ?_;refine WL.call (vs:=[_]) rfl Tryz.call158 rfl (kz) rfl rfl rfl ?_;rintro _ hz ⟨rfl,_⟩;subst hz;refine Go ?_;refine bK 7 ?_ TT.mk;refine Gg ?_;refine WL.call (vs:=[_]) rfl Tryz.call106 rfl (kp) rfl rfl rfl ?_;rintro _ hz ⟨rfl,_⟩;subst hz;refine WL.step (pE rfl (by omega)) rfl rfl rfl ?_;refine WL.step (iR rfl rfl (by decide) (j3 (by omega) (by decide))) rfl rfl rfl ?_;first | rw [show (-256:Int).tdiv 2 = -128 from rfl] | rw [show (-65536:Int).tdiv 2 = -32768 from rfl] | rw [show (-4294967296:Int).tdiv 2 = -2147483648 from rfl])
   all_goals (refine Gg ?_;refine Go ?_;refine bK 15 ?_ TT.mk;refine Gg ?_;refine WL.call (vs:=[_]) rfl Tryz.call106 rfl (kp) rfl rfl rfl ?_;rintro _ hz ⟨rfl,_⟩;subst hz;refine Gg ?_;refine Go ?_;refine Gs [(4,_)] ?_;refine Gt ?_;exact ⟨rfl,rfl⟩)
theorem BI {h:ah} (s:Nat) (hs:Sz s):ag Tryz.prog 158 ⟨[In s]⟩ h fun u h'=>u=.bool true∧h'=h:=by
 rcases hs with rfl | rfl | rfl
 all_goals
   refine calls [(0,_)] Tryz.func158 rfl Tryz.ntmps158 rfl ⟨rfl,trivial⟩ ?_
   all_goals (refine G2 ?_;refine G2 ?_;refine bK 5 ?_ TT.mk;refine Gg ?_;refine Go ?_;refine bK 9 ?_ TT.mk;refine Gg ?_;refine Go ?_;refine Gs [(2,_)] ?_;refine Gt ?_;exact ⟨rfl,rfl⟩)
theorem pI {k:Nat} (h:k≤3):1≤(256:Int) ^ k∧(256:Int) ^ k≤16777216:=by
 have:k=0∨k=1∨k=2∨k=3:=by omega
 rcases this with rfl | rfl | rfl | rfl <;> decide
theorem Dz {h:ah} (s:Nat) (hs:s≤4):ag Tryz.prog 106 ⟨[In s]⟩ h fun u h'=>u=In (256 ^ s)∧h'=h:=by
 refine calls [(0,_)] Tryz.func106 rfl Tryz.ntmps106 rfl ⟨rfl,trivial⟩ ?_
 refine G2 ?_;refine G2 ?_;refine G3 ?_;refine WC.block ?_;refine WC.bD (X:=Nat × Int) (fun x=>([(3,In x.2),(4,In (x.1:Int))]:Fr)) [(0,_)] (fun x h'=>h'=h∧x.1≤s∧x.2=256 ^ x.1) (fun x=>s - x.1) ((0,1)) ⟨rfl,rfl,rfl,trivial⟩ (by exact ⟨rfl,Nat.zero_le _,rfl⟩) ?_
 rintro ⟨k,p⟩ h9 ⟨hz,hk,hp⟩
 dsimp only at hk hp
 subst h9
 refine WC.sub [(3,_),(4,_),(0,_)] ⟨rfl,rfl,rfl,trivial⟩ ?_
 dsimp only
 refine G3 ?_
 refine aH 1 2 (Hb.mk fun hb=>?_) (Hb.mk fun hb=>?_)
 all_goals try (
 refine aw 1 ?_
 refine WC.skip ?_
 skip)
 all_goals try (
 refine aw 2 ?_
 refine WC.exit ?_
 repeat' (with_reducible first | refine aU ?_ | refine aD rfl ?_ | refine aJ ?_ | refine aL ?_ | refine aS ?_)
 refine Br.out (i:=1000) ?_
 skip)
 all_goals (refine Gn ?_;first | refine Br.ab ?_ | refine WC.seq ?_)
 all_goals (first | refine Br.ab ?_ | refine WC.block ?_)
 all_goals (first | refine Br.ab ?_ | refine WC.region ?_)
 all_goals (
  first
    | (refine Br.ab ?_)
    | (have hpl:=pI (show k≤3 by omega)
       rw [← hp] at hpl))
 all_goals (first | refine Br.ab ?_ | refine WL.step (ak rfl) rfl rfl rfl ?_)
 all_goals (first | refine Br.ab ?_ | (refine WL.step (jR rfl rfl (by omega)) rfl rfl rfl ?_))
 all_goals (refine Go ?_;first | refine Br.ab ?_ | refine Gs [(0,_),(3,_),(4,_)] ?_)
 all_goals (first | refine Br.ab ?_ | refine WC.region ?_)
 all_goals (refine Go ?_;first | refine Br.ab ?_ | (exact ⟨(k+1,_),⟨rfl,rfl,rfl,trivial⟩,(by exact ⟨rfl,by omega,by rw [hp];rfl⟩),(by simp;omega)⟩))
 try (refine Br.mk (i:=1000) ?_)
 refine Gn ?_;refine Gs [(3,_)] ?_;refine G2 ?_;refine Gt ?_
 exact ⟨by rw [hp,show k=s by omega],rfl⟩
theorem yf {n:Int} {k:Nat} {b:Int} (hb:b=8 * (k:Int)):n / 2 ^ b.toNat=n / 256 ^ k:=by
 have h1:b.toNat=8 * k:=by omega
 rw [h1,show (2:Int) ^ (8 * k)=256 ^ k by rw [Int.pow_mul];rfl]
theorem DA {h:ah} {v:Value} (l:List UInt8) (n:Int) (s:Nat) (hs:Sz s) (hr:Rt n s) (hv:Rd h v 1 l.length (bA l)) (hl:l.length≤100000000000000) :
   ag Tryz.prog 164 ⟨[v,In n,In s]⟩ h fun u h'=>Own h' u 5 1 (l++be n s).length (bA (l++be n s))∧Ext No h h'∧∀ q,u.ownBlock=some q→h.size≤q:=by
 obtain ⟨A,c,rfl,hc⟩:=id hv
 have wz:s≤4:=by unfold Sz at hs;omega
 have fT:1≤s:=by unfold Sz at hs;omega
 refine calls [(0,_),(1,_),(2,_)] Tryz.func164 rfl Tryz.ntmps164 rfl ⟨rfl,rfl,rfl,trivial⟩ ?_
 refine G2 ?_;refine WC.sr ?_;refine WL.aj (au (vs:=[]) (cs:=[]) (fun _=>[]) Tryz.underlying23 rfl rfl (by kernel_rfl)) rfl rfl rfl ?_
 rintro _ h1 ⟨b1,rfl,bR,aR,az⟩
 refine Go ?_;refine WL.aj (aT (sz:=1) (bytes:=1) rfl Tryz.underlying23 (show Tryz.prog.info? 5=some Tryz.t5 by kernel_rfl) rfl rfl rfl rfl (by decide) rfl rfl (dE aR rfl (by decide)) (hv.aq az) (by intro c hc;obtain ⟨b,_,rfl⟩:=List.mem_map.1 hc;rfl) (by simp only [maxLen];omega) (by omega)) rfl rfl rfl ?_
 rintro v2 h2 ⟨dc,aI,kO⟩
 have eI:∀ q,v2.ownBlock=some q→h.size≤q:=bU kO (by simp [Value.ownBlock];omega) az.size
 have ia:Ext No h h2:=az.trans' aI (fun q hq e=>by simp [Value.ownBlock] at e;omega)
 refine Go ?_;refine Gs [(1,_),(2,_),(7,_)] ?_;refine G3 ?_;refine WL.call (vs:=[_,_]) rfl Tryz.call173 rfl (pH n s hs hr) rfl rfl rfl ?_
 rintro _ hz ⟨rfl,_⟩
 subst hz
 refine Go ?_
 refine aH 1 2 ?_ TT.mk
 all_goals (refine aw 2 ?_)
 refine WC.skip ?_;refine Gn ?_;refine Gs [(1,_),(2,_),(7,_)] ?_;refine G3 ?_;refine WL.step (jR rfl rfl (by omega)) rfl rfl rfl (Go ?_)
 refine Gs [(1,_),(7,_),(8,_)] ?_;refine WC.block ?_;refine WC.bD (X:=Value × Int × Nat) (fun x=>([(7,x.1),(8,In x.2.1)]:Fr)) [(1,_)] (fun x h'=>x.2.2≤s∧x.2.1=8 * ((s:Int) - 1 - x.2.2)∧Own h' x.1 5 1 (l++kI n s x.2.2).length (bA (l++kI n s x.2.2))∧Ext No h h'∧∀ q,x.1.ownBlock=some q→h.size≤q) (fun x=>s - x.2.2) ((v2,_,0)) ⟨rfl,rfl,rfl,trivial⟩ (by exact ⟨Nat.zero_le _,by simp,by simpa [kI] using dc,ia,eI⟩) ?_
 rintro ⟨w,sh,k⟩ h3 ⟨hk,hsh,dN,aQ,gS⟩
 dsimp only at hk hsh dN gS
 have hbl:=pG n s k
 have GX:(l++kI n s k).length=l.length+k:=by rw [List.length_append,hbl]
 refine WC.sub [(7,_),(8,_),(1,_)] ⟨rfl,rfl,rfl,trivial⟩ ?_
 dsimp only
 refine G3 ?_
 refine aH 3 4 (Hb.mk fun hb=>?_) (Hb.mk fun hb=>?_)
 all_goals try (
 refine aw 3 ?_
 refine WC.skip ?_
 skip)
 all_goals try (
 refine aw 4 ?_
 refine WC.exit ?_
 repeat' (with_reducible first | refine aU ?_ | refine aD rfl ?_ | refine aJ ?_ | refine aL ?_ | refine aS ?_)
 refine Br.out (i:=1000) ?_
 skip)
 all_goals (refine Gn ?_;first | refine Br.ab ?_ | refine WC.seq ?_)
 all_goals (first | refine Br.ab ?_ | refine WC.block ?_)
 all_goals (first | refine Br.ab ?_ | refine WC.region ?_)
 all_goals (refine Go ?_;first | refine Br.ab ?_ | (refine WL.step (El rfl rfl (by omega)) rfl rfl rfl ?_))
 all_goals (first | refine Br.ab ?_ | refine WL.step (mo Tryz.underlying3 Tryz.underlying5 rfl) rfl rfl rfl ?_)
 all_goals (
  first
    | (refine Br.ab ?_)
    | (refine WL.aj (au (vs:=[_]) (cs:=[_]) (fun | [a0]=>[a0] | _=>[]) Tryz.underlying23 rfl rfl (by kernel_rfl)) rfl rfl rfl ?_
       rintro _ h4 ⟨b4,rfl,oG,bC,aW⟩))
 all_goals (
  first
    | (refine Br.ab ?_)
    | (refine WL.aj (aT (sz:=1) (bytes:=1) rfl Tryz.underlying23 (show Tryz.prog.info? 5=some Tryz.t5 by kernel_rfl) rfl rfl rfl rfl (by decide) rfl rfl (dN.ext aW (fun _ _=>aO)) (bx bC rfl) (by simp [Value.oneCell']) (by simp only [maxLen];omega) (by omega)) rfl rfl rfl ?_
       rintro v5 h5 ⟨eF,aM,Bm⟩))
 all_goals (
  first
    | (refine Br.ab ?_)
    | (have hsb:n / 2 ^ sh.toNat=n / 256 ^ (s - 1 - k):=yf (by omega)
       rw [hsb,Dy rfl] at eF
       have hO:Own h5 v5 5 1 (l++kI n s (k+1)).length (bA (l++kI n s (k+1))):=by have e:l++kI n s (k+1)=(l++kI n s k)++[bI n (s - 1 - k)]:=(by simp [kI]);rw [e,bA,List.map_append,List.length_append];exact eF))
 all_goals (refine Go ?_;first | refine Br.ab ?_ | refine Gs [(1,_),(7,_),(8,_)] ?_)
 all_goals (first | refine Br.ab ?_ | refine WC.region ?_)
 all_goals (refine Go ?_;first | refine Br.ab ?_ | (exact ⟨(_,_,k+1),⟨rfl,rfl,rfl,trivial⟩,(by exact ⟨by dsimp only;omega,by dsimp only;omega,hO,(aQ.trans aW).trans' aM (fun q hq e=>by have:=gS q e;omega),bU Bm gS (by have:=aQ.size;have:=aW.size;omega)⟩),(by simp;omega)⟩))
 try (refine Br.mk (i:=1000) ?_)
 refine Gn ?_;refine Gs [(7,_)] ?_;refine G2 ?_;refine Gt ?_
 (obtain rfl:k=s:=by omega);exact ⟨dN,aQ,gS⟩
theorem yg {n:Int} {s i:Nat} (h:i < s):bI (n+256 ^ s) i=bI n i:=by
 have h1:(n+256 ^ s) / 256 ^ i=n / 256 ^ i+256 ^ (s - i):=by
   rw [show (256:Int) ^ s=256 ^ i * 256 ^ (s - i) by rw [← Int.pow_add,show i+(s - i)=s by omega]]
   rw [Int.add_mul_ediv_left _ _ (by have:(0:Int) < 256 ^ i:=Int.pow_pos (by decide);omega)]
 obtain ⟨j,hj⟩:∃ j,s - i=j+1:=⟨s - i - 1,by omega⟩
 have h2:(256:Int) ^ (s - i)=256 ^ j * 256:=by rw [hj,Int.pow_succ]
 unfold bI
 rw [h1,h2,Int.add_mul_emod_self_right]
theorem iS {m n:Int} {s:Nat} (h:∀ i,i < s→bI m i=bI n i) (hs:1≤s):∀ k,kI m s k=kI n s k
 | 0=>rfl
 | k+1=>by rw [kI,kI,iS h hs k,h _ (by omega)]
theorem GY {m p:Int} (h:0≤m∧m≤4294967296) (hp:1≤p):m.tdiv p=m / p∧0≤m / p∧m / p≤4294967296:=by
 refine ⟨Int.tdiv_eq_ediv_of_nonneg h.1,Int.ediv_nonneg h.1 (by omega),?_⟩
 have:=Int.ediv_le_self p h.1
 omega
theorem j6 {h:ah} {v:Value} (l:List UInt8) (n:Int) (s:Nat) (hs:Sz s) (hr:Rt n s) (hv:Rd h v 1 l.length (bA l)) (hl:l.length≤100000000000000) :
   ag Tryz.prog 62 ⟨[v,In n,In s]⟩ h fun u h'=>Own h' u 5 1 (l++be n s).length (bA (l++be n s))∧Ext No h h'∧∀ q,u.ownBlock=some q→h.size≤q:=by
 obtain ⟨A,c,rfl,hc⟩:=id hv
 have wz:s≤4:=by unfold Sz at hs;omega
 have fT:1≤s:=by unfold Sz at hs;omega
 have hq:=tA hs
 obtain ⟨r1,r2⟩:=id hr
 have kp:=fun h'=>Dz (h:=h') s (by omega)
 have kr:=fun h'=>BH (h:=h') n s hs hr (kp h') (BI s hs)
 obtain ⟨m,IV,Bn,hmb⟩:∃ m:Int,(if n < 0 then n+256 ^ s else n)=m∧(0≤m∧m≤4294967296)∧∀ i,i < s→bI m i=bI n i:=by
   refine ⟨_,rfl,?_,fun i hi=>?_⟩
   · generalize (256:Int) ^ s=q at r1 r2 hq
     split <;> rcases hq with rfl | rfl | rfl <;> omega
   · split
     · exact yg hi
     · rfl
 rw [show be n s=be m s from (iS hmb fT s).symm]
 generalize hqq:(256:Int) ^ s=q at r1 r2 kp hq IV
 refine calls [(0,_),(1,_),(2,_)] Tryz.func62 rfl Tryz.ntmps62 rfl ⟨rfl,rfl,rfl,trivial⟩ ?_
 refine G2 ?_;refine G2 ?_;refine WL.aj (aT (sz:=1) (bytes:=1) rfl Tryz.underlying23 (show Tryz.prog.info? 5=some Tryz.t5 by kernel_rfl) rfl rfl rfl rfl (by decide) rfl rfl (Own.nil _ _ _) hv (by intro c hc;obtain ⟨b,_,rfl⟩:=List.mem_map.1 hc;rfl) (by simp only [maxLen];omega) (by omega)) rfl rfl rfl ?_
 rintro v2 h2 ⟨dc,aI,kO⟩
 have eI:∀ q,v2.ownBlock=some q→h.size≤q:=bU kO (by simp [Value.ownBlock]) (Nat.le_refl _)
 have ia:Ext No h h2:=aI.mono (fun q hq e=>by simp [Value.ownBlock] at e)
 refine Go ?_;refine Gs [(1,_),(2,_),(7,_)] ?_;refine G3 ?_;refine WL.call (vs:=[_,_]) rfl Tryz.call105 rfl (kr _) rfl rfl rfl ?_
 rintro _ hz ⟨rfl,_⟩
 subst hz
 refine Go ?_
 refine aH 1 2 ?_ TT.mk
 all_goals (refine aw 2 ?_)
 refine WC.skip ?_;refine Gn ?_;refine Gs [(1,_),(2,_),(7,_)] ?_;refine G3 ?_
 refine aH 3 4 (Hb.mk fun hb=>?_) (Hb.mk fun hb=>?_)
 all_goals try (
 refine aw 3 ?_
 refine WC.region (Go ?_);refine WL.call (vs:=[_]) rfl Tryz.call106 rfl (kp _) rfl rfl rfl ?_
 rintro _ hz ⟨rfl,_⟩
 subst hz
 refine Go ?_
 skip)
 all_goals try (
 refine aw 4 ?_
 refine WC.skip ?_
 skip)
 all_goals (refine Gn ?_;refine WC.seq ?_;refine WC.sr ?_)
 all_goals (
  first | rw [if_pos (by assumption)] at IV | rw [if_neg (by assumption)] at IV
  rw [IV])
 all_goals (refine WL.step (ak rfl) rfl rfl rfl (Go ?_);refine Gs [(1,_),(7,_),(8,_)] ?_;refine WC.block ?_)
 all_goals (refine WC.bD (X:=Value × Int × Nat) (fun x=>([(7,x.1),(8,In x.2.1)]:Fr)) [(1,_)] (fun x h'=>x.2.2≤s∧x.2.1=(s:Int) - 1 - x.2.2∧Own h' x.1 5 1 (l++kI m s x.2.2).length (bA (l++kI m s x.2.2))∧Ext No h h'∧∀ q,x.1.ownBlock=some q→h.size≤q) (fun x=>s - x.2.2) ((v2,_,0)) ⟨rfl,rfl,rfl,trivial⟩ (by exact ⟨Nat.zero_le _,by simp,by simpa [kI] using dc,ia,eI⟩) ?_)
 all_goals (
  rintro ⟨w,sh,k⟩ h3 ⟨hk,hsh,dN,aQ,gS⟩
  dsimp only at hk hsh dN gS
  have hbl:=pG m s k
  have GX:(l++kI m s k).length=l.length+k:=by rw [List.length_append,hbl])
 all_goals (refine WC.sub [(7,_),(8,_),(1,_)] ⟨rfl,rfl,rfl,trivial⟩ ?_;dsimp only)
 all_goals (refine G3 ?_;refine aH 5 6 (Hb.mk fun hb=>?_) (Hb.mk fun hb=>?_))
 all_goals try (
 refine aw 5 ?_
 all_goals (refine WC.skip ?_)
 skip)
 all_goals try (
 refine aw 6 ?_
 all_goals (refine WC.exit ?_;repeat' (with_reducible first | refine aU ?_ | refine aD rfl ?_ | refine aJ ?_ | refine aL ?_ | refine aS ?_))
 all_goals (refine Br.out (i:=1000) ?_)
 skip)
 all_goals (refine Gn ?_;first | refine Br.ab ?_ | refine WC.seq ?_)
 all_goals (first | refine Br.ab ?_ | refine WC.block ?_)
 all_goals (first | refine Br.ab ?_ | refine WC.region ?_)
 all_goals (
  first
    | (refine Br.ab ?_)
    | (obtain ⟨j,rfl⟩:∃ j:Nat,sh=(j:Int):=⟨sh.toNat,by omega⟩
       have hpj:=pI (show j≤3 by omega)
       have htd:=GY Bn hpj.1))
 all_goals (first | refine Br.ab ?_ | refine WL.step (ak rfl) rfl rfl rfl ?_)
 all_goals (refine Go ?_)
 all_goals (
  first
    | (refine Br.ab ?_)
    | (refine WL.call (vs:=[_]) rfl Tryz.call106 rfl (Dz j (by omega)) rfl rfl rfl ?_
       rintro _ hz ⟨rfl,_⟩
       subst hz))
 all_goals (first | refine Br.ab ?_ | (refine WL.step (iR rfl rfl (by omega) (⟨by rw [htd.1];omega,by rw [htd.1];omega⟩)) rfl rfl rfl ?_))
 all_goals (first | refine Br.ab ?_ | (refine WL.step (xW rfl rfl (by decide)) rfl rfl rfl ?_))
 all_goals (first | refine Br.ab ?_ | refine WL.step (mo Tryz.underlying3 Tryz.underlying5 rfl) rfl rfl rfl ?_)
 all_goals (
  first
    | (refine Br.ab ?_)
    | (refine WL.aj (au (vs:=[_]) (cs:=[_]) (fun | [a0]=>[a0] | _=>[]) Tryz.underlying23 rfl rfl (by kernel_rfl)) rfl rfl rfl ?_
       rintro _ h4 ⟨b4,rfl,oG,bC,aW⟩))
 all_goals (
  first
    | (refine Br.ab ?_)
    | (refine WL.aj (aT (sz:=1) (bytes:=1) rfl Tryz.underlying23 (show Tryz.prog.info? 5=some Tryz.t5 by kernel_rfl) rfl rfl rfl rfl (by decide) rfl rfl (dN.ext aW (fun _ _=>aO)) (bx bC rfl) (by simp [Value.oneCell']) (by simp only [maxLen];omega) (by omega)) rfl rfl rfl ?_
       rintro v5 h5 ⟨eF,aM,Bm⟩))
 all_goals (
  first
    | (refine Br.ab ?_)
    | (have hsb:((m.tdiv (256 ^ j)).tmod 256) % 256=(m / 256 ^ (s - 1 - k)) % 256:=by rw [htd.1,Int.tmod_eq_emod_of_nonneg htd.2.1,Int.emod_emod,show j=s - 1 - k by omega]
       rw [Dy hsb] at eF
       have hO:Own h5 v5 5 1 (l++kI m s (k+1)).length (bA (l++kI m s (k+1))):=by have e:l++kI m s (k+1)=(l++kI m s k)++[bI m (s - 1 - k)]:=(by simp [kI]);rw [e,bA,List.map_append,List.length_append];exact eF))
 all_goals (refine Go ?_;first | refine Br.ab ?_ | refine Gs [(1,_),(7,_),(8,_)] ?_)
 all_goals (first | refine Br.ab ?_ | refine WC.region ?_)
 all_goals (refine Go ?_;first | refine Br.ab ?_ | (exact ⟨(_,_,k+1),⟨rfl,rfl,rfl,trivial⟩,(by exact ⟨by dsimp only;omega,by dsimp only;omega,hO,(aQ.trans aW).trans' aM (fun q hq e=>by have:=gS q e;omega),bU Bm gS (by have:=aQ.size;have:=aW.size;omega)⟩),(by simp;omega)⟩))
 all_goals (try (refine Br.mk (i:=1000) ?_))
 all_goals (refine Gn ?_;refine Gs [(7,_)] ?_;refine G2 ?_;refine Gt ?_;(obtain rfl:k=s:=by omega);exact ⟨dN,aQ,gS⟩)
end Go.Proofs.YtopgddfgefnmbaaGreatDoor
namespace Go.RK
open Go Go.MapKept Go.ChangeMaps
structure Mo {κ:Type} (enc:κ→Value) (h:ah) (r m:Nat) (es ds:List (κ × Value)) (arr:Array MapEntry) (clock since c0:Nat) (seen:Array Nat):Prop where
 it:h[r]?=some (.mapIter (some m) since seen c0)
 mp:h[m]?=some (.map arr clock)
 st:Stamped arr clock
 kv:arr.toList.map (fun e=>(e.key,e.val))=es.map fun p=>(enc p.1,p.2)
 old:∀ x∈arr.toList,x.born < since
 le:since≤c0
 Oq:since≤clock
 seen:∀ x∈arr.toList,(seen.contains x.born=true ↔ ∃ p∈ds,(x.key,x.val)=(enc p.1,p.2))
 sub:∀ p∈ds,p∈es
 nd:ds.Nodup
def It {κ:Type} (enc:κ→Value) (h:ah) (r m:Nat) (es ds:List (κ × Value)):Prop:=∃ arr clock since c0 seen,Mo enc h r m es ds arr clock since c0 seen
section
variable {P:Program} {f:Fr} {h h':ah} {d:Option Tmp} {ty:TypeId} {pos:String} {af:Array Edge} {g:Option (Nat × Bool)}
variable {κ:Type} {dsc:TypeDesc} {enc:κ→Value} {r m:Nat} {es ds:List (κ × Value)}
theorem It.map (i:It enc h r m es ds):Mp dsc enc h m es:=by
 obtain ⟨arr,clock,since,c0,seen,k⟩:=i
 exact ⟨arr,clock,k.mp,k.st,k.kv⟩
theorem It.sub (i:It enc h r m es ds):∀ p∈ds,p∈es:=by
 obtain ⟨arr,clock,since,c0,seen,k⟩:=i
 exact k.sub
theorem It.nd (i:It enc h r m es ds):ds.Nodup:=by
 obtain ⟨arr,clock,since,c0,seen,k⟩:=i
 exact k.nd
end
end Go.RK
namespace Go.Proofs.YtopgddfgefnmbaaGreatDoor
open Go Go.RK
theorem Ep {a b:List UInt8} (h1:¬ a < b) (h2:¬ b < a):a=b:=List.le_antisymm (List.not_lt.1 h2) (List.not_lt.1 h1)
section
variable {α β:Type}
def wA (L:List (List UInt8 × α)):Prop:=L.Pairwise fun a b=>a.1 < b.1
def tB:List (List UInt8 × α)→List UInt8→α→List (List UInt8 × α)
 | [],n,v=>[(n,v)]
 | (m,w) :: L,n,v=>if m < n then (m,w) :: tB L n v else if m=n then (n,v) :: L else (n,v) :: (m,w) :: L
theorem wA.nd {L:List (List UInt8 × α)} (h:wA L):(L.map (·.1)).Nodup:=by
 refine List.pairwise_map.2 (h.imp fun {a b} hab e=>?_)
 rw [e] at hab
 exact List.lt_irrefl _ hab
theorem yh {L:List (List UInt8 × α)} {n:List UInt8} {v:α} {p:List UInt8 × α} (h:p∈tB L n v):p=(n,v)∨p∈L:=by
 induction L with
 | nil=>simpa [tB] using h
 | cons a L ih =>
   obtain ⟨m,w⟩:=a
   unfold tB at h
   split at h
   · rcases List.mem_cons.1 h with rfl | h
     · exact .inr List.mem_cons_self
     · exact (ih h).imp id (List.mem_cons_of_mem _)
   · split at h
     · rcases List.mem_cons.1 h with rfl | h
       · exact .inl rfl
       · exact .inr (List.mem_cons_of_mem _ h)
     · rcases List.mem_cons.1 h with rfl | h
       · exact .inl rfl
       · exact .inr h
theorem wA.set {L:List (List UInt8 × α)} (h:wA L) (n:List UInt8) (v:α):wA (tB L n v):=by
 induction L with
 | nil=>simp [tB,wA]
 | cons a L ih =>
   obtain ⟨m,w⟩:=a
   obtain ⟨h1,h2⟩:=List.pairwise_cons.1 h
   unfold tB
   split
   · rename_i hlt
     refine List.pairwise_cons.2 ⟨fun p hp=>?_,ih h2⟩
     rcases yh hp with rfl | hp
     · exact hlt
     · exact h1 p hp
   · rename_i hlt
     split
     · rename_i he
       subst he
       exact List.pairwise_cons.2 ⟨h1,h2⟩
     · rename_i hne
       have hnm:n < m:=by
         rcases Decidable.em (n < m) with h | h
         · exact h
         · exact absurd (Ep hlt h) hne
       refine List.pairwise_cons.2 ⟨fun p hp=>?_,h⟩
       rcases List.mem_cons.1 hp with rfl | hp
       · exact hnm
       · exact List.lt_trans hnm (h1 p hp)
end
section
variable {α:Type} {F:α→List Value} {sz:Nat} (hF:∀ a,(F a).length=sz)
include hF
end
theorem Ju {k:Int} (h0:0≤k) (h1:k≤255):By (UInt8.ofNat k.toNat)=.int .u8 k:=by
 show Value.int .u8 ((UInt8.ofNat k.toNat).toNat:Int)=.int .u8 k
 rw [UInt8.toNat_ofNat']
 congr 1
 omega
theorem GZ {n:Int} (h:0≤n∧n≤4294967295):Rt n 4:=by
 unfold Rt
 rw [show (256:Int) ^ 4=4294967296 from rfl]
 omega
def iv (k:Int) (l:List UInt8):List UInt8:=[UInt8.ofNat k.toNat]++be (4+(l.length:Int)) 4++l
theorem mr (l m:List UInt8):bA (l++m)=bA l++bA m:=List.map_append ..
theorem pJ {k:Int} (hk:0≤k∧k≤255):bA [UInt8.ofNat k.toNat]=[.int .u8 k]:=congrArg (fun z=>[z]) (Ju hk.1 hk.2)
theorem IW {h:ah} {v:Value} (k:Int) (hk:0 < k∧k≤255) (l:List UInt8) (hv:Rd h v 1 l.length (bA l)) (hl:l.length≤1000000000) :
   ag Tryz.prog 115 ⟨[.agg ⟨[.int .u8 k,v]⟩]⟩ h fun u h'=>Own h' u 5 1 (iv k l).length (bA (iv k l))∧Ext No h h':=by
 obtain ⟨A,c,rfl,_⟩:=id hv
 refine calls [(0,_)] Tryz.func115 rfl Tryz.ntmps115 rfl ⟨rfl,trivial⟩ ?_
 refine WC.sr ?_;refine WL.aj (aG rfl) rfl rfl rfl ?_
 rintro _ h1 ⟨b1,rfl,bR,aR,az⟩
 refine Go ?_;refine G2 ?_;refine G3 ?_;refine Ld ?_;refine Go ?_;refine Gs [(1,_),(3,_),(6,_)] ?_
 refine aH 1 2 ?_ TT.mk
 all_goals (refine aw 1 ?_)
 refine WC.region (Go ?_);refine Ld ?_;refine WL.aj (au (vs:=[_]) (cs:=[_]) (fun | [a0]=>[a0] | _=>[]) Tryz.underlying23 rfl rfl (by kernel_rfl)) rfl rfl rfl ?_
 rintro _ h2 ⟨b2,rfl,gg,bH,aI⟩
 have bT:=aI.obj aR aO
 have ia:=az.trans aI
 have qO:Rd h2 (.slice (some ⟨b2,0,none⟩) 1 1) 1 ([UInt8.ofNat k.toNat]:List UInt8).length (bA [UInt8.ofNat k.toNat]):=by rw [pJ (by omega)];exact bx bH rfl
 refine Go ?_;refine Gn ?_;refine WC.seq ?_;refine WC.bW (fun h'=>Ext No h2 h') 9 10 rfl dm ?_
 refine WH.tk 0 rfl (fun hq hC=>ak rfl) rfl rfl rfl ?_
 refine WH.tk 1 rfl (fun hq hC=>ad rfl Tryz.underlying53 rfl Tryz.sizeOf23) rfl rfl rfl ?_
 refine WH.tk 2 rfl (fun hq hC=>aA Tryz.isAgg23 rfl (by first | exact hC.cell (by first | exact aa bT rfl | assumption) aO)) rfl rfl rfl ?_
 refine WH.tk 3 rfl (fun hq hC=>cq rfl Tryz.underlying23 rfl) rfl rfl rfl ?_
 refine WH.tk 4 rfl (fun hq hC=>eX rfl rfl (by omega)) rfl rfl rfl ?_
 refine WH.tk 6 rfl (fun hq hC=>ad rfl Tryz.underlying53 rfl Tryz.sizeOf23) rfl rfl rfl ?_
 refine WH.tk 7 rfl (fun hq hC=>aA Tryz.isAgg23 rfl (by first | exact hC.cell (by first | exact aa bT rfl | assumption) aO)) rfl rfl rfl ?_
 refine WH.one 5 (by kernel_rfl) ?_
 refine aC.call (vs:=[_,_,_]) rfl rfl Tryz.call164 rfl (DA [UInt8.ofNat k.toNat] (4+(l.length:Int)) 4 (.inr (.inr rfl)) (GZ ⟨by omega,by omega⟩) qO (by simp)) rfl rfl rfl ?_ (fun _=>by kernel_rfl)
 rintro v5 h5 ⟨eF,aM,fO⟩
 refine ⟨fun _=>aM,?_⟩
 have hbl:([UInt8.ofNat k.toNat]++be (4+(l.length:Int)) 4).length=5:=by simp [bn]
 refine WH.one 8 (by kernel_rfl) ?_
 refine aC.run rfl (aT (sz:=1) (bytes:=1) rfl Tryz.underlying23 (show Tryz.prog.info? 5=some Tryz.t5 by kernel_rfl) rfl rfl rfl rfl (by decide) rfl rfl eF (hv.aq (ia.trans aM)) (by intro c hc;obtain ⟨b,_,rfl⟩:=List.mem_map.1 hc;rfl) (by simp only [maxLen];omega) (by omega)) rfl rfl rfl ?_ (fun _=>by kernel_rfl)
 rintro v8 h8 ⟨jK,bz,tC⟩
 refine ⟨fun _=>aM.trans' bz (fun q hq e=>by have:=fO q e;omega),?_⟩
 have lO:=aM.trans' bz (fun q hq e=>by have:=fO q e;omega)
 refine WH.one 9 (by kernel_rfl) ?_
 refine aC.run rfl (bN.r (aP rfl)) rfl rfl rfl ?_ (fun _=>by kernel_rfl)
 rintro _ hz ⟨rfl,_⟩
 subst hz
 refine ⟨fun _=>lO,?_⟩
 refine WH.done (by kernel_rfl) ?_
 refine Gn ?_;refine Gs [(2,_)] ?_;refine Gt ?_
 exact ⟨by unfold iv;rw [List.length_append (bs:=l),mr _ l];exact jK,ia.trans lO⟩
theorem BJ {h:ah} {v:Value} (k:Int) (hk:0 < k∧k≤255) (l:List UInt8) (hv:Rd h v 1 l.length (bA l)) (hl:l.length≤1000000000) :
   ag Tryz.prog 30 ⟨[.agg ⟨[.int .u8 k,v]⟩]⟩ h fun u h'=>Own h' u 5 1 (iv k l).length (bA (iv k l))∧Ext No h h':=by
 obtain ⟨A,c,rfl,_⟩:=id hv
 refine calls [(0,_)] Tryz.func30 rfl Tryz.ntmps30 rfl ⟨rfl,trivial⟩ ?_
 refine WC.sr ?_;refine WL.aj (aG rfl) rfl rfl rfl ?_
 rintro _ h1 ⟨b1,rfl,bR,aR,az⟩
 refine Go ?_;refine G2 ?_;refine G3 ?_;refine Ld ?_;refine Go ?_;refine Gs [(1,_),(3,_),(6,_)] ?_
 refine aH 1 2 ?_ TT.mk
 all_goals (refine aw 1 ?_)
 refine WC.region (Go ?_);refine Ld ?_;refine WL.aj (au (vs:=[_]) (cs:=[_]) (fun | [a0]=>[a0] | _=>[]) Tryz.underlying23 rfl rfl (by kernel_rfl)) rfl rfl rfl ?_
 rintro _ h2 ⟨b2,rfl,gg,bH,aI⟩
 refine WL.aj (aT (sz:=1) (bytes:=1) rfl Tryz.underlying23 (show Tryz.prog.info? 5=some Tryz.t5 by kernel_rfl) rfl rfl rfl rfl (by decide) rfl rfl (Own.nil _ 5 1) (bx (len:=1) (sz:=1) (cs:=[.int .u8 k]) bH rfl) (by simp [Value.oneCell']) (by simp only [maxLen];omega) (by omega)) rfl rfl rfl ?_
 rintro v3 h3 ⟨dN,aQ,wB⟩
 have ma:Ext No h h3:=(az.trans aI).trans (aQ.mono fun _ _ e=>by simp [Value.ownBlock] at e)
 have cw:=(aI.trans (aQ.mono fun _ _ e=>by simp [Value.ownBlock] at e)).obj aR aO
 have Mq:Rd h3 v3 1 ([UInt8.ofNat k.toNat]:List UInt8).length (bA [UInt8.ofNat k.toNat]):=by
  rw [pJ ⟨Int.le_of_lt hk.1,hk.2⟩]
  exact dN.rd
 clear dN wB
 refine Go ?_;refine Gn ?_;refine WC.seq ?_;refine WC.bW (fun h'=>Ext No h3 h') 9 10 rfl dm ?_
 refine WH.tk 0 rfl (fun hq hC=>ak rfl) rfl rfl rfl ?_
 refine WH.tk 1 rfl (fun hq hC=>ad rfl Tryz.underlying53 rfl Tryz.sizeOf23) rfl rfl rfl ?_
 refine WH.tk 2 rfl (fun hq hC=>aA Tryz.isAgg23 rfl (by first | exact hC.cell (by first | exact aa cw rfl | assumption) aO)) rfl rfl rfl ?_
 refine WH.tk 3 rfl (fun hq hC=>cq rfl Tryz.underlying23 rfl) rfl rfl rfl ?_
 refine WH.tk 4 rfl (fun hq hC=>eX rfl rfl (by omega)) rfl rfl rfl ?_
 refine WH.tk 6 rfl (fun hq hC=>ad rfl Tryz.underlying53 rfl Tryz.sizeOf23) rfl rfl rfl ?_
 refine WH.tk 7 rfl (fun hq hC=>aA Tryz.isAgg23 rfl (by first | exact hC.cell (by first | exact aa cw rfl | assumption) aO)) rfl rfl rfl ?_
 refine WH.one 5 (by kernel_rfl) ?_
 refine aC.call (vs:=[_,_,_]) rfl rfl Tryz.call62 rfl (j6 [UInt8.ofNat k.toNat] ((l.length:Int)+4) 4 (.inr (.inr rfl)) (GZ ⟨by omega,by omega⟩) Mq (by simp)) rfl rfl rfl ?_ (fun _=>by kernel_rfl)
 rintro v5 h5 ⟨eF,aM,fO⟩
 rw [Int.add_comm] at eF
 refine ⟨fun _=>aM,?_⟩
 have hbl:([UInt8.ofNat k.toNat]++be (4+(l.length:Int)) 4).length=5:=by simp [bn]
 refine WH.one 8 (by kernel_rfl) ?_
 refine aC.run rfl (aT (sz:=1) (bytes:=1) rfl Tryz.underlying23 (show Tryz.prog.info? 5=some Tryz.t5 by kernel_rfl) rfl rfl rfl rfl (by decide) rfl rfl eF (hv.aq (ma.trans aM)) (by intro c hc;obtain ⟨b,_,rfl⟩:=List.mem_map.1 hc;rfl) (by simp only [maxLen];omega) (by omega)) rfl rfl rfl ?_ (fun _=>by kernel_rfl)
 rintro v8 h8 ⟨jK,bz,tC⟩
 refine ⟨fun _=>aM.trans' bz (fun q hq e=>by have:=fO q e;omega),?_⟩
 have lO:=aM.trans' bz (fun q hq e=>by have:=fO q e;omega)
 refine WH.one 9 (by kernel_rfl) ?_
 refine aC.run rfl (bN.r (aP rfl)) rfl rfl rfl ?_ (fun _=>by kernel_rfl)
 rintro _ hz ⟨rfl,_⟩
 subst hz
 refine ⟨fun _=>lO,?_⟩
 refine WH.done (by kernel_rfl) ?_
 refine Gn ?_;refine Gs [(2,_)] ?_;refine Gt ?_
 exact ⟨by unfold iv;rw [List.length_append (bs:=l),mr _ l];exact jK,ma.trans lO⟩
end Go.Proofs.YtopgddfgefnmbaaGreatDoor
namespace Go.Proofs
open Go.Shelf
def Tryz.lP : Go.Shelf.Ren := ⟨fun | 156 => 273 | 165 => 301 | 166 => 302 | 169 => 278 | 240 => 303 | 241 => 313 | 276 => 314 | 277 => 321 | n => n, fun | 31 => 249 | 9 => 9 | 3 => 3 | 4 => 4 | 0 => 0 | 20 => 20 | 72 => 344 | 76 => 363 | 70 => 342 | 37 => 23 | 75 => 165 | 127 => 365 | 164 => 215 | 5 => 5 | 80 => 200 | n => n, fun | n => n⟩
theorem Tryz.BK : Go.Proofs.Lays.n156 Tryz.prog Tryz.lP := {
  mixed := by kernel_rfl
  f156 := Tryz.func273.trans (congrArg some (by kernel_rfl))
  f165 := Tryz.func301.trans (congrArg some (by kernel_rfl))
  f166 := Tryz.func302.trans (congrArg some (by kernel_rfl))
  f169 := Tryz.func278.trans (congrArg some (by kernel_rfl))
  f240 := Tryz.func303.trans (congrArg some (by kernel_rfl))
  f241 := Tryz.func313.trans (congrArg some (by kernel_rfl))
  f276 := Tryz.func314.trans (congrArg some (by kernel_rfl))
  f277 := Tryz.func321.trans (congrArg some (by kernel_rfl))
  t0 := Tryz.underlying0
  a0 := Tryz.isAgg0
  z0 := Tryz.sizeOf0
  v0 := Tryz.zeroValue0
  t3 := Tryz.underlying3
  a3 := Tryz.isAgg3
  z3 := Tryz.sizeOf3
  v3 := Tryz.zeroValue3
  t4 := Tryz.underlying4
  a4 := Tryz.isAgg4
  z4 := Tryz.sizeOf4
  v4 := Tryz.zeroValue4
  t9 := Tryz.underlying9
  a9 := Tryz.isAgg9
  z9 := Tryz.sizeOf9
  v9 := Tryz.zeroValue9
  t20 := Tryz.underlying20
  a20 := Tryz.isAgg20
  z20 := Tryz.sizeOf20
  v20 := Tryz.zeroValue20
  t31 := Tryz.underlying249
  a31 := Tryz.isAgg249
  z31 := Tryz.sizeOf249
  v31 := Tryz.zeroValue249
  t37 := Tryz.underlying23
  a37 := Tryz.isAgg23
  z37 := Tryz.sizeOf23
  v37 := Tryz.zeroValue23
  t70 := Tryz.underlying342
  a70 := Tryz.isAgg342
  z70 := Tryz.sizeOf342
  v70 := Tryz.zeroValue342
  t72 := Tryz.underlying344
  a72 := Tryz.isAgg344
  z72 := Tryz.sizeOf344
  v72 := Tryz.zeroValue344
  t75 := Tryz.underlying165
  a75 := Tryz.isAgg165
  z75 := Tryz.sizeOf165
  v75 := Tryz.zeroValue165
  t76 := Tryz.underlying363
  a76 := Tryz.isAgg363
  z76 := Tryz.sizeOf363
  v76 := Tryz.zeroValue363
  t127 := Tryz.underlying365
  a127 := Tryz.isAgg365
  z127 := Tryz.sizeOf365
  v127 := Tryz.zeroValue365
  t164 := Tryz.underlying215
  a164 := Tryz.isAgg215
  z164 := Tryz.sizeOf215
  v164 := Tryz.zeroValue215 }
theorem Tryz.j7 : Builder.Extra Tryz.prog Tryz.lP := {
  sizeBuilder := by kernel_rfl
  liesBuilder := by kernel_rfl
  t5 := Tryz.underlying5
  a5 := Tryz.isAgg5
  z5 := Tryz.sizeOf5
  v5 := Tryz.zeroValue5
  infoByte := by kernel_rfl
  cellsByte := by kernel_rfl
  sizeByte := by kernel_rfl
  neB5 := by decide }
open Go.RowKit in
theorem Tryz.strings_Join (bk o c : Nat) (xs : List ByteArray) (sep : ByteArray) (w : World) (hcells : ∀ (j : Nat) x, xs[j]? = some x → w.cell? ⟨bk, o + j, none⟩ = some (.string x)) (hbk : bk < w.heap.size) (hN : xs.length ≤ 140737488355328) (hcap : xs.length ≤ c) (hlen : (Lib.join (xs.map (·.data.toList)) sep.data.toList).length ≤ 140737488355328) :
    Calls Tryz.prog 273 #[.slice (some ⟨bk, o, none⟩) xs.length c, .string sep] w fun e w' => e = .returned (.string ⟨(Lib.join (xs.map (·.data.toList)) sep.data.toList).toArray⟩) ∧ Below w.heap.size w w' := Any.strings_Join Tryz.BK Tryz.j7 bk o c xs sep w hcells hbk hN hcap hlen
def Tryz.rm : Go.Shelf.Ren := ⟨fun | 137 => 231 | 217 => 268 | 266 => 299 | n => n, fun | 9 => 9 | 5 => 5 | 3 => 3 | n => n, fun | n => n⟩
theorem Tryz.BL : Go.Proofs.Lays.n137 Tryz.prog Tryz.rm := {
  mixed := by kernel_rfl
  f137 := Tryz.func231.trans (congrArg some (by kernel_rfl))
  f217 := Tryz.func268.trans (congrArg some (by kernel_rfl))
  f266 := Tryz.func299.trans (congrArg some (by kernel_rfl))
  t3 := Tryz.underlying3
  a3 := Tryz.isAgg3
  z3 := Tryz.sizeOf3
  v3 := Tryz.zeroValue3
  t5 := Tryz.underlying5
  a5 := Tryz.isAgg5
  z5 := Tryz.sizeOf5
  v5 := Tryz.zeroValue5
  t9 := Tryz.underlying9
  a9 := Tryz.isAgg9
  z9 := Tryz.sizeOf9
  v9 := Tryz.zeroValue9 }
open Go.RowKit in
theorem Tryz.strings_IndexByte (s : ByteArray) (c : Int) (w : World) :
    Calls Tryz.prog 231 #[.string s, .int .u8 c] w fun e w' => e = .returned (.int .i64 (Lib.indexByte s.data.toList c.toNat.toUInt8)) ∧ w' = w := Any.strings_IndexByte Tryz.BL s c w
def Tryz.rn : Go.Shelf.Ren := ⟨fun | 217 => 268 | 266 => 299 | n => n, fun | 9 => 9 | 5 => 5 | 3 => 3 | n => n, fun | n => n⟩
theorem Tryz.BN : Go.Proofs.Lays.n217 Tryz.prog Tryz.rn := {
  mixed := by kernel_rfl
  f217 := Tryz.func268.trans (congrArg some (by kernel_rfl))
  f266 := Tryz.func299.trans (congrArg some (by kernel_rfl))
  t3 := Tryz.underlying3
  a3 := Tryz.isAgg3
  z3 := Tryz.sizeOf3
  v3 := Tryz.zeroValue3
  t5 := Tryz.underlying5
  a5 := Tryz.isAgg5
  z5 := Tryz.sizeOf5
  v5 := Tryz.zeroValue5
  t9 := Tryz.underlying9
  a9 := Tryz.isAgg9
  z9 := Tryz.sizeOf9
  v9 := Tryz.zeroValue9 }
open Go.RowKit Go.Lib in
theorem Tryz.stringslite_IndexByte (s : ByteArray) (c : Int) (w : World) :
    Calls Tryz.prog 268 #[.string s, .int .u8 c] w fun e w' => e = .returned (.int .i64 (Lib.indexByte s.data.toList c.toNat.toUInt8)) ∧ w' = w := Any.stringslite_IndexByte Tryz.BN s c w
def Tryz.rp : Go.Shelf.Ren := ⟨fun | 187 => 126 | 255 => 177 | n => n, fun | 37 => 23 | 5 => 5 | 3 => 3 | n => n, fun | n => n⟩
theorem Tryz.BO : Go.Proofs.Lays.n187 Tryz.prog Tryz.rp := {
  mixed := by kernel_rfl
  f187 := Tryz.func126.trans (congrArg some (by kernel_rfl))
  f255 := Tryz.func177.trans (congrArg some (by kernel_rfl))
  t3 := Tryz.underlying3
  a3 := Tryz.isAgg3
  z3 := Tryz.sizeOf3
  v3 := Tryz.zeroValue3
  t5 := Tryz.underlying5
  a5 := Tryz.isAgg5
  z5 := Tryz.sizeOf5
  v5 := Tryz.zeroValue5
  t37 := Tryz.underlying23
  a37 := Tryz.isAgg23
  z37 := Tryz.sizeOf23
  v37 := Tryz.zeroValue23 }
theorem Tryz.bytes_IndexByte (b o n c : Nat) (xs : List Int) (cv : Int) (w : World) (hx : xs.length = n) (hc : ∀ i, i < n → w.cell? ⟨b, o + i, none⟩ = some (.int .u8 (xs.getD i 0))) :
    Calls Tryz.prog 126 #[.slice (some ⟨b, o, none⟩) n c, .int .u8 cv] w fun e w' => e = .returned (.int .i64 (Lib.indexByte (Lib.bytesOf xs) cv.toNat.toUInt8)) ∧ w' = w := Any.bytes_IndexByte Tryz.BO b o n c xs cv w hx hc
end Go.Proofs
namespace Go.Proofs.YtopgddfgefnmbaaGreatDoor
open Go Go.RK
abbrev ints (l:List Int):List Value:=l.map In
def idxOf:List Int→Int→Int
 | [],_ => -1
 | a :: l,x=>if a=x then 0 else if idxOf l x < 0 then -1 else idxOf l x+1
theorem iC (l:List Int) (x:Int):(idxOf l x = -1∧x ∉ l)∨∃ k:Nat,idxOf l x=k∧l[k]?=some x∧x ∉ l.take k:=by
 induction l with
 | nil=>exact .inl ⟨rfl,by simp⟩
 | cons a l ih =>
   unfold idxOf
   by_cases h:a=x
   · exact .inr ⟨0,by simp [h],by simp [h],by simp⟩
   · rw [if_neg h]
     rcases ih with ⟨h1,h2⟩ | ⟨k,h1,h2,h3⟩
     · exact .inl ⟨by rw [h1];rfl,by simp [h2,Ne.symm h]⟩
     · exact .inr ⟨k+1,by rw [h1,if_neg (by omega)];omega,by simpa using h2,by simp [h3,Ne.symm h]⟩
theorem rq {l:List Int} {x:Int} {k:Nat} (h1:l[k]?=some x) (h2:x ∉ l.take k):idxOf l x=k:=by
 rcases iC l x with ⟨_,h⟩ | ⟨j,h,h3,h4⟩
 · exact absurd (List.mem_of_getElem? h1) h
 · rw [h]
   rcases Nat.lt_trichotomy j k with e | e | e
   · exact absurd (List.mem_of_getElem? (show (l.take k)[j]?=some x by rw [List.getElem?_take,if_pos e];exact h3)) h2
   · rw [e]
   · exact absurd (List.mem_of_getElem? (show (l.take j)[k]?=some x by rw [List.getElem?_take,if_pos e];exact h1)) h4
theorem rr {l:List Int} {x:Int} (h:x ∉ l):idxOf l x = -1:=by
 rcases iC l x with ⟨e,_⟩ | ⟨j,_,h3,_⟩
 · exact e
 · exact absurd (List.mem_of_getElem? h3) h
theorem n7 {l:List Int} {x y:Int} {k:Nat} (h:x ∉ l.take k) (hk:l[k]?=some y) (hne:¬ x=y):x ∉ l.take (k+1):=by
 rw [List.take_add_one,hk]
 simp [h,hne]
theorem gT {l:List Int} {k:Nat} {y:Int} (hk:l[k]?=some y):(ints l)[k]?=some (In y):=by simp [hk]
theorem wC {h:ah} {A:Option Addr} {c:Nat} (l:List Int) (x:Int) (hr:Rd h (.slice A l.length c) 1 l.length (ints l)) (hm:l.length≤maxLen) :
   ag Tryz.prog 310 ⟨[.slice A l.length c,In x]⟩ h fun u h'=>u=In (idxOf l x)∧h'=h:=by
 unfold maxLen at hm
 refine calls [(0,_),(1,_)] Tryz.func310 rfl Tryz.ntmps310 rfl ⟨rfl,rfl,trivial⟩ ?_
 refine G2 ?_;refine G3 ?_;refine WC.block ?_;refine WC.bD (X:=Nat) (fun x=>([(8,In (x:Int))]:Fr)) [(0,_),(1,_),(7,_)] (fun k h'=>h'=h∧k≤l.length∧x ∉ l.take k) (fun k=>l.length - k) (0) ⟨rfl,rfl,rfl,rfl,trivial⟩ (by exact ⟨rfl,Nat.zero_le _,by simp⟩) ?_
 rintro k _ ⟨rfl,hk,hn⟩
 refine WC.sub [(8,_),(0,_),(1,_),(7,_)] ⟨rfl,rfl,rfl,rfl,trivial⟩ ?_;refine G2 ?_;refine WC.seq ?_
 refine aH 1 2 (Hb.mk fun hb=>?_) (Hb.mk fun hb=>?_)
 all_goals try (
 refine aw 1 ?_
 refine WC.skip ?_
 skip)
 all_goals try (
 refine aw 2 ?_
 refine WC.exit ?_
 repeat' (with_reducible first | refine aU ?_ | refine aD rfl ?_ | refine aJ ?_ | refine aL ?_ | refine aS ?_)
 refine Br.out (i:=1000) ?_
 skip)
 all_goals (refine Gn ?_;first | refine Br.ab ?_ | refine WC.seq ?_)
 all_goals (first | refine Br.ab ?_ | refine WC.block ?_)
 all_goals (first | refine Br.ab ?_ | refine WC.sr ?_)
 all_goals (refine Go ?_;first | refine Br.ab ?_ | refine WC.sr ?_)
 all_goals (refine Go ?_)
 all_goals (
  first
    | (refine Br.ab ?_)
    | (obtain ⟨b,o,hA,hbL,hat⟩:=Rd.at_ hr (by omega)
       obtain ⟨y,hy⟩:∃ y,l[k]?=some y:=⟨_,List.getElem?_eq_getElem (by omega)⟩
       have hc:=hat.get (p:=o+k * 1) k (gT hy) (by omega)))
 all_goals (first | refine Br.ab ?_ | (refine WL.step (aE Tryz.underlying39 Tryz.sizeOf3 rfl rfl rfl (by omega) (by first | rfl | assumption)) rfl rfl rfl ?_))
 all_goals (first | refine Br.ab ?_ | refine Ld ?_)
 all_goals (refine Go ?_;first | refine Br.ab ?_ | refine Gs [(0,_),(1,_),(5,_),(7,_),(8,_),(16,_)] ?_)
 all_goals (first | refine Br.ab ?_ | (refine aH 3 4 (Hb.mk fun hb=>?_) (Hb.mk fun hb=>?_)))
 all_goals try (
 refine aw 3 ?_
 refine G2 ?_;refine Gs [(4,_)] ?_;refine Gt ?_
 first | exact ⟨by rw [rr (by rw [List.take_of_length_le (by omega)] at hn;exact hn)],rfl⟩ | exact ⟨by rw [rq (k:=k) (by rw [hy,hb]) hn],rfl⟩
 skip)
 all_goals try (
 refine aw 4 ?_
 refine WC.skip ?_
 skip)
 all_goals (refine Gn ?_;first | refine Br.ab ?_ | refine WC.region ?_)
 all_goals (refine Go ?_;first | refine Br.ab ?_ | (exact ⟨k+1,⟨rfl,rfl,rfl,rfl,trivial⟩,(by exact ⟨rfl,by omega,n7 hn hy (by assumption)⟩),(by omega)⟩))
 try (refine Br.mk (i:=1000) ?_)
 refine Gn ?_;refine Gs [] ?_;refine G2 ?_;refine Gt ?_
 first | exact ⟨by rw [rr (by rw [List.take_of_length_le (by omega)] at hn;exact hn)],rfl⟩ | exact ⟨by rw [rq (k:=k) (by rw [hy,hb]) hn],rfl⟩
theorem iT {h:ah} {A B:Option Addr} {c d:Nat} (l m:List Int) (hr:Rd h (.slice A l.length c) 1 l.length (ints l)) (hs:Rd h (.slice B m.length d) 1 m.length (ints m)) (hm:l.length≤maxLen) :
   ag Tryz.prog 188 ⟨[.slice A l.length c,.slice B m.length d]⟩ h fun u h'=>u=.bool (decide (l=m))∧h'=h:=by
 unfold maxLen at hm
 refine calls [(0,_),(1,_)] Tryz.func188 rfl Tryz.ntmps188 rfl ⟨rfl,rfl,trivial⟩ ?_
 refine G2 ?_;refine G3 ?_;refine Gs [(0,_),(1,_),(10,_)] ?_
 refine aH 1 2 (Hb.mk fun hb=>?_) (Hb.mk fun hb=>?_)
 all_goals try (
 refine aw 1 ?_
 refine G2 ?_;refine Gt ?_
 first | exact ⟨by rw [decide_eq_false (fun e=>by subst e;omega)],rfl⟩ | exact ⟨by rw [decide_eq_false (fun e=>by subst e;rw [hy] at hz;injection hz with hz;omega)],rfl⟩ | exact ⟨by rw [decide_eq_true (by rw [List.take_of_length_le (by omega),List.take_of_length_le (by omega)] at hn;exact hn)],rfl⟩
 skip)
 all_goals (refine aw 2 ?_)
 refine WC.skip ?_;refine Gn ?_;refine G3 ?_;refine WC.block ?_;refine WC.bD (X:=Nat) (fun x=>([(13,In (x:Int))]:Fr)) [(0,_),(1,_),(12,_)] (fun k h'=>h'=h∧k≤l.length∧l.take k=m.take k) (fun k=>l.length - k) (0) ⟨rfl,rfl,rfl,rfl,trivial⟩ (by exact ⟨rfl,Nat.zero_le _,by simp⟩) ?_
 rintro k _ ⟨rfl,hk,hn⟩
 refine WC.sub [(13,_),(0,_),(1,_),(12,_)] ⟨rfl,rfl,rfl,rfl,trivial⟩ ?_;refine G2 ?_;refine WC.seq ?_
 refine aH 3 4 (Hb.mk fun hb=>?_) (Hb.mk fun hb=>?_)
 all_goals try (
 refine aw 3 ?_
 refine WC.skip ?_
 skip)
 all_goals try (
 refine aw 4 ?_
 refine WC.exit ?_
 repeat' (with_reducible first | refine aU ?_ | refine aD rfl ?_ | refine aJ ?_ | refine aL ?_ | refine aS ?_)
 refine Br.out (i:=1000) ?_
 skip)
 all_goals (refine Gn ?_;first | refine Br.ab ?_ | refine WC.seq ?_)
 all_goals (first | refine Br.ab ?_ | refine WC.block ?_)
 all_goals (first | refine Br.ab ?_ | refine WC.sr ?_)
 all_goals (refine Go ?_;first | refine Br.ab ?_ | refine WC.seq ?_)
 all_goals (
  first
    | (refine Br.ab ?_)
    | (obtain ⟨b,o,hA,hbL,hat⟩:=Rd.at_ hr (by omega)
       obtain ⟨b2,o2,hB,bH,yi⟩:=Rd.at_ hs (by omega)
       obtain ⟨y,hy⟩:∃ y,l[k]?=some y:=⟨_,List.getElem?_eq_getElem (by omega)⟩
       obtain ⟨z,hz⟩:∃ z,m[k]?=some z:=⟨_,List.getElem?_eq_getElem (by omega)⟩
       have hc:=hat.get (p:=o+k * 1) k (gT hy) (by omega)
       have kJ:=yi.get (p:=o2+k * 1) k (gT hz) (by omega)))
 all_goals (first | refine Br.ab ?_ | (refine WC.fU dm (by kernel_rfl) ?_))
 all_goals (first | refine Br.ab ?_ | refine WQ.aK (ak rfl) rfl rfl rfl ?_)
 all_goals (first | refine Br.ab ?_ | refine WQ.aK (ak rfl) rfl rfl rfl ?_)
 all_goals (first | refine Br.ab ?_ | (refine WQ.aK (aE Tryz.underlying39 Tryz.sizeOf3 rfl rfl rfl (by omega) (by first | rfl | assumption)) rfl rfl rfl ?_))
 all_goals (first | refine Br.ab ?_ | (refine WQ.aK (aA Tryz.isAgg3 rfl (by first | assumption | exact aa (by assumption) rfl)) rfl rfl rfl ?_))
 all_goals (first | refine Br.ab ?_ | refine WQ.aK (ak rfl) rfl rfl rfl ?_)
 all_goals (first | refine Br.ab ?_ | refine WQ.aK (ak rfl) rfl rfl rfl ?_)
 all_goals (first | refine Br.ab ?_ | (refine WQ.aK (aE Tryz.underlying39 Tryz.sizeOf3 rfl rfl rfl (by omega) (by first | rfl | assumption)) rfl rfl rfl ?_))
 all_goals (first | refine Br.ab ?_ | (refine WQ.aK (aA Tryz.isAgg3 rfl (by first | assumption | exact aa (by assumption) rfl)) rfl rfl rfl ?_))
 all_goals (first | refine Br.ab ?_ | refine WQ.aK (jx rfl rfl) rfl rfl rfl ?_)
 all_goals (first | refine Br.ab ?_ | refine WQ.nil ?_)
 all_goals (refine Gn ?_;first | refine Br.ab ?_ | refine Gs [(0,_),(1,_),(12,_),(13,_),(24,_)] ?_)
 all_goals (first | refine Br.ab ?_ | (refine aH 5 6 (Hb.mk fun hb=>?_) (Hb.mk fun hb=>?_)))
 all_goals try (
 refine aw 5 ?_
 refine G2 ?_;refine Gs [(4,_)] ?_;refine Gt ?_
 first | exact ⟨by rw [decide_eq_false (fun e=>by subst e;omega)],rfl⟩ | exact ⟨by rw [decide_eq_false (fun e=>by subst e;rw [hy] at hz;injection hz with hz;omega)],rfl⟩ | exact ⟨by rw [decide_eq_true (by rw [List.take_of_length_le (by omega),List.take_of_length_le (by omega)] at hn;exact hn)],rfl⟩
 skip)
 all_goals try (
 refine aw 6 ?_
 refine WC.skip ?_
 skip)
 all_goals (refine Gn ?_;first | refine Br.ab ?_ | refine WC.region ?_)
 all_goals (refine Go ?_;first | refine Br.ab ?_ | (exact ⟨k+1,⟨rfl,rfl,rfl,rfl,trivial⟩,(by exact ⟨rfl,by omega,by rw [List.take_add_one,List.take_add_one,hn,hy,hz,show y=z by omega]⟩),(by omega)⟩))
 try (refine Br.mk (i:=1000) ?_)
 refine Gn ?_;refine Gs [] ?_;refine G2 ?_;refine Gt ?_
 first | exact ⟨by rw [decide_eq_false (fun e=>by subst e;omega)],rfl⟩ | exact ⟨by rw [decide_eq_false (fun e=>by subst e;rw [hy] at hz;injection hz with hz;omega)],rfl⟩ | exact ⟨by rw [decide_eq_true (by rw [List.take_of_length_le (by omega),List.take_of_length_le (by omega)] at hn;exact hn)],rfl⟩
theorem gU {h:ah} {A:Option Addr} {c:Nat} (l:List Int) (hr:Rd h (.slice A l.length c) 1 l.length (ints l)) (hm:l.length * 8≤reachBytes) :
   ag Tryz.prog 206 ⟨[.slice A l.length c]⟩ h fun u h'=>Own h' u 3 1 l.length (ints l)∧Ext No h h'∧(∀ k,u.ownBlock=some k→h.size≤k):=by
 unfold reachBytes at hm
 cases A with
 | none =>
   have h0:l=[]:=by
     cases l with
     | nil=>rfl
     | cons a l=>obtain ⟨b,o,e,_⟩:=Rd.at_ hr (by simp);cases e
   subst h0
   refine calls [(0,_)] Tryz.func206 rfl Tryz.ntmps206 rfl ⟨rfl,trivial⟩ ?_
   refine G2 ?_;refine G3 ?_;refine WL.step (cR Tryz.underlying39 rfl rfl) rfl rfl rfl ?_;refine Gn ?_
   refine aH 1 2 ?_ TT.mk
   all_goals (refine aw 1 ?_)
   refine G2 ?_;refine Gt ?_
   exact ⟨Own.nil _ _ _,.refl _ _,by simp [Value.ownBlock]⟩
 | some a =>
   refine calls [(0,_)] Tryz.func206 rfl Tryz.ntmps206 rfl ⟨rfl,trivial⟩ ?_
   refine G2 ?_;refine G3 ?_;refine WL.step (cR Tryz.underlying39 rfl rfl) rfl rfl rfl ?_;refine Gn ?_
   refine aH 1 2 ?_ TT.mk
   all_goals (refine aw 2 ?_)
   refine WC.skip ?_;refine Gn ?_;refine WC.sr ?_;refine WL.aj (au (vs:=[]) (cs:=[]) (fun _=>[]) Tryz.underlying39 rfl rfl (by kernel_rfl)) rfl rfl rfl ?_
   rintro _ h1 ⟨b1,rfl,bR,aR,az⟩
   refine Go ?_
   have qP:=hr.aq az
   refine WL.aj (aT (sz:=1) (bytes:=8) rfl Tryz.underlying39 (show Tryz.prog.info? 3=some Tryz.t3 by kernel_rfl) rfl rfl rfl rfl (by decide) rfl rfl (dE aR rfl (by simp [maxLen])) qP (by simp [Value.oneCell']) (by simp only [maxLen];omega) (by omega)) rfl rfl rfl ?_
   rintro v2 h2 ⟨dc,aI,kO⟩
   refine Go ?_;refine Gs [(2,_)] ?_;refine Gt ?_
   exact ⟨by simpa using dc,az.trans' aI (fun k hk e=>by simp [Value.ownBlock] at e;omega),bU kO (fun k hk=>by simp [Value.ownBlock] at hk;omega) az.size⟩
section
variable {α:Type} (p:α→Bool)
def jB:List α→Int
 | [] => -1
 | a :: l=>if p a then 0 else if jB l < 0 then -1 else jB l+1
theorem jC (l:List α):(jB p l = -1∧∀ x∈l,p x=false)∨∃ (k:Nat) (x:α),jB p l=k∧l[k]?=some x∧p x=true∧∀ y∈l.take k,p y=false:=by
 induction l with
 | nil=>exact .inl ⟨rfl,by simp⟩
 | cons a l ih =>
   unfold jB
   cases h:p a
   · rw [if_neg (by simp)]
     rcases ih with ⟨h1,h2⟩ | ⟨k,x,h1,h2,h3,h4⟩
     · exact .inl ⟨by rw [h1];rfl,by simpa [h] using h2⟩
     · exact .inr ⟨k+1,x,by rw [h1,if_neg (by omega)];omega,by simpa using h2,h3,by simpa [h] using h4⟩
   · exact .inr ⟨0,a,by simp,by simp,h,by simp⟩
variable {p}
theorem de {l:List α} {k:Nat} {x:α} (h1:l[k]?=some x) (hx:p x=true) (h2:∀ y∈l.take k,p y=false):jB p l=k:=by
 rcases jC p l with ⟨_,h⟩ | ⟨j,y,h,h3,h4,h5⟩
 · rw [h x (List.mem_of_getElem? h1)] at hx;cases hx
 · rw [h]
   rcases Nat.lt_trichotomy j k with e | e | e
   · rw [h2 y (List.mem_of_getElem? (show (l.take k)[j]?=some y by rw [List.getElem?_take,if_pos e];exact h3))] at h4;cases h4
   · rw [e]
   · rw [h5 x (List.mem_of_getElem? (show (l.take j)[k]?=some x by rw [List.getElem?_take,if_pos e];exact h1))] at hx;cases hx
theorem dg {l:List α} (h:∀ x∈l,p x=false):jB p l = -1:=by
 rcases jC p l with ⟨e,_⟩ | ⟨j,y,_,h3,h4,_⟩
 · exact e
 · rw [h y (List.mem_of_getElem? h3)] at h4;cases h4
theorem dT (l:List α):decide (0≤jB p l)=l.any p:=by
 rcases jC p l with ⟨e,h⟩ | ⟨j,y,e,h3,h4,_⟩
 · rw [e,(List.any_eq_false.2 (fun x hx=>by rw [h x hx];simp):l.any p=false)]
   rfl
 · rw [e,(List.any_eq_true.2 ⟨y,List.mem_of_getElem? h3,h4⟩:l.any p=true)]
   exact decide_eq_true (by omega)
theorem dh {l:List α} {y:α} {k:Nat} (h:∀ x∈l.take k,p x=false) (hk:l[k]?=some y) (hy:p y=false):∀ x∈l.take (k+1),p x=false:=by
 intro x hx
 rw [List.take_add_one,hk] at hx
 simp only [Option.toList_some,List.mem_append,List.mem_singleton] at hx
 rcases hx with hx | rfl
 · exact h x hx
 · exact hy
end
theorem jo {h:ah} {A:Option Addr} {c:Nat} (l:List Int) (p:Int→Bool) {fk:Nat} {fs us:List Value} (hcf:∀ (args:Array Value) (w:World),(callFunc fk args).run Tryz.prog w=.ok (.enter fk args) w) (hr:Rd h (.slice A l.length c) 1 l.length (l.map In)) (hm:l.length≤maxLen)
   (hp:∀ x∈l,ag Tryz.prog fk ⟨fs++[In x]++us⟩ h fun u h'=>u=.bool (p x)∧h'=h) :
   ag Tryz.prog 229 ⟨[.slice A l.length c,.func (.func fk) ⟨fs⟩ ⟨us⟩]⟩ h fun u h'=>u=In (jB p l)∧h'=h:=by
 unfold maxLen at hm
 refine calls [(0,_),(1,_)] Tryz.func229 rfl Tryz.ntmps229 rfl ⟨rfl,rfl,trivial⟩ ?_
 refine G2 ?_;refine G3 ?_;refine WC.block ?_;refine WC.bD (X:=Nat) (fun x=>([(8,In (x:Int))]:Fr)) [(0,_),(1,_),(7,_)] (fun k h'=>h'=h∧k≤l.length∧∀ x∈l.take k,p x=false) (fun k=>l.length - k) (0) ⟨rfl,rfl,rfl,rfl,trivial⟩ (by exact ⟨rfl,Nat.zero_le _,by simp⟩) ?_
 rintro k _ ⟨rfl,hk,hn⟩
 refine WC.sub [(8,_),(0,_),(1,_),(7,_)] ⟨rfl,rfl,rfl,rfl,trivial⟩ ?_;refine G2 ?_;refine WC.seq ?_
 refine aH 1 2 (Hb.mk fun hb=>?_) (Hb.mk fun hb=>?_)
 all_goals try (
 refine aw 1 ?_
 refine WC.skip ?_
 skip)
 all_goals try (
 refine aw 2 ?_
 refine WC.exit ?_
 repeat' (with_reducible first | refine aU ?_ | refine aD rfl ?_ | refine aJ ?_ | refine aL ?_ | refine aS ?_)
 refine Br.out (i:=1000) ?_
 skip)
 all_goals (refine Gn ?_;first | refine Br.ab ?_ | refine WC.seq ?_)
 all_goals (first | refine Br.ab ?_ | refine WC.block ?_)
 all_goals (first | refine Br.ab ?_ | refine WC.sr ?_)
 all_goals (refine Go ?_;first | refine Br.ab ?_ | refine WC.sr ?_)
 all_goals (refine Go ?_)
 all_goals (
  first
    | (refine Br.ab ?_)
    | (obtain ⟨b,o,hA,hbL,hat⟩:=Rd.at_ hr (by omega)
       obtain ⟨y,hy⟩:∃ y,l[k]?=some y:=⟨_,List.getElem?_eq_getElem (by omega)⟩
       have hc:=hat.get (p:=o+k * 1) (v:=In y) k (by rw [List.getElem?_map,hy];exact rfl) (by omega)))
 all_goals (first | refine Br.ab ?_ | (refine WL.step (aE Tryz.underlying39 Tryz.sizeOf3 rfl rfl rfl (by omega) (by first | rfl | assumption)) rfl rfl rfl ?_))
 all_goals (first | refine Br.ab ?_ | refine Ld ?_)
 all_goals (
  first
    | (refine Br.ab ?_)
    | (refine WL.fC (vs:=[_]) rfl rfl hcf rfl (hp y (List.mem_of_getElem? hy)) rfl rfl rfl ?_
       rintro _ hz ⟨rfl,_⟩
       subst hz))
 all_goals (first | refine Br.ab ?_ | cases hpy:p y)
 all_goals (refine Gn ?_;first | refine Br.ab ?_ | refine Gs [(0,_),(1,_),(5,_),(7,_),(8,_),(16,_)] ?_)
 all_goals (first | refine Br.ab ?_ | refine aH 3 4 ?_ TT.mk)
 all_goals try (
 refine aw 3 ?_
 refine G2 ?_;refine Gs [(4,_)] ?_;refine Gt ?_
 first | exact ⟨by rw [dg (by rw [List.take_of_length_le (by omega)] at hn;exact hn)],rfl⟩ | exact ⟨by rw [de hy hpy hn],rfl⟩
 skip)
 all_goals try (
 refine aw 4 ?_
 refine WC.skip ?_
 skip)
 all_goals (refine Gn ?_;first | refine Br.ab ?_ | refine WC.region ?_)
 all_goals (refine Go ?_;first | refine Br.ab ?_ | (exact ⟨k+1,⟨rfl,rfl,rfl,rfl,trivial⟩,(by exact ⟨rfl,by omega,dh hn hy hpy⟩),(by omega)⟩))
 try (refine Br.mk (i:=1000) ?_)
 refine Gn ?_;refine Gs [] ?_;refine G2 ?_;refine Gt ?_
 first | exact ⟨by rw [dg (by rw [List.take_of_length_le (by omega)] at hn;exact hn)],rfl⟩ | exact ⟨by rw [de hy hpy hn],rfl⟩
end Go.Proofs.YtopgddfgefnmbaaGreatDoor
