/-
  SEVERAL TEXTS IN ONE: K1, K2, K3, K4, K5, K6, K7, K8, K9, K10, K11, K12, K26, Base, Inst, K24, K14, Num, K18, Srl, SrlX, Frm, Shelf, Sl, Pred, Del.
-/
import Derived.WalkKit
import Derived.Deep.Quiet
import Derived.KernelRfl
import Derived.RangeFuncLeaves
import Derived.RangeFuncRecord
import Derived.Laws.Pointers
import Derived.WalkLawsBesides
import Derived.WalkSpells
import Derived.Maps.AppendAt
import Derived.Laws.Tables
import Derived.Laws.Rows
import Derived.Laws.CopyRow
import Derived.Deep.AppendLies
import Derived.MapKept
import Derived.Below
import Derived.ProofKit
import Derived.OpenShut
import Derived.ShutString
import Derived.ChangeOld
import Derived.Deep.Slices
import Derived.OrdersHeld
import Derived.StillTail
import Derived.Lib.ConvBytes
import Derived.Lib.UnsafeStr
import Derived.Lib.Builder
import Derived.Laws.BytesString
import Derived.Laws.Externs
import Derived.Laws.Strings2
import Derived.Laws.Strings3
import Derived.Laws.MakeOwn
import Derived.Laws.StructEq
import Derived.Laws.BitsLemmas
import Derived.ChangeKeysEq
import Derived.Test.YtopgddfgefnmbaaGreatDoorChecked
import Derived.Laws.Entries
import Derived.Lib.AppendStr
import Derived.Maps.RangeRun
import Derived.Shelf.Strings.Search1
import Derived.Shelf.Strings.OnBuilder
import Derived.Shelf.Small.Strs
import Derived.Shelf.Bytes.IndexByte
import Derived.Shelf.LaysM
import Derived.Test.YtopgddfgefnmbaaGreatDoorProg
set_option maxHeartbeats 8000000
set_option maxRecDepth 100000
namespace Go.RK
open Go
abbrev ah:=Array Obj
abbrev Fr:=List (Nat × Value)
def Fr.get:Fr→Nat→Option Value
 | [],_=>Option.none
 | (t,v) :: r,n=>bif Nat.beq t n then some v else Fr.get r n
def Fr.ev (f:Fr):Operand→Option Value
 | .tmp t=>f.get t
 | .const v=>some v
 | .global g=>some (.pointer (some ⟨g,0,Option.none⟩))
 | .func k=>some (.func (.func k) #[] #[])
def nY:Fr→Fr→Prop
 | [],_=>True
 | (t,v) :: r,f=>f.get t=some v∧nY r f
def E7:Fr→List Value→Prop
 | [],_=>True
 | (t,v) :: r,f=>f[t]?=some v∧E7 r f
structure Env where
 n:Nat
 ds:List Deferred:=[]
 ro:Option Nat:=Option.none
structure j7 (n:Env) (a:Act) (f:Fr):Prop where
 size:a.tmps.size=n.n
 defers:a.defers=n.ds
 at_:∀ t v,f.get t=some v→a.tmps[t]?=some v
structure eE (w w':World):Prop where
 tape:w'.tape=w.tape
 os:w'.os=w.os
 output:w'.output=w.output
 drawn:True
theorem eE.refl (w:World):eE w w:=⟨rfl,rfl,rfl,trivial⟩
theorem eE.trans {a b c:World} (h:eE a b) (k:eE b c):eE a c:=⟨k.tape.trans h.tape,k.os.trans h.os,k.output.trans h.output,trivial⟩
theorem Fr.j8 (t:Nat) (v:Value) (f:Fr) (n:Nat):Fr.get ((t,v) :: f) n=if t=n then some v else Fr.get f n:=by
 show (bif Nat.beq t n then some v else Fr.get f n)=_
 by_cases h:t=n
 · subst h;simp
 · have h2 : Nat.beq t n = false := by
     cases h3:Nat.beq t n
     · rfl
     · exact absurd (Nat.eq_of_beq_eq_true h3) h
   simp [h,h2]
theorem iO {d n:Nat} (hd:Nat.blt d n=true):d < n:=by
 have h1:d+1≤n:=by simpa [Nat.blt,Nat.ble_eq] using hd
 omega
theorem j7.put {n:Env} {a:Act} {f:Fr} (h:j7 n a f) {d:Nat} (hd:Nat.blt d n.n=true) (v:Value):j7 n (a.put (some d) v) ((d,v) :: f):=by
 have hd':=iO hd
 refine ⟨by simp [Act.put,h.size],by simp [Act.put,h.defers],fun t u hu=>?_⟩
 rw [Fr.j8] at hu
 by_cases e:d=t
 · subst e
   simp only [if_true] at hu
   injection hu with hu
   subst hu
   simp [Act.put,h.size,hd']
 · rw [if_neg e] at hu
   simp only [Act.put]
   rw [Array.getElem?_setIfInBounds_ne e]
   exact h.at_ t u hu
def lq (ρ:Operand→Value) (f:Fr):Prop:=∀ x v,f.ev x=some v→ρ x=v
theorem j7.eU {n:Env} {a:Act} {f:Fr} (h:j7 n a f):lq a.eval f:=by
 intro x v hx
 cases x with
 | tmp t =>
   have:=h.at_ t v hx
   simp [Act.eval,Array.getD_eq_getD_getElem?,this]
 | const u=>simpa [Fr.ev,Act.eval] using hx
 | global g=>simpa [Fr.ev,Act.eval] using hx
 | func k=>simpa [Fr.ev,Act.eval] using hx
theorem j7.sub {n:Env} {a:Act} {f g:Fr} (h:j7 n a f) (hs:nY g f):j7 n a g:=by
 refine ⟨h.size,h.defers,?_⟩
 induction g with
 | nil=>intro t v hv;cases hv
 | cons p g ih =>
   obtain ⟨t0,v0⟩:=p
   intro t v hv
   rw [Fr.j8] at hv
   by_cases e:t0=t
   · subst e
     rw [if_pos rfl] at hv
     injection hv with hv
     subst hv
     exact h.at_ _ _ hs.1
   · rw [if_neg e] at hv
     exact ih hs.2 t v hv
theorem j7.jj {n:Env} {a:Act} {f:Fr} (h:j7 n a f) {t:Nat} {v:Value} (hv:f.get t=some v):j7 n a ((t,v) :: f):=by
 refine ⟨h.size,h.defers,fun s u hu=>?_⟩
 rw [Fr.j8] at hu
 by_cases e:t=s
 · subst e
   rw [if_pos rfl] at hu
   exact h.at_ _ _ (hv.trans hu)
 · rw [if_neg e] at hu
   exact h.at_ _ _ hu
abbrev eV:=Exit→Fr→ah→Prop
def jE (l:List Oper):Bool:=l.all fun o=>match o.op with | .defer _=>false | _=>true
def calm:Exit→Bool
 | .panic _=>false
 | .outgrown=>false
 | _=>true
def wd (ro:Option Nat):Fence:={ Fence.wide with round:=ro }
def cX (n:Env) (Q:eV) (w0:World):Exit→Act→World→Prop:=fun e a w=>calm e=true∧eE w0 w∧∃ f,j7 n a f∧Q e f w.heap
def WC (P:Program) (n:Env) (c:Code) (Q:eV) (f:Fr) (h:ah):Prop:=∀ a w,j7 n a f→w.heap=h→c.wpIn (wd n.ro) 0 P (cX n Q w) a w
def WL (P:Program) (n:Env) (l0 l:List Oper) (Q:eV) (f:Fr) (h:ah):Prop:=∀ a w,j7 n a f→w.heap=h→wpList P l0.toArray (cX n Q w) l a w
def lX (K:Fr→ah→Prop) (Q:eV):eV
 | .normal,f,w=>K f w
 | e,f,w=>Q e f w
def iP (id:Nat) (Q:eV):eV
 | .exit i,f,w=>if i=id then Q .normal f w else Q (.exit i) f w
 | e,f,w=>Q e f w
def ag (P:Program) (k:FuncId) (args:Array Value) (h:ah) (R:Value→ah→Prop):Prop :=
 ∀ w:World,w.heap=h→Calls P k args w fun e w'=>eE w w'∧∃ v,e=.returned v∧R v w'.heap
theorem ag.mono {P:Program} {k:FuncId} {args:Array Value} {h:ah} {R R':Value→ah→Prop} (hc:ag P k args h R) (hr:∀ v h',R v h'→R' v h'):ag P k args h R' :=
 fun w hw=>(hc w hw).mono fun _ _ ⟨s,v,e,r⟩=>⟨s,v,e,hr _ _ r⟩
theorem cX.trans {n:Env} {Q:eV} {w0 w1:World} (hs:eE w0 w1) {e:Exit} {a:Act} {w:World} (h:cX n Q w1 e a w):cX n Q w0 e a w:=⟨h.1,hs.trans h.2.1,h.2.2⟩
theorem cX.shut {n:Env} {Q:eV} {w0:World}:¬ LetsOut (cX n Q w0):=fun ⟨_,_,h,_⟩=>by cases h
section
variable {P:Program} {ops:Array Oper} {Q:Exit→Act→World→Prop} {ro:Option Nat}
theorem wv {row:String} {args:Array Value} {w:World} {R:Value→World→Prop} (h:Rows P row args w R):RowsIn (wd ro) 0 P row args w R:=fun c cs _ =>
 let ⟨v,w',hr,hs⟩:=h c cs
 ⟨v,w',hr,stepsIn_wide.2 hs⟩
theorem sY {k:FuncId} {args:Array Value} {w:World} {R:Ending→World→Prop} (h:Calls P k args w R):CallsIn (wd ro) 0 P k args w R:=callsIn_wide (n:=0) |>.2 h
theorem Cr {o:Oper} {a:Act} {K K':Act→World→Prop} (hK:∀ a w,K a w→K' a w) {r:Result Next} (h:o.upon P a K Q r):o.uponIn (wd ro) 0 P a K' Q r:=by
 cases r with
 | ok x w2 =>
   cases x <;> simp only [Oper.upon,Oper.uponIn] at h ⊢ <;> first | exact hK _ _ h | exact h | skip
   · refine ⟨fun e=>(by cases e),(sY h).mono fun e w3 he=>?_⟩
     cases e with
     | returned v=>exact hK _ _ he
     | panicked c=>exact he
     | outgrown=>exact he
   · exact ⟨fun e=>(by cases e),(wv h).mono fun v w3 he=>hK _ _ he⟩
 | halt x w2=>cases x <;> simp only [Oper.upon,Oper.uponIn] at h ⊢ <;> exact h
theorem yd {o:Oper} {a:Act} (hd:ro=Option.none∨∀ c,o.op ≠ .defer c):o.semAt ro a.eval=execOp a.eval o:=by
 rcases hd with rfl | hd
 · exact Oper.semAt_none _ _
 · exact Oper.semAt_eq _ _ _ hd
theorem ye {l:List Oper} (h:jE l=true) {i:Nat} {o:Oper} (ho:l[i]?=some o):∀ c,o.op ≠ .defer c:=fun c e=>by
 have:=List.all_eq_true.1 h o (List.mem_of_getElem? ho)
 rw [e] at this
 cases this
theorem mU (hd:ro=Option.none∨jE ops.toList=true) (hQ:¬ LetsOut Q):∀ (l:List Nat) (a:Act) (w:World),wpOps P ops Q l a w→wpOpsIn (wd ro) 0 P ops Q l a w
 | [],a,w,h=>h
 | i :: l,a,w,h=>by
   unfold wpOps at h
   unfold wpOpsIn
   cases ho:ops[i]? with
   | none =>
     rw [ho] at h
     exact mU hd hQ l a w h
   | some o =>
     rw [ho] at h
     simp only at h ⊢
     by_cases hw:Region.wanted o (yielded ops a.tmps)=true
     · rw [if_pos hw] at h ⊢
       refine ⟨fun _ _=>trivial,?_⟩
       show o.uponIn (wd ro) 0 P a _ Q ((o.semAt ro a.eval).run P w)
       rw [yd (hd.imp id fun e=>ye e (by simpa using ho))]
       rcases h with h | h
       · exact Cr (fun a w k=>mU hd hQ l a w k) h
       · exact absurd h.2 hQ
     · rw [if_neg hw] at h ⊢
       exact ⟨fun _ _=>trivial,mU hd hQ l _ _ h⟩
theorem Cs {l:List Oper} {id:Nat} {a:Act} {w:World} (hd:ro=Option.none∨jE l=true) (hQ:¬ LetsOut Q) (h:wpList P l.toArray Q l a w):(Code.region id l.toArray false).wpIn (wd ro) 0 P Q a w:=by
 refine wpIn_region (mU hd hQ _ _ _ ?_)
 have e:=wpOps_eq_wpList (P:=P) (ops:=l.toArray) (Q:=Q) l 0 (by simp)
 rw [List.range_eq_range',show l.toArray.size=l.length by simp,e]
 exact h
theorem sZ {id:Nat} {a:Act} {w:World} (hd:ro=Option.none∨jE ops.toList=true) (hQ:¬ LetsOut Q) (hm:P.follows .mixedOrders=true)
   (h:wpAny P .any ops Q ops.size (Array.replicate ops.size false) a { w with drawn:=w.drawn+1 }):(Code.region id ops true).wpIn (wd ro) 0 P Q a w :=
 wpIn_region_draw fun t=>by
   simp only [Region.schedule,hm,Bool.true_or,if_true]
   exact mU hd hQ _ _ _ (wpAny_sound ops.size t _ a _ h)
end
section
variable {P:Program} {n:Env} {Q:eV} {f:Fr} {h:ah}
theorem WC.sub {c:Code} (g:Fr) (hs:nY g f) (hc:WC P n c Q g h):WC P n c Q f h:=fun a w ha hw=>hc a w (ha.sub hs) hw
theorem WC.mono {c:Code} {Q':eV} (hc:WC P n c Q f h) (hq:∀ e f h,Q e f h→Q' e f h):WC P n c Q' f h :=
 fun a w ha hw=>wpIn_mono (hc a w ha hw) fun _ _ _ ⟨hl,hs,g,hg,q⟩=>⟨hl,hs,g,hg,hq _ _ _ q⟩
theorem WC.seq {x y:Code} (hx:WC P n x (lX (WC P n y Q) Q) f h):WC P n (.seq x y) Q f h:=by
 intro a w ha hw
 refine wpIn_seq (wpIn_mono (hx a w ha hw) ?_)
 rintro e a' w' ⟨hl,hs,g,hg,q⟩
 cases e
 case normal=>exact wpIn_mono (q a' w' hg rfl) fun _ _ _ hq=>hq.trans hs
 all_goals exact ⟨hl,hs,g,hg,q⟩
theorem WC.skip (hq:Q .normal f h):WC P n .skip Q f h:=fun _ w ha hw=>wpIn_skip ⟨rfl,.refl w,f,ha,hw▸hq⟩
theorem WC.label {l:Nat} (hq:Q .normal f h):WC P n (.label l) Q f h:=fun _ w ha hw=>wpIn_label ⟨rfl,.refl w,f,ha,hw▸hq⟩
theorem WC.ret (hq:Q .ret f h):WC P n .ret Q f h:=fun _ w ha hw=>wpIn_ret ⟨rfl,.refl w,f,ha,hw▸hq⟩
theorem WC.exit {id:Nat} (hq:Q (.exit id) f h):WC P n (.exit id) Q f h:=fun _ w ha hw=>wpIn_exit ⟨rfl,.refl w,f,ha,hw▸hq⟩
theorem WC.block {id:Nat} {c:Code} (hc:WC P n c (iP id Q) f h):WC P n (.block id c) Q f h:=by
 intro a w ha hw
 refine wpIn_block (wpIn_mono (hc a w ha hw) ?_)
 rintro e a' w' ⟨hl,hs,g,hg,q⟩
 cases e with
 | exit i =>
   simp only [Exit.inBlock,iP] at q ⊢
   by_cases hi:i=id
   · rw [if_pos hi] at q ⊢;exact ⟨rfl,hs,g,hg,q⟩
   · rw [if_neg hi] at q ⊢;exact ⟨rfl,hs,g,hg,q⟩
 | normal=>exact ⟨hl,hs,g,hg,q⟩
 | goto l=>exact ⟨hl,hs,g,hg,q⟩
 | ret=>exact ⟨hl,hs,g,hg,q⟩
 | panic ch=>cases hl
 | outgrown=>cases hl
theorem WC.cond {c:Operand} {x y:Code} {b:Bool} (hc:f.ev c=some (.bool b)) (ht:b=true→WC P n x Q f h) (hf:b=false→WC P n y Q f h):WC P n (.cond c x y) Q f h:=by
 intro a w ha hw
 exact wpIn_cond_split (ha.eU _ _ hc) (fun e=>ht e a w ha hw) (fun e=>hf e a w ha hw)
theorem WC.E8 {c:Operand} {x y:Code} (hc:f.ev c=some (.bool true)) (hx:WC P n x Q f h):WC P n (.cond c x y) Q f h :=
 .cond hc (fun _=>hx) (fun e=>by cases e)
theorem WC.E9 {c:Operand} {x y:Code} (hc:f.ev c=some (.bool false)) (hy:WC P n y Q f h):WC P n (.cond c x y) Q f h :=
 .cond hc (fun e=>by cases e) (fun _=>hy)
theorem WC.cut {X:Type} {x y:Code} (g:X→Fr) (A:X→ah→Prop) (hx:WC P n x (lX (fun f' h'=>∃ z,nY (g z) f'∧A z h') Q) f h) (hy:∀ z h',A z h'→WC P n y Q (g z) h'):WC P n (.seq x y) Q f h :=
 .seq (hx.mono fun e f' h' q=>by
   cases e
   case normal=>obtain ⟨z,hs,ha⟩:=q;exact .sub _ hs (hy z h' ha)
   all_goals exact q)
theorem WC.loop {X:Type} {c:Code} (F:X→Fr) (I:X→ah→Prop) (μ:X→Nat) (x0:X) (hs:nY (F x0) f) (h0:I x0 h)
   (round:∀ x h,I x h→WC P n c (lX (fun f' h'=>∃ x',nY (F x') f'∧I x' h'∧μ x' < μ x) Q) (F x) h):WC P n (.loop c) Q f h:=by
 intro a w ha hw b k cs hro hb hr
 have key : ∀ m (x : X) (a : Act) (w' : World), μ x = m → I x w'.heap → j7 n a (F x) → eE w w' →
     ∃ e a' w'',cX n Q w e a' w''∧ArrivesIn (Machine.fenced P (wd n.ro)) P (lone (b.atR a (.code c :: .inLoop c :: k)) cs w') b k cs e a' w'':=by
   intro m
   induction m using Nat.strongRecOn with
   | _ m ih =>
     intro x a w' hm hI hrp hsame
     obtain ⟨e,a₁,w₁,⟨hl,qX,g,hg,hq⟩,harr⟩:=round x w'.heap hI a w' hrp rfl b (.inLoop c :: k) cs hro hb hr
     cases e with
     | normal =>
       obtain ⟨x',hs',hI',hlt⟩:=hq
       obtain ⟨e₂,a₂,w₂,hq₂,harr₂⟩:=ih (μ x') (hm▸hlt) x' a₁ w₁ rfl hI' (hg.sub hs') (hsame.trans qX)
       exact ⟨e₂,a₂,w₂,hq₂,.of_steps (StepsIn.trans harr (.one (fenced_calm hb hr rfl) stepR_inLoop)) harr₂⟩
     | exit id=>exact ⟨_,a₁,w₁,⟨rfl,hsame.trans qX,g,hg,hq⟩,.pass (x:=.inLoop c) rfl (fun _ _=>.inl (by simp)) harr⟩
     | goto l=>exact ⟨_,a₁,w₁,⟨rfl,hsame.trans qX,g,hg,hq⟩,.pass (x:=.inLoop c) rfl (fun _ _=>.inl (by simp)) harr⟩
     | ret=>exact ⟨_,a₁,w₁,⟨rfl,hsame.trans qX,g,hg,hq⟩,.pass (x:=.inLoop c) rfl (fun _ _=>.inl (by simp)) harr⟩
     | panic ch=>cases hl
     | outgrown=>cases hl
 obtain ⟨e,a',w',hq,harr⟩:=key _ x0 a w rfl (hw▸h0) (ha.sub hs) (.refl w)
 exact ⟨e,a',w',hq,.of_steps (.one (fenced_calm hb hr rfl) stepR_loop) harr⟩
theorem WC.region {id:Nat} {l:List Oper} (hl:WL P n l l Q f h) (hd:n.ro=Option.none∨jE l=true:=by first | exact .inl rfl | exact .inr rfl):WC P n (.region id l.toArray false) Q f h :=
 fun a w ha hw=>Cs hd cX.shut (hl a w ha hw)
theorem WL.nil {l0:List Oper} (hq:Q .normal f h):WL P n l0 [] Q f h:=fun _ w ha hw=>wpList_nil ⟨rfl,.refl w,f,ha,hw▸hq⟩
def Ok (P:Program) (f:Fr) (o:Oper) (h:ah) (v:Value) (h':ah):Prop :=
 ∀ (ρ:Operand→Value) (w:World),lq ρ f→w.heap=h→∃ w',eE w w'∧w'.heap=h' ∧
   ((execOp ρ o).run P w=.ok (.value v) w'∨((execOp ρ o).run P w=.ok .skip w'∧v=undef))
end
@[reducible] def St (l:List UInt8):Value:=.string ⟨⟨l⟩⟩
@[reducible] def In (n:Int):Value:=.int .i64 n
theorem wx (l m:List UInt8):(ByteArray.mk ⟨l⟩)++(ByteArray.mk ⟨m⟩)=ByteArray.mk ⟨l++m⟩:=by
 apply ByteArray.ext
 simp
def bK (P:Program) (f:Fr) (o:Oper) (h:ah) (v:Value):Prop :=
 ∀ (ρ:Operand→Value) (w:World),lq ρ f→w.heap=h→(execOp ρ o).run P w=.ok (.value v) w
def eO (P:Program) (f:Fr) (o:Oper) (h:ah) (R:Value→ah→Prop):Prop :=
 ∀ (ρ:Operand→Value) (w:World),lq ρ f→w.heap=h→∃ v w',eE w w'∧R v w'.heap ∧
   ((execOp ρ o).run P w=.ok (.value v) w'∨((execOp ρ o).run P w=.ok .skip w'∧v=undef))
section
variable {P:Program} {f:Fr} {h:ah} {d:Option Tmp} {ty:TypeId} {pos:String} {af:Array Edge} {g:Option (Nat × Bool)}
theorem ak {x:Operand} {v:Value} (hx:f.ev x=some v):bK P f ⟨d,.move x,ty,pos,af,g⟩ h v:=fun ρ w ha _=>by simp [execOp,ha _ _ hx]
theorem aR {x:Operand} {v:Value} (hx:f.ev x=some v):bK P f ⟨d,.assign x,ty,pos,af,g⟩ h v:=fun ρ w ha _=>by simp [execOp,ha _ _ hx]
theorem cM {c x y:Operand} {v:Value} (hc:f.ev c=some (.bool true)) (hx:f.ev x=some v):bK P f ⟨d,.pick c x y,ty,pos,af,g⟩ h v :=
 fun ρ w ha _=>by simp [execOp,ha _ _ hc,ha _ _ hx,asBool]
theorem cd {c x y:Operand} {v:Value} (hc:f.ev c=some (.bool false)) (hy:f.ev y=some v):bK P f ⟨d,.pick c x y,ty,pos,af,g⟩ h v :=
 fun ρ w ha _=>by simp [execOp,ha _ _ hc,ha _ _ hy,asBool]
theorem ae {x:Operand} {a:Addr} (hx:f.ev x=some (.pointer (some a))):bK P f ⟨d,.nilCheck x,ty,pos,af,g⟩ h (.pointer (some a)) :=
 fun ρ w ha _=>by simp [execOp,ha _ _ hx]
theorem bU {x:Operand} {i:Nat} {vs:List Value} {v:Value} (hx:f.ev x=some (.tuple ⟨vs⟩)) (hv:vs[i]?=some v):bK P f ⟨d,.extract x i,ty,pos,af,g⟩ h v :=
 fun ρ w ha _=>by simp [execOp,ha _ _ hx,Instr.extract,hv]
theorem ad {x:Operand} {s i:Nat} {fs:Array Field} {fl:Field} {b o k:Nat} (hx:f.ev x=some (.pointer (some ⟨b,o,Option.none⟩))) (hu:P.underlying s=some (.struct fs)) (hf:fs[i]?=some fl)
   (hz:∀ w,(sizeOf fl.type).run P w=.ok (k+1) w):bK P f ⟨d,.fieldAddr s x i,ty,pos,af,g⟩ h (.pointer (some ⟨b,o+fl.offset,Option.none⟩)) :=
 fun ρ w ha _=>by simp [execOp,ha _ _ hx,Instr.fieldAt,run_underlying hu,hf,Instr.sureAddr,fieldPlace,hz,Addr.add_lit]
section ints
variable {t t2:TypeId} {x y:Operand} {k:IntKind} {a b:Int}
theorem yf (hx:f.ev x=some (.int k a)) (hy:f.ev y=some (.int k b)):bK P f ⟨d,.binOp .add t x y t2,ty,pos,af,g⟩ h (.int k (k.wrap (a+b))) :=
 fun ρ w ha _=>by simp [execOp,ha _ _ hx,ha _ _ hy,eqGuard_add,binOp_add,Op.intArith]
theorem ta (hx:f.ev x=some (.int k a)) (hy:f.ev y=some (.int k b)):bK P f ⟨d,.binOp .sub t x y t2,ty,pos,af,g⟩ h (.int k (k.wrap (a - b))) :=
 fun ρ w ha _=>by simp [execOp,ha _ _ hx,ha _ _ hy,eqGuard_sub,binOp_sub,Op.intArith]
theorem Fa (hx:f.ev x=some (.int k a)) (hy:f.ev y=some (.int k b)):bK P f ⟨d,.binOp .mul t x y t2,ty,pos,af,g⟩ h (.int k (k.wrap (a * b))) :=
 fun ρ w ha _=>by simp [execOp,ha _ _ hx,ha _ _ hy,eqGuard_mul,binOp_mul,Op.intArith]
theorem wrap_i64 (a:Int) (h0 : -9223372036854775808≤a) (h1:a≤9223372036854775807):IntKind.i64.wrap a=a:=by rw [IntKind.wrap_i64];omega
theorem ft (hx:f.ev x=some (In a)) (hy:f.ev y=some (In b)) (h0 : -9223372036854775808≤a+b∧a+b≤9223372036854775807):bK P f ⟨d,.binOp .add t x y t2,ty,pos,af,g⟩ h (In (a+b)):=by
 have:=yf (P:=P) (d:=d) (ty:=ty) (pos:=pos) (af:=af) (g:=g) (h:=h) (t:=t) (t2:=t2) hx hy
 rwa [wrap_i64 _ h0.1 h0.2] at this
theorem fu (hx:f.ev x=some (In a)) (hy:f.ev y=some (In b)) (h0 : -9223372036854775808≤a - b∧a - b≤9223372036854775807):bK P f ⟨d,.binOp .sub t x y t2,ty,pos,af,g⟩ h (In (a - b)):=by
 have:=ta (P:=P) (d:=d) (ty:=ty) (pos:=pos) (af:=af) (g:=g) (h:=h) (t:=t) (t2:=t2) hx hy
 rwa [wrap_i64 _ h0.1 h0.2] at this
theorem j9 (hx:f.ev x=some (In a)) (hy:f.ev y=some (In b)) (h0 : -9223372036854775808≤a * b∧a * b≤9223372036854775807):bK P f ⟨d,.binOp .mul t x y t2,ty,pos,af,g⟩ h (In (a * b)):=by
 have:=Fa (P:=P) (d:=d) (ty:=ty) (pos:=pos) (af:=af) (g:=g) (h:=h) (t:=t) (t2:=t2) hx hy
 rwa [wrap_i64 _ h0.1 h0.2] at this
theorem mV (hx:f.ev x=some (.int k a)) (hy:f.ev y=some (.int k b)):bK P f ⟨d,.binOp .lss t x y t2,ty,pos,af,g⟩ h (.bool (decide (a < b))) :=
 fun ρ w ha _=>by simp [execOp,ha _ _ hx,ha _ _ hy,eqGuard_lss,binOp_lss]
theorem mW (hx:f.ev x=some (.int k a)) (hy:f.ev y=some (.int k b)):bK P f ⟨d,.binOp .leq t x y t2,ty,pos,af,g⟩ h (.bool (decide (a≤b))) :=
 fun ρ w ha _=>by simp [execOp,ha _ _ hx,ha _ _ hy,eqGuard_leq,binOp_leq]
theorem iQ (hx:f.ev x=some (.int k a)) (hy:f.ev y=some (.int k b)):bK P f ⟨d,.binOp .gtr t x y t2,ty,pos,af,g⟩ h (.bool (decide (b < a))) :=
 fun ρ w ha _=>by simp [execOp,ha _ _ hx,ha _ _ hy,eqGuard_gtr,binOp_gtr]
theorem dm (hx:f.ev x=some (.int k a)) (hy:f.ev y=some (.int k b)):bK P f ⟨d,.binOp .geq t x y t2,ty,pos,af,g⟩ h (.bool (decide (b≤a))) :=
 fun ρ w ha _=>by simp [execOp,ha _ _ hx,ha _ _ hy,eqGuard_geq,binOp_geq]
theorem mX (hx:f.ev x=some (.int k a)) (hy:f.ev y=some (.int k b)):bK P f ⟨d,.binOp .eql t x y t2,ty,pos,af,g⟩ h (.bool (decide (a=b))) :=
 fun ρ w ha _=>by simp [execOp,ha _ _ hx,ha _ _ hy,binOp_eql,eqGuard_at_int,BEq.beq]
theorem jQ (hx:f.ev x=some (.int k a)) (hy:f.ev y=some (.int k b)):bK P f ⟨d,.binOp .neq t x y t2,ty,pos,af,g⟩ h (.bool (!decide (a=b))) :=
 fun ρ w ha _=>by simp [execOp,ha _ _ hx,ha _ _ hy,binOp_neq,eqGuard_at_int,bne,BEq.beq]
theorem bK.dL {o:Oper} {p:Prop} [Decidable p] (hp:p) (ho:bK P f o h (.bool (decide p))):bK P f o h (.bool true):=by rwa [decide_eq_true hp] at ho
theorem bK.eX {o:Oper} {p:Prop} [Decidable p] (hp:¬p) (ho:bK P f o h (.bool (decide p))):bK P f o h (.bool false):=by rwa [decide_eq_false hp] at ho
theorem bK.ka {o:Oper} {p:Prop} [Decidable p] (hp:¬p) (ho:bK P f o h (.bool (!decide p))):bK P f o h (.bool true):=by rwa [decide_eq_false hp] at ho
theorem bK.hG {o:Oper} {p:Prop} [Decidable p] (hp:p) (ho:bK P f o h (.bool (!decide p))):bK P f o h (.bool false):=by rwa [decide_eq_true hp] at ho
end ints
theorem cL {x:Operand} {t:TypeId} {b:Bool} (hx:f.ev x=some (.bool b)):bK P f ⟨d,.unOp .not t x,ty,pos,af,g⟩ h (.bool (!b)) :=
 fun ρ w ha _=>by simp [execOp,ha _ _ hx,Op.unary]
theorem kj {x y:Operand} {t t2:TypeId} {a b:Bool} (hu:P.underlying t=some .bool) (hx:f.ev x=some (.bool a)) (hy:f.ev y=some (.bool b)):bK P f ⟨d,.binOp .eql t x y t2,ty,pos,af,g⟩ h (.bool (decide (a=b))) :=
 fun ρ w ha _=>by simp [execOp,ha _ _ hx,ha _ _ hy,eqGuard_at_bool,run_eql_bool w t a b hu,BEq.beq]
theorem Ct {x y:Operand} {t t2:TypeId} {a b:Bool} (hu:P.underlying t=some .bool) (hx:f.ev x=some (.bool a)) (hy:f.ev y=some (.bool b)):bK P f ⟨d,.binOp .neq t x y t2,ty,pos,af,g⟩ h (.bool (!decide (a=b))) :=
 fun ρ w ha _=>by simp [execOp,ha _ _ hx,ha _ _ hy,eqGuard_at_bool,run_neq_bool w t a b hu,BEq.beq]
section strs
variable {t t2:TypeId} {x y:Operand} {a b:List UInt8}
theorem jk {α:Type} [BEq α] [LawfulBEq α] [DecidableEq α] (a b:α):(a == b)=decide (a=b):=by
 by_cases e:a=b <;> simp [e]
theorem mD (hx:f.ev x=some (St a)) (hy:f.ev y=some (St b)):bK P f ⟨d,.binOp .eql t x y t2,ty,pos,af,g⟩ h (.bool (decide (a=b))) :=
 fun ρ w ha _=>by simp [execOp,ha _ _ hx,ha _ _ hy,eqGuard_at_string,binOp,Op.stringOp,jk]
theorem mF (hx:f.ev x=some (St a)) (hy:f.ev y=some (St b)):bK P f ⟨d,.binOp .neq t x y t2,ty,pos,af,g⟩ h (.bool (!decide (a=b))) :=
 fun ρ w ha _=>by simp [execOp,ha _ _ hx,ha _ _ hy,eqGuard_at_string,binOp,Op.stringOp,jk]
theorem dW (hx:f.ev x=some (St a)) (hy:f.ev y=some (St b)) (hl:a.length+b.length≤9223372036854775807):bK P f ⟨d,.binOp .add t x y t2,ty,pos,af,g⟩ h (St (a++b)) :=
 fun ρ w ha _=>by
   have h1:¬ (((ByteArray.mk ⟨a⟩).size+(ByteArray.mk ⟨b⟩).size:Nat):Int) > IntKind.i64.max:=by
     rw [IntKind.max_i64];show ¬ ((a.length+b.length:Nat):Int) > _;omega
   simp only [execOp,ha _ _ hx,ha _ _ hy,eqGuard_at_string,binOp,Op.stringOp,if_neg h1,wx,Sem.run_bind,Sem.run_pure,Result.andThen_ok]
theorem kq {x:Operand} {c:Array TypeId} (hc:c=#[t]) (hu:P.underlying t=some .string) (hx:f.ev x=some (St a)) :
   bK P f ⟨d,.call { callee:=.builtin .len,args:=#[x],argTypes:=c },ty,pos,af,g⟩ h (In a.length) :=
 fun ρ w ha _=>by
   subst hc
   have:(ByteArray.mk ⟨a⟩).size=a.length:=rfl
   simp [execOp,resolve,invoke,builtin,ha _ _ hx,Builtin.len_,run_underlying hu,goInt,this]
theorem cT {i:Int} {k:IntKind} {u:UInt8} (hu:P.underlying t=some .string) (hx:f.ev x=some (St a)) (hy:f.ev y=some (.int k i)) (h0:0≤i) (hv:a[i.toNat]?=some u) :
   bK P f ⟨d,.index t x y,ty,pos,af,g⟩ h (.int .u8 u.toNat) :=
 fun ρ w ha _=>by
   obtain ⟨hlt,JM⟩:=List.getElem?_eq_some_iff.1 hv
   have hi:0≤i∧i < ((ByteArray.mk ⟨a⟩).size:Nat):=⟨h0,by show i < (a.length:Nat);omega⟩
   have hb:(ByteArray.mk ⟨a⟩)[i.toNat]'(by omega)=u:=JM
   simp [execOp,ha _ _ hx,ha _ _ hy,run_index_string,hu,hi,hb]
end strs
theorem mY {t e:TypeId} (hu:P.underlying t=some (.pointer e)):P.underlying t=some (.pointer (P.pointee t)):=by
 have:P.pointee t=e:=by unfold Program.pointee;rw [hu]
 rw [this];exact hu
theorem eP {t t2 e:TypeId} {x y:Operand} {p:Option Addr} (hu:P.underlying t=some (.pointer e)) (hx:f.ev x=some (.pointer p)) (hy:f.ev y=some (.pointer Option.none)) :
   bK P f ⟨d,.binOp .eql t x y t2,ty,pos,af,g⟩ h (.bool p.isNone) :=
 fun ρ w ha _=>by simp [execOp,ha _ _ hx,ha _ _ hy,eqGuard_at_pointer,run_eql_pointer_nil w t p (mY hu)]
theorem dD {t t2 e:TypeId} {x y:Operand} {p:Option Addr} (hu:P.underlying t=some (.pointer e)) (hx:f.ev x=some (.pointer p)) (hy:f.ev y=some (.pointer Option.none)) :
   bK P f ⟨d,.binOp .neq t x y t2,ty,pos,af,g⟩ h (.bool p.isSome) :=
 fun ρ w ha _=>by cases p <;> simp [execOp,ha _ _ hx,ha _ _ hy,eqGuard_at_pointer,run_neq_pointer_nil w t _ (mY hu)]
theorem yg {t t2 k e:TypeId} {x y:Operand} {m:Option Nat} (hu:P.underlying t=some (.map k e)) (hx:f.ev x=some (.map m)) (hy:f.ev y=some (.map Option.none)) :
   bK P f ⟨d,.binOp .neq t x y t2,ty,pos,af,g⟩ h (.bool m.isSome) :=
 fun ρ w ha _=>by cases m <;> simp [execOp,ha _ _ hx,ha _ _ hy,eqGuard_at_map,run_neq_map_nil w t k e _ hu]
theorem ku {t t2 k e:TypeId} {x y:Operand} {m:Option Nat} (hu:P.underlying t=some (.map k e)) (hx:f.ev x=some (.map m)) (hy:f.ev y=some (.map Option.none)) :
   bK P f ⟨d,.binOp .eql t x y t2,ty,pos,af,g⟩ h (.bool m.isNone) :=
 fun ρ w ha _=>by simp [execOp,ha _ _ hx,ha _ _ hy,eqGuard_at_map,run_eql_map_nil w t k e m hu]
theorem cV {t t2 e:TypeId} {x y:Operand} {p:Option Addr} {l c:Nat} (hu:P.underlying t=some (.slice e)) (hx:f.ev x=some (.slice p l c)) (hy:f.ev y=some (.slice Option.none 0 0)) :
   bK P f ⟨d,.binOp .eql t x y t2,ty,pos,af,g⟩ h (.bool p.isNone) :=
 fun ρ w ha _=>by simp [execOp,ha _ _ hx,ha _ _ hy,eqGuard_at_slice,Lib.run_eql_slice_nil w t e p l c 0 0 hu]
theorem cu {t e:TypeId} {x:Operand} {p:Option Addr} {l c:Nat} {ts:Array TypeId} (hc:ts=#[t]) (hu:P.underlying t=some (.slice e)) (hx:f.ev x=some (.slice p l c)) :
   bK P f ⟨d,.call { callee:=.builtin .len,args:=#[x],argTypes:=ts },ty,pos,af,g⟩ h (In l) :=
 fun ρ w ha _=>by subst hc;simp [execOp,resolve,invoke,builtin,ha _ _ hx,Builtin.len_,run_underlying hu,goInt]
theorem tb {t e:TypeId} {x y:Operand} {b o l c sz:Nat} {k:IntKind} {i:Int} (hu:P.underlying t=some (.slice e)) (hz:∀ w,(sizeOf e).run P w=.ok sz w)
   (hx:f.ev x=some (.slice (some ⟨b,o,Option.none⟩) l c)) (hy:f.ev y=some (.int k i)) (hi:0≤i∧i < l) :
   bK P f ⟨d,.indexAddr t x y,ty,pos,af,g⟩ h (.pointer (some ⟨b,o+i.toNat * sz,Option.none⟩)) :=
 fun ρ w ha _=>by simp [execOp,ha _ _ hx,ha _ _ hy,Instr.indexAt,asIntOf,run_underlying hu,hi,hz,Addr.add_lit]
end
def cell (h:ah) (a:Addr):Option Value :=
 match h[a.block]? with
 | some (.cells c _ _)=>if a.spot.isSome then Option.none else c[a.off]?
 | _=>Option.none
theorem mG (w:World) (a:Addr):w.cell? a=cell w.heap a:=rfl
def At (h:ah) (b o:Nat) (vs:List Value):Prop:=∀ (j:Nat) (v:Value),vs[j]?=some v→cell h ⟨b,o+j,Option.none⟩=some v
def Rd (h:ah) (v:Value) (sz n:Nat) (xs:List Value):Prop :=
 ∃ A c,v=.slice A n c∧n≤c∧xs.length=n * sz∧(0 < n→∃ b o,A=some ⟨b,o,Option.none⟩∧b < h.size∧At h b o xs)
def Own (h:ah) (v:Value) (e:TypeId) (sz n:Nat) (xs:List Value):Prop :=
 xs.length=n * sz∧((v=.slice Option.none 0 0∧n=0) ∨
   ∃ g cap cur,v=.slice (some ⟨g,0,Option.none⟩) n cap∧h[g]?=some (.cells cur e (0,0))∧n≤cap∧cap≤maxLen∧cur.size=cap * sz∧cur.toList.take (n * sz)=xs)
structure Ext (S:Nat→Prop) (h h':ah):Prop where
 size:h.size≤h'.size
 ab:∀ b,b < h.size→¬ S b→h'[b]?=h[b]?
abbrev No:Nat→Prop:=fun _=>False
theorem aO {b:Nat}:¬ No b:=fun h=>h
section
variable {h h' h'':ah} {S S':Nat→Prop}
theorem Ext.refl (S:Nat→Prop) (h:ah):Ext S h h:=⟨Nat.le_refl _,fun _ _ _=>rfl⟩
theorem Ext.trans (a:Ext S h h') (b:Ext S h' h''):Ext S h h'' :=
 ⟨Nat.le_trans a.size b.size,fun k hk hS=>(b.ab k (Nat.lt_of_lt_of_le hk a.size) hS).trans (a.ab k hk hS)⟩
theorem Ext.trans' (a:Ext S h h') (b:Ext S' h' h'') (hs:∀ k,k < h.size→S' k→S k):Ext S h h'' :=
 ⟨Nat.le_trans a.size b.size,fun k hk hS=>(b.ab k (Nat.lt_of_lt_of_le hk a.size) (fun e=>hS (hs k hk e))).trans (a.ab k hk hS)⟩
theorem Ext.mono (a:Ext S h h') (hs:∀ k,k < h.size→S k→S' k):Ext S' h h':=⟨a.size,fun k hk hS=>a.ab k hk fun e=>hS (hs k hk e)⟩
theorem aj {b:Nat} {o:Obj} (hb:h[b]?=some o):b < h.size:=by
 rcases Nat.lt_or_ge b h.size with hlt | hge
 · exact hlt
 · rw [Array.getElem?_eq_none hge] at hb;cases hb
theorem Ext.obj (a:Ext S h h') {b:Nat} {o:Obj} (hb:h[b]?=some o) (hS:¬ S b):h'[b]?=some o:=(a.ab b (aj hb) hS).trans hb
theorem Ext.push (S:Nat→Prop) (h:ah) (o:Obj):Ext S h (h.push o) :=
 ⟨by simp,fun b hb _=>by rw [Array.getElem?_push,if_neg (by omega)]⟩
theorem Ext.set (h:ah) (b:Nat) (o:Obj) (hS:S b):Ext S h (h.setIfInBounds b o) :=
 ⟨by simp,fun k _ hk=>by rw [Array.getElem?_setIfInBounds_ne];rintro rfl;exact hk hS⟩
theorem mZ (h:ah) (o:Obj):(h.push o)[h.size]?=some o:=by simp
theorem dX {b:Nat} {o x:Obj} (hb:h[b]?=some x):(h.push o)[b]?=some x:=(Ext.push No h o).obj hb id
theorem dI {b:Nat} {o x:Obj} (hb:h[b]?=some x):(h.setIfInBounds b o)[b]?=some o:=by
 have:=aj hb
 simp [this]
theorem cell_of {b o:Nat} {cs:Array Value} {t:TypeId} {z:Nat × Nat} (hb:h[b]?=some (.cells cs t z)):cell h ⟨b,o,Option.none⟩=cs[o]?:=by
 simp [cell,hb]
theorem u5 {a:Addr} {v:Value} (hc:cell h a=some v):a.block < h.size:=by
 unfold cell at hc
 cases e:h[a.block]? with
 | none=>rw [e] at hc;cases hc
 | some o=>exact aj e
theorem wy {a:Addr} (e:h'[a.block]?=h[a.block]?):cell h' a=cell h a:=by simp [cell,e]
theorem Ext.cell (a:Ext S h h') {p:Addr} {v:Value} (hc:cell h p=some v) (hS:¬ S p.block):cell h' p=some v :=
 (wy (a.ab _ (u5 hc) hS)).trans hc
theorem At.ext {b o:Nat} {vs:List Value} (h0:At h b o vs) (a:Ext S h h') (hS:¬ S b):At h' b o vs:=fun j v hj=>a.cell (h0 j v hj) hS
theorem At.one {b o:Nat} {vs:List Value} (h0:At h b o vs) {j:Nat} {v:Value} (hj:vs[j]?=some v):cell h ⟨b,o+j,Option.none⟩=some v:=h0 j v hj
theorem At.drop {b o:Nat} {vs:List Value} (h0:At h b o vs) (k:Nat):At h b (o+k) (vs.drop k):=fun j v hj=>by
 rw [List.getElem?_drop] at hj
 rw [Nat.add_assoc]
 exact h0 _ v hj
theorem At.take {b o:Nat} {vs:List Value} (h0:At h b o vs) (k:Nat):At h b o (vs.take k):=fun j v hj=>by
 rw [List.getElem?_take] at hj
 split at hj
 · exact h0 j v hj
 · cases hj
theorem At.au {b:Nat} {cs:List Value} {t:TypeId} {z:Nat × Nat} (hb:h[b]?=some (.cells ⟨cs⟩ t z)):At h b 0 cs:=fun j v hj=>by
 rw [Nat.zero_add,cell_of hb];simpa using hj
theorem Rd.ext {v:Value} {sz n:Nat} {xs:List Value} (r:Rd h v sz n xs) (a:Ext S h h') (hS:∀ b,v.ownBlock=some b→¬ S b):Rd h' v sz n xs:=by
 obtain ⟨A,c,rfl,hc,hl,hp⟩:=r
 refine ⟨A,c,rfl,hc,hl,fun hn=>?_⟩
 obtain ⟨b,o,rfl,hb,hat⟩:=hp hn
 exact ⟨b,o,rfl,Nat.lt_of_lt_of_le hb a.size,hat.ext a (hS b rfl)⟩
theorem Rd.aq {v:Value} {sz n:Nat} {xs:List Value} (r:Rd h v sz n xs) (a:Ext No h h'):Rd h' v sz n xs:=r.ext a (fun _ _=>id)
theorem Rd.nil (h:ah) (sz:Nat):Rd h (.slice Option.none 0 0) sz 0 []:=⟨_,_,rfl,Nat.le_refl _,by simp,fun h=>absurd h (by omega)⟩
theorem Own.nil (h:ah) (e:TypeId) (sz:Nat):Own h (.slice Option.none 0 0) e sz 0 []:=⟨by simp,.inl ⟨rfl,rfl⟩⟩
theorem Own.rd {v:Value} {e:TypeId} {sz n:Nat} {xs:List Value} (r:Own h v e sz n xs):Rd h v sz n xs:=by
 obtain ⟨hl,⟨rfl,rfl⟩ | ⟨g,cap,cur,rfl,hg,hn,hm,hs,ht⟩⟩:=r
 · obtain rfl:xs=[]:=List.eq_nil_of_length_eq_zero (by simpa using hl)
   exact Rd.nil h sz
 · refine ⟨_,_,rfl,hn,hl,fun _=>⟨g,0,rfl,aj hg,fun j v hj=>?_⟩⟩
   rw [Nat.zero_add,cell_of hg]
   rw [← ht,List.getElem?_take] at hj
   split at hj
   · simpa using hj
   · cases hj
theorem Own.ext {v:Value} {e:TypeId} {sz n:Nat} {xs:List Value} (r:Own h v e sz n xs) (a:Ext S h h') (hS:∀ b,v.ownBlock=some b→¬ S b):Own h' v e sz n xs:=by
 obtain ⟨hl,⟨rfl,rfl⟩ | ⟨g,cap,cur,rfl,hg,hn,hm,hs,ht⟩⟩:=r
 · exact ⟨hl,.inl ⟨rfl,rfl⟩⟩
 · exact ⟨hl,.inr ⟨g,cap,cur,rfl,a.obj hg (hS g rfl),hn,hm,hs,ht⟩⟩
theorem Own.len {v:Value} {e:TypeId} {sz n:Nat} {xs:List Value} (r:Own h v e sz n xs):xs.length=n * sz:=r.1
theorem Own.slice {v:Value} {e:TypeId} {sz n:Nat} {xs:List Value} (r:Own h v e sz n xs):∃ A c,v=.slice A n c∧n≤c:=by
 obtain ⟨hl,⟨rfl,rfl⟩ | ⟨g,cap,cur,rfl,hg,hn,hm,hs,ht⟩⟩:=r
 · exact ⟨_,_,rfl,Nat.le_refl _⟩
 · exact ⟨_,_,rfl,hn⟩
end
section
variable {P:Program} {n:Env} {Q:eV} {f:Fr} {h:ah} {l0 rest:List Oper}
theorem bK.ok {o:Oper} {v:Value} (ho:bK P f o h v):Ok P f o h v h:=fun ρ w ha hw=>⟨w,.refl w,hw,.inl (ho ρ w ha hw)⟩
theorem hH {w w':World} (hs:eE w w'):∀ (l:List Oper) (a:Act) (w'':World),wpList P l0.toArray (cX n Q w') l a w''→wpList P l0.toArray (cX n Q w) l a w'':=by
 have upon_mono:∀ (o:Oper) (a:Act) (K K':Act→World→Prop) (r:Result Next),(∀ a w,K a w→K' a w)→o.upon P a K (cX n Q w') r→o.upon P a K' (cX n Q w) r:=by
   intro o a K K' r hKK hu
   cases r with
   | ok x w2 =>
     cases x <;> simp only [Oper.upon] at hu ⊢ <;> first | exact hKK _ _ hu | exact hu | skip
     · refine hu.mono fun e w3 he=>?_
       cases e with
       | returned v=>exact hKK _ _ he
       | panicked c=>exact he.trans hs
       | outgrown=>obtain ⟨a0,w0,q⟩:=he;exact ⟨a0,w0,q.trans hs⟩
     · exact hu.mono fun v w3 he=>hKK _ _ he
   | halt x w2=>cases x <;> simp only [Oper.upon] at hu ⊢ <;> first | exact hu.trans hs | exact hu
 intro l
 induction l with
 | nil=>intro a w'' q;exact cX.trans hs q
 | cons o' l ih =>
   intro a w'' q
   unfold wpList at q ⊢
   split
   · rename_i hw'
     rw [if_pos hw'] at q
     rcases q with q | ⟨q1,a0,w0,q2⟩
     · exact .inl (upon_mono _ _ _ _ _ ih q)
     · exact .inr ⟨q1,a0,w0,q2.trans hs⟩
   · rename_i hw'
     rw [if_neg hw'] at q
     exact ih _ _ q
def wz (f:Fr) (l0:List Oper) (j:Nat):Option Bool :=
 match (l0[j]?).bind (·.dst) with
 | some t=>match f.get t with
   | some (.bool b)=>some b
   | _=>Option.none
 | Option.none=>Option.none
theorem ky {a:Act} (ha:j7 n a f) {j:Nat} {b:Bool} (hb:wz f l0 j=some b):yielded l0.toArray a.tmps j=some b:=by
 unfold wz at hb
 unfold yielded
 simp only [List.getElem?_toArray]
 cases e:(l0[j]?).bind (·.dst) with
 | none=>rw [e] at hb;cases hb
 | some t =>
   rw [e] at hb
   cases e2:f.get t with
   | none=>simp [e2] at hb
   | some v =>
     have:=ha.at_ t v e2
     cases v <;> simp [e2] at hb
     subst hb
     simp [this]
def goes (f:Fr) (l0:List Oper) (o:Oper):Bool :=
 match o.guard with
 | Option.none=>true
 | some (j,b)=>match wz f l0 j with
   | some c=>c == b
   | Option.none=>false
def Fb (f:Fr) (l0:List Oper) (j:Nat):Bool :=
 match (l0[j]?).bind (·.dst) with
 | some t=>match f.get t with
   | some (.tuple ⟨[]⟩)=>true
   | _=>false
 | Option.none=>false
theorem py {a:Act} (ha:j7 n a f) {j:Nat} (hb:Fb f l0 j=true):yielded l0.toArray a.tmps j=Option.none:=by
 unfold Fb at hb
 unfold yielded
 simp only [List.getElem?_toArray]
 cases e:(l0[j]?).bind (·.dst) with
 | none=>rfl
 | some t =>
   rw [e] at hb
   simp only at hb
   split at hb
   · rename_i e2
     have:=ha.at_ t _ e2
     simp [this]
   · cases hb
def stops (f:Fr) (l0:List Oper) (o:Oper):Bool :=
 match o.guard with
 | Option.none=>false
 | some (j,b)=>match wz f l0 j with
   | some c=>c != b
   | Option.none=>Fb f l0 j
theorem cE {a:Act} (ha:j7 n a f) {o:Oper} (hg:goes f l0 o=true):Region.wanted o (yielded l0.toArray a.tmps)=true:=by
 unfold goes at hg
 unfold Region.wanted
 cases e:o.guard with
 | none=>rfl
 | some p =>
   obtain ⟨j,b⟩:=p
   rw [e] at hg
   simp only at hg ⊢
   cases e2:wz f l0 j with
   | none=>simp [e2] at hg
   | some c =>
     rw [ky ha e2]
     simp [e2] at hg
     simp [hg]
theorem fv {a:Act} (ha:j7 n a f) {o:Oper} (hg:stops f l0 o=true):Region.wanted o (yielded l0.toArray a.tmps)=false:=by
 unfold stops at hg
 unfold Region.wanted
 cases e:o.guard with
 | none=>rw [e] at hg;cases hg
 | some p =>
   obtain ⟨j,b⟩:=p
   rw [e] at hg
   simp only at hg ⊢
   cases e2:wz f l0 j with
   | none =>
     rw [e2] at hg
     simp only at hg
     rw [py ha hg]
     rfl
   | some c =>
     rw [ky ha e2]
     simp [e2] at hg
     simp [hg]
theorem WL.run {o:Oper} {R:Value→ah→Prop} (hok:eO P f o h R) (hg:goes f l0 o=true)
   (hk:∀ v h' a w,R v h'→j7 n a f→w.heap=h'→wpList P l0.toArray (cX n Q w) rest (a.put o.dst v) w):WL P n l0 (o :: rest) Q f h:=by
 intro a w ha hw
 refine wpList_step fun K hK=>?_
 rw [if_pos (cE ha hg)]
 obtain ⟨v,w',hs,hR,hrun⟩:=hok a.eval w ha.eU hw
 unfold Oper.wp
 have hk':=hH hs _ _ _ (hk v w'.heap a w' hR ha rfl)
 rcases hrun with hrun | ⟨hrun,rfl⟩ <;> rw [hrun] <;> simp only [Oper.upon] <;> exact hK _ _ hk'
theorem bK.r {o:Oper} {v:Value} (ho:bK P f o h v):eO P f o h (fun v' h'=>v'=v∧h'=h):=fun ρ w ha hw=>⟨v,w,.refl w,⟨rfl,hw⟩,.inl (ho ρ w ha hw)⟩
theorem WL.step {o:Oper} {v:Value} {t:Nat} (hok:bK P f o h v) (hg:goes f l0 o=true) (hd:o.dst=some t) (ht:Nat.blt t n.n=true) (hk:WL P n l0 rest Q ((t,v) :: f) h):WL P n l0 (o :: rest) Q f h :=
 .run hok.r hg (by rintro v h' a w ⟨rfl,rfl⟩ ha hw;rw [hd];exact hk _ w (ha.put ht _) hw)
theorem WL.ai {o:Oper} {R:Value→ah→Prop} {t:Nat} (hok:eO P f o h R) (hg:goes f l0 o=true) (hd:o.dst=some t) (ht:Nat.blt t n.n=true) (hk:∀ v h',R v h'→WL P n l0 rest Q ((t,v) :: f) h'):WL P n l0 (o :: rest) Q f h :=
 .run hok hg (by rintro v h' a w hR ha hw;rw [hd];exact hk v h' hR _ w (ha.put ht _) hw)
theorem WL.az {o:Oper} {R:Value→ah→Prop} (hok:eO P f o h R) (hg:goes f l0 o=true) (hd:o.dst=Option.none) (hk:∀ v h',R v h'→WL P n l0 rest Q f h'):WL P n l0 (o :: rest) Q f h :=
 .run hok hg (by rintro v h' a w hR ha hw;rw [hd];exact hk v h' hR _ w ha hw)
theorem WL.pass {o:Oper} {t:Nat} (hg:stops f l0 o=true) (hd:o.dst=some t) (ht:Nat.blt t n.n=true) (hk:WL P n l0 rest Q ((t,undef) :: f) h):WL P n l0 (o :: rest) Q f h:=by
 intro a w ha hw
 refine wpList_step fun K hK=>?_
 rw [if_neg (by rw [fv ha hg];exact Bool.false_ne_true),hd]
 exact hK _ _ (hk _ w (ha.put ht _) hw)
theorem WL.part {l:List Oper} (t:Nat) {b:Bool} (hb:f.get t=some (.bool b)) (h1:b=true→WL P n l0 l Q ((t,.bool true) :: f) h) (h2:b=false→WL P n l0 l Q ((t,.bool false) :: f) h):WL P n l0 l Q f h:=by
 cases b
 · exact fun a w ha hw=>h2 rfl a w (ha.jj hb) hw
 · exact fun a w ha hw=>h1 rfl a w (ha.jj hb) hw
theorem WL.sub {l:List Oper} (g:Fr) (hs:nY g f) (hc:WL P n l0 l Q g h):WL P n l0 l Q f h:=fun a w ha hw=>hc a w (ha.sub hs) hw
theorem WL.call {o:Oper} {t:Nat} {k:FuncId} {xs:List Operand} {vs:List Value} {ts:Array TypeId} {R:Value→ah→Prop} (ho:o.op=.call { callee:=.value (.func k),args:=⟨xs⟩,argTypes:=ts })
   (hc:∀ (args:Array Value) (w:World),(callFunc k args).run P w=.ok (.enter k args) w)
   (hx:xs.map f.ev=vs.map some) (hR:ag P k ⟨vs⟩ h R) (hg:goes f l0 o=true) (hd:o.dst=some t) (ht:Nat.blt t n.n=true) (hk:∀ v h',R v h'→WL P n l0 rest Q ((t,v) :: f) h'):WL P n l0 (o :: rest) Q f h:=by
 intro a w ha hw
 refine wpList_step fun K hK=>?_
 rw [if_pos (cE ha hg)]
 have hargs:xs.map a.eval=vs:=by
   clear ho hR
   induction xs generalizing vs with
   | nil=>cases vs <;> simp_all
   | cons x xs ih =>
     cases vs with
     | nil=>simp at hx
     | cons v vs =>
       simp only [List.map_cons,List.cons.injEq] at hx ⊢
       exact ⟨ha.eU _ _ hx.1,ih hx.2⟩
 unfold Oper.wp
 have hrun:(execOp a.eval o).run P w=.ok (.enter k ⟨vs⟩) w:=by
   have e2:Array.map a.eval ⟨xs⟩=⟨vs⟩:=by rw [← hargs];simp
   simp [execOp,ho,resolve,Deferred.ofValue,invoke,Act.eval,e2,hc]
 rw [hrun]
 simp only [Oper.upon]
 refine (hR w hw).mono fun e w' ⟨hs,v,he,hv⟩=>?_
 subst he
 rw [hd]
 exact hK _ _ (hH hs _ _ _ (hk v _ hv _ w' (ha.put ht _) rfl))
end
section
variable {P:Program} {f:Fr} {h:ah} {d:Option Tmp} {ty:TypeId} {pos:String} {af:Array Edge} {g:Option (Nat × Bool)}
theorem aA {t:TypeId} {x:Operand} {b o:Nat} {v:Value} (ht:∀ w,(isAgg t).run P w=.ok false w) (hx:f.ev x=some (.pointer (some ⟨b,o,Option.none⟩))) (hc:cell h ⟨b,o,Option.none⟩=some v) :
   bK P f ⟨d,.load t x,ty,pos,af,g⟩ h v :=
 fun ρ w ha hw=>by
   subst hw
   have h1:w.cell? ⟨b,o,Option.none⟩=some v:=hc
   simp [execOp,ha _ _ hx,Instr.loadAt,Instr.sureAddr,loadVar,ht,h1]
theorem an {t:TypeId} {x:Operand} {b o k:Nat} {vs:List Value} (ht:∀ w,(isAgg t).run P w=.ok true w) (hz:∀ w,(sizeOf t).run P w=.ok k w) (hx:f.ev x=some (.pointer (some ⟨b,o,Option.none⟩))) (hk:vs.length=k) (hc:At h b o vs) :
   bK P f ⟨d,.load t x,ty,pos,af,g⟩ h (.agg ⟨vs⟩) :=
 fun ρ w ha hw=>by
   subst hw
   subst hk
   have h1:(loadCells ⟨b,o,Option.none⟩ vs.length).run P w=.ok vs.toArray w:=run_loadCells_list w _ vs fun j v hj=>by rw [Addr.add_lit];exact hc j v hj
   simp [execOp,ha _ _ hx,Instr.loadAt,Instr.sureAddr,loadVar,ht,hz,h1]
theorem eY {w:World} {b o:Nat} {cs:Array Value} {e:TypeId} {v:Value} (hb:w.heap[b]?=some (.cells cs e (0,0))) (ho:o < cs.size) (hv:v.oneCell'=true) :
   ∃ w',(store ⟨b,o,Option.none⟩ v).run P w=.ok () w'∧eE w w'∧w'.heap=w.heap.setIfInBounds b (.cells (cs.setIfInBounds o v) e (0,0)):=by
 refine ⟨w.setCell ⟨b,o,Option.none⟩ v,?_,⟨rfl,rfl,rfl,trivial⟩,?_⟩
 · rw [run_store P w _ _ _ hv]
   have h1:w.cell? ⟨b,o,Option.none⟩=some cs[o]:=by simp [World.cell?,hb,ho]
   have h2:w.frozen? ⟨b,o,Option.none⟩=false:=by simp [World.frozen?,hb]
   simp [h1,h2]
 · obtain ⟨hlt,hv⟩:=Array.getElem?_eq_some_iff.1 hb
   apply Array.ext_getElem?
   intro i
   simp only [World.setCell,Array.getElem?_modify]
   by_cases e1:b=i
   · subst e1;simp [hlt,hv]
   · simp [e1,Array.getElem?_setIfInBounds_ne e1]
theorem yh {t:TypeId} {x y:Operand} {b o:Nat} {cs:List Value} {e:TypeId} {v:Value} (hz:∀ w,(sizeOf t).run P w=.ok 1 w) (hx:f.ev x=some (.pointer (some ⟨b,o,Option.none⟩))) (hy:f.ev y=some v)
   (hb:h[b]?=some (.cells ⟨cs⟩ e (0,0))) (ho:o < cs.length) (hv:v.oneCell'=true) (JN:v.cells=#[v]) :
   eO P f ⟨d,.store t x y,ty,pos,af,g⟩ h (fun u h'=>u=undef∧h'=h.setIfInBounds b (.cells ⟨cs.set o v⟩ e (0,0))) :=
 fun ρ w ha hw=>by
   subst hw
   obtain ⟨w',hr,hs,hh⟩:=eY (P:=P) hb (by simpa using ho) hv
   refine ⟨undef,w',hs,⟨rfl,by rw [hh];simp⟩,.inr ⟨?_,rfl⟩⟩
   simp [execOp,ha _ _ hx,ha _ _ hy,Instr.storeAt,Instr.sureAddr,storeVar,hz,JN,storeCells,Addr.add_zero',hr]
theorem cN (b:Nat) (e:TypeId):∀ (vs:List Value) (i o:Nat) (cs:List Value) (w:World),w.heap[b]?=some (.cells ⟨cs⟩ e (0,0))→o+i+vs.length≤cs.length→(∀ v∈vs,v.oneCell'=true) →
   ∃ w',(storeCells ⟨b,o,Option.none⟩ vs i).run P w=.ok () w'∧eE w w'∧w'.heap=w.heap.setIfInBounds b (.cells ⟨cs.take (o+i)++vs++cs.drop (o+i+vs.length)⟩ e (0,0))
 | [],i,o,cs,w,hb,hl,_=>by
   refine ⟨w,by simp [storeCells],.refl w,?_⟩
   obtain ⟨hlt,hv⟩:=Array.getElem?_eq_some_iff.1 hb
   apply Array.ext_getElem?
   intro j
   by_cases e1:b=j
   · subst e1;simp [hlt,hv]
   · simp [Array.getElem?_setIfInBounds_ne e1]
 | v :: vs,i,o,cs,w,hb,hl,hv=>by
   simp only [List.length_cons] at hl
   obtain ⟨w1,hr,hs,hh⟩:=eY (P:=P) (w:=w) (b:=b) (o:=o+i) (cs:=⟨cs⟩) (v:=v) hb (by simp;omega) (hv v (by simp))
   have aQ:w1.heap[b]?=some (.cells ⟨cs.set (o+i) v⟩ e (0,0)):=by rw [hh,dI hb];simp
   obtain ⟨w2,qS,xY,My⟩:=cN b e vs (i+1) o (cs.set (o+i) v) w1 aQ (by rw [List.length_set];omega) (fun u hu=>hv u (by simp [hu]))
   refine ⟨w2,?_,hs.trans xY,?_⟩
   · simp only [storeCells,Addr.add_lit,Sem.run_bind,hr,Result.andThen_ok]
     exact qS
   · rw [My,hh]
     have hlt:=aj hb
     apply Array.ext_getElem?
     intro j
     by_cases e1:b=j
     · subst e1
       simp only [Array.getElem?_setIfInBounds_self,Array.size_setIfInBounds,hlt,if_true]
       congr 3
       have e3:o+(i+1)=o+i+1:=by omega
       have e4:o+i+1+vs.length=o+i+(vs.length+1):=by omega
       rw [e3,List.length_cons,List.take_set,List.drop_set_of_lt (by omega),e4]
       have:List.take (o+i+1) cs=List.take (o+i) cs++[cs[o+i]'(by omega)]:=by rw [List.take_succ_eq_append_getElem (by omega)]
       rw [this,List.set_append_right _ _ (by simp;omega)]
       simp only [List.length_take]
       have e5:o+i - min (o+i) cs.length=0:=by omega
       simp [e5]
     · simp [Array.getElem?_setIfInBounds_ne e1]
theorem wA {t:TypeId} {x y:Operand} {b o k:Nat} {cs vs:List Value} {e:TypeId} (hz:∀ w,(sizeOf t).run P w=.ok k w) (hx:f.ev x=some (.pointer (some ⟨b,o,Option.none⟩))) (hy:f.ev y=some (.agg ⟨vs⟩))
   (hk:vs.length=k) (hb:h[b]?=some (.cells ⟨cs⟩ e (0,0))) (ho:o+vs.length≤cs.length) (hv:∀ v∈vs,v.oneCell'=true) :
   eO P f ⟨d,.store t x y,ty,pos,af,g⟩ h (fun u h'=>u=undef∧h'=h.setIfInBounds b (.cells ⟨cs.take o++vs++cs.drop (o+vs.length)⟩ e (0,0))) :=
 fun ρ w ha hw=>by
   subst hw
   obtain ⟨w',hr,hs,hh⟩:=cN (P:=P) b e vs 0 o cs w hb (by omega) hv
   refine ⟨undef,w',hs,⟨rfl,by rw [hh];simp⟩,.inr ⟨?_,rfl⟩⟩
   have hc:(Value.agg ⟨vs⟩).cells=⟨vs⟩:=rfl
   simp [execOp,ha _ _ hx,ha _ _ hy,Instr.storeAt,Instr.sureAddr,storeVar,hz,hc,hk,hr]
theorem yi {t:TypeId} {z:Value} (hz:∀ w,(zeroValue t).run P w=.ok z w) :
   eO P f ⟨d,.alloc t,ty,pos,af,g⟩ h (fun u h'=>u=.pointer (some ⟨h.size,0,Option.none⟩)∧h'=h.push (.cells z.cells t (0,0))) :=
 fun ρ w _ hw=>by
   subst hw
   refine ⟨_,w.alloc (.cells z.cells t (0,0)),⟨rfl,rfl,rfl,trivial⟩,⟨rfl,rfl⟩,.inl ?_⟩
   simp [execOp,Instr.alloc,hz,newVar,newRow,newObj,Sem.run]
theorem Fc {t:TypeId} {x:Operand} {v:Value} (hx:f.ev x=some v) :
   eO P f ⟨d,.box t x,ty,pos,af,g⟩ h (fun u h'=>u=.pointer (some ⟨h.size,0,Option.none⟩)∧h'=h.push (.cells v.cells t (0,0))) :=
 fun ρ w ha hw=>by
   subst hw
   refine ⟨_,w.alloc (.cells v.cells t (0,0)),⟨rfl,rfl,rfl,trivial⟩,⟨rfl,rfl⟩,.inl ?_⟩
   simp [execOp,ha _ _ hx,Instr.box,newVar,newRow,newObj,Sem.run]
theorem yj {t:TypeId} {ps:List (Nat × Operand)} {qs:List (Nat × Value)} {cs:List Value} (hp:ps.map (fun p=>(p.1,f.ev p.2))=qs.map fun q=>(q.1,some q.2)) (hb:P.built t qs=some ⟨cs⟩) :
   bK P f ⟨d,.build t ⟨ps⟩,ty,pos,af,g⟩ h (.agg ⟨cs⟩) :=
 fun ρ w ha _=>by
   have e:ps.map (fun p=>(p.1,ρ p.2))=qs:=by
     clear hb
     induction ps generalizing qs with
     | nil=>cases qs <;> simp_all
     | cons p ps ih =>
       cases qs with
       | nil=>simp at hp
       | cons q qs =>
         simp only [List.map_cons,List.cons.injEq,Prod.mk.injEq] at hp ⊢
         refine ⟨?_,ih hp.2⟩
         rw [hp.1.1,ha _ _ hp.1.2]
   have e2:(Array.map (fun x:Nat × Operand=>(x.fst,ρ x.snd)) ⟨ps⟩)=⟨qs⟩:=by rw [← e];simp
   have:=run_build (P:=P) w t ⟨qs⟩ ⟨cs⟩ hb
   simp [execOp,e2,this]
theorem tc {t:TypeId} :
   eO P f ⟨d,.makeMap t Option.none,ty,pos,af,g⟩ h (fun u h'=>u=.map (some h.size)∧h'=h.push (.map #[] 0)) :=
 fun ρ w _ hw=>by
   subst hw
   refine ⟨_,w.alloc (.map #[] 0),⟨rfl,rfl,rfl,trivial⟩,⟨rfl,rfl⟩,.inl ?_⟩
   simp [execOp,Instr.makeMap,newObj,Sem.run]
theorem cO {fn:Fn} {xs ys:List Operand} {vs us:List Value} (hx:xs.map f.ev=vs.map some) (hy:ys.map f.ev=us.map some) :
   bK P f ⟨d,.makeFunc fn ⟨xs⟩ ⟨ys⟩,ty,pos,af,g⟩ h (.func fn ⟨vs⟩ ⟨us⟩) :=
 fun ρ w ha _=>by
   have key:∀ (xs:List Operand) (vs:List Value),xs.map f.ev=vs.map some→xs.map ρ=vs:=by
     intro xs
     induction xs with
     | nil=>intro vs hv;cases vs <;> simp_all
     | cons x xs ih =>
       intro vs hv
       cases vs with
       | nil=>simp at hv
       | cons v vs =>
         simp only [List.map_cons,List.cons.injEq] at hv ⊢
         exact ⟨ha _ _ hv.1,ih _ hv.2⟩
   have e1:Array.map ρ ⟨xs⟩=⟨vs⟩:=by rw [← key xs vs hx];simp
   have e2:Array.map ρ ⟨ys⟩=⟨us⟩:=by rw [← key ys us hy];simp
   simp [execOp,e1,e2,Instr.makeFunc]
theorem Own.up {v:Value} {e:TypeId} {sz n:Nat} {xs:List Value} {w:World} (r:Own w.heap v e sz n xs):w.ownsRow 0 e sz v n xs:=by
 obtain ⟨hl,r | ⟨g,cap,cur,rfl,hg,r⟩⟩:=r
 · exact ⟨hl,.inl r⟩
 · exact ⟨hl,.inr ⟨g,cap,cur,rfl,Nat.zero_le _,hg,r⟩⟩
theorem Own.down {v:Value} {e:TypeId} {sz n:Nat} {xs:List Value} {w:World} (r:w.ownsRow 0 e sz v n xs):Own w.heap v e sz n xs:=by
 obtain ⟨hl,r | ⟨g,cap,cur,rfl,_,hg,r⟩⟩:=r
 · exact ⟨hl,.inl r⟩
 · exact ⟨hl,.inr ⟨g,cap,cur,rfl,hg,r⟩⟩
theorem aT {x y:Operand} {t e:TypeId} {i:TypeInfo} {z:Value} {sz bytes:Nat} {ts:Array TypeId} (hts:ts=#[t,t]) (ht:P.underlying t=some (.slice e)) (hi:P.info? e=some i) (hz:i.zero=some z) (hsz:i.size=sz) (hby:i.bytes=bytes) (hzs:z.cells.size=sz) (hpos:0 < sz)
   {v u:Value} {n m:Nat} {xs news:List Value} (hx:f.ev x=some v) (hy:f.ev y=some u) (hown:Own h v e sz n xs) (hrd:Rd h u sz m news) (h1:∀ c∈news,c.oneCell'=true)
   (Mz:n+m≤maxLen) (hb:(n+m) * bytes≤140737488355328) :
   eO P f ⟨d,.call { callee:=.builtin .append,args:=#[x,y],argTypes:=ts },ty,pos,af,g⟩ h
     (fun v' h'=>Own h' v' e sz (n+m) (xs++news)∧Ext (fun k=>v.ownBlock=some k) h h'∧(v'.ownBlock=v.ownBlock∨v'.ownBlock=some h.size)) :=
 fun ρ w ha hw=>by
   subst hw
   subst hts
   obtain ⟨A,c,rfl,hc,hl,hp⟩:=hrd
   rcases A with _ | a
   · have hm : m = 0 := by
       rcases Nat.eq_zero_or_pos m with e | e
       · exact e
       · obtain ⟨b,o,e,_⟩:=hp e;cases e
     subst hm
     obtain rfl:news=[]:=List.eq_nil_of_length_eq_zero (by simpa using hl)
     refine ⟨v,w,.refl w,⟨by simpa using hown,.refl _ _,.inl rfl⟩,.inl ?_⟩
     obtain ⟨lu,⟨rfl,rfl⟩ | ⟨g,cap,cur,rfl,hg,hn,r⟩⟩:=hown
     · simp [execOp,resolve,invoke,builtin,ha _ _ hx,ha _ _ hy,Builtin.append_,run_underlying ht,sizeOf,typeInfo,hi,Builtin.lenOf,Builtin.firstCells]
     · simp [execOp,resolve,invoke,builtin,ha _ _ hx,ha _ _ hy,Builtin.append_,run_underlying ht,sizeOf,typeInfo,hi,Builtin.lenOf,Builtin.firstCells,hn,storeCells]
   · have hnews : ∀ j u, news[j]? = some u → w.cell? (a.add j) = some u := by
       intro j u hj
       have hm:0 < m:=by
         rcases Nat.eq_zero_or_pos m with e | e
         · subst e
           have:news=[]:=List.eq_nil_of_length_eq_zero (by simpa using hl)
           subst this
           simp at hj
         · exact e
       obtain ⟨b,o,e,_,hat⟩:=hp hm
       injection e with e
       subst e
       rw [Addr.add_lit]
       exact hat j u hj
     obtain ⟨v',w',hrun,ho',hgr,_,hloc⟩:=run_append_own_at (P:=P) w 0 t ty e i z sz bytes ht hi hz hsz hby hzs hpos v n xs hown.up a m c news hl hnews h1 Mz hb (Nat.zero_le _)
     refine ⟨v',w',⟨hgr.tape,hgr.os,hgr.output,trivial⟩,⟨.down ho',⟨hgr.size,fun k hk hS=>hgr.block k hk (fun e=>hS e.symm)⟩,hloc⟩,.inl ?_⟩
     simp [execOp,resolve,invoke,builtin,ha _ _ hx,ha _ _ hy,hrun]
theorem oC {v:Value} {sz n:Nat} {xs:List Value} (r:Rd h v sz n xs) {l k:Nat} (hl:l≤k) (hk:k≤n) :
   ∃ A c,v=.slice A n c∧Rd h (.slice (if c=l then A else A.map (·.add (l * sz))) (k - l) (c - l)) sz (k - l) ((xs.drop (l * sz)).take ((k - l) * sz)):=by
 obtain ⟨A,c,rfl,hc,hlen,hp⟩:=r
 refine ⟨A,c,rfl,_,_,rfl,by omega,?_,fun hn=>?_⟩
 · rw [List.length_take,List.length_drop,hlen,← Nat.sub_mul]
   exact Nat.min_eq_left (Nat.mul_le_mul_right _ (by omega))
 · obtain ⟨b,o,rfl,hb,hat⟩:=hp (by omega)
   refine ⟨b,o+l * sz,?_,hb,(hat.drop _).take _⟩
   rw [if_neg (by omega)]
   simp [Addr.add_lit]
theorem qY {t e:TypeId} {x lo hi:Operand} {A:Option Addr} {n c sz:Nat} {l k:Int} (ht:P.underlying t=some (.slice e)) (hz:∀ w,(sizeOf e).run P w=.ok sz w) (hx:f.ev x=some (.slice A n c)) (hlo:f.ev lo=some (In l)) (hhi:f.ev hi=some (In k)) (h0:0≤l∧l≤k∧k≤c) :
   bK P f ⟨d,.slice t x (some lo) (some hi) Option.none,ty,pos,af,g⟩ h (.slice (if c=l.toNat then A else A.map (·.add (l.toNat * sz))) (k.toNat - l.toNat) (c - l.toNat)) :=
 fun ρ w ha _=>by
   have e:(k.toNat:Int)=k:=Int.toNat_of_nonneg (by omega)
   have e1:(0≤l∧l≤k):=⟨h0.1,h0.2.1⟩
   have e2:(0≤k∧k≤(c:Int)):=⟨by omega,h0.2.2⟩
   simp [execOp,ha _ _ hx,ha _ _ hlo,ha _ _ hhi,Instr.sliceAt,Instr.slice,run_underlying ht,Instr.sliceBounds,Instr.sliceBound,asIntOf,e1,e2,e,hz]
theorem na {t e:TypeId} {x hi:Operand} {A:Option Addr} {n c sz:Nat} {k:Int} (ht:P.underlying t=some (.slice e)) (hz:∀ w,(sizeOf e).run P w=.ok sz w) (hx:f.ev x=some (.slice A n c)) (hhi:f.ev hi=some (In k)) (h0:0≤k∧k≤c) :
   bK P f ⟨d,.slice t x Option.none (some hi) Option.none,ty,pos,af,g⟩ h (.slice A k.toNat c) :=
 fun ρ w ha _=>by
   by_cases Hj:c=0
   · subst Hj
     obtain rfl:k=0:=by omega
     simp [execOp,ha _ _ hx,ha _ _ hhi,Instr.sliceAt,Instr.slice,run_underlying ht,Instr.sliceBounds,Instr.sliceBound,asIntOf,hz]
   · cases A <;> simp [execOp,ha _ _ hx,ha _ _ hhi,Instr.sliceAt,Instr.slice,run_underlying ht,Instr.sliceBounds,Instr.sliceBound,asIntOf,h0,hz,Addr.add_zero']
theorem td {t e:TypeId} {x lo:Operand} {A:Option Addr} {n c sz:Nat} {l:Int} (ht:P.underlying t=some (.slice e)) (hz:∀ w,(sizeOf e).run P w=.ok sz w) (hx:f.ev x=some (.slice A n c)) (hlo:f.ev lo=some (In l)) (h0:0≤l∧l≤n) :
   bK P f ⟨d,.slice t x (some lo) Option.none Option.none,ty,pos,af,g⟩ h (.slice (if c=l.toNat then A else A.map (·.add (l.toNat * sz))) (n - l.toNat) (c - l.toNat)) :=
 fun ρ w ha _=>by
   simp [execOp,ha _ _ hx,ha _ _ hlo,Instr.sliceAt,Instr.slice,run_underlying ht,Instr.sliceBounds,Instr.sliceBound,asIntOf,h0,hz]
end
section
variable {P:Program} {n:Env} {f:Fr} {h:ah}
def gH (P:Program) (h:ah) (f:Fr):List ResultVar→List Value→Prop
 | [],[]=>True
 | .tmp t :: r,v :: vs=>f.get t=some v∧gH P h f r vs
 | .cell t ty :: r,v :: vs=>(∃ a,f.get t=some (.pointer (some a))∧∀ w:World,w.heap=h→(loadVar ty a).run P w=.ok v w)∧gH P h f r vs
 | _,_=>False
def Jq:List Value→Value
 | [v]=>v
 | vs=>.tuple ⟨vs⟩
def wB (P:Program) (fn:Func) (R:Value→ah→Prop):eV
 | .normal,f,h | .ret,f,h=>∃ vs,gH P h f fn.results.toList vs∧R (Jq vs) h
 | _,_,_=>False
theorem jF {α:Type} (F:α→Sem Value) {w:World}:∀ (rs:List α) (vs:List Value),rs.length=vs.length→(∀ (i:Nat) (r:α) (v:Value),rs[i]?=some r→vs[i]?=some v→(F r).run P w=.ok v w)→(rs.mapM F).run P w=.ok vs w
 | [],[],_,_=>by simp
 | r :: rs,v :: vs,hl,hr=>by
   have h1:=hr 0 r v rfl rfl
   have h2:=jF F rs vs (by simpa using hl) (fun i r v h1 h2=>hr (i+1) r v (by simpa using h1) (by simpa using h2))
   simp [List.mapM_cons,h1,h2]
 | [],_ :: _,hl,_=>by simp at hl
 | _ :: _,[],hl,_=>by simp at hl
theorem gH.len:∀ (rs:List ResultVar) (vs:List Value),gH P h f rs vs→rs.length=vs.length
 | [],[],_=>rfl
 | .tmp t :: rs,v :: vs,hr=>by simp [gH.len rs vs hr.2]
 | .cell t ty :: rs,v :: vs,hr=>by simp [gH.len rs vs hr.2]
 | [],_ :: _,hr=>hr.elim
 | .tmp _ :: _,[],hr=>hr.elim
 | .cell _ _ :: _,[],hr=>hr.elim
theorem gH.get:∀ (rs:List ResultVar) (vs:List Value),gH P h f rs vs→∀ (i:Nat) (r:ResultVar) (v:Value),rs[i]?=some r→vs[i]?=some v→gH P h f [r] [v]
 | .tmp t :: rs,v :: vs,hr,0,r,u,h1,h2=>by simp at h1 h2;subst h1;subst h2;exact ⟨hr.1,trivial⟩
 | .cell t ty :: rs,v :: vs,hr,0,r,u,h1,h2=>by simp at h1 h2;subst h1;subst h2;exact ⟨hr.1,trivial⟩
 | .tmp t :: rs,v :: vs,hr,i+1,r,u,h1,h2=>gH.get rs vs hr.2 i r u (by simpa using h1) (by simpa using h2)
 | .cell t ty :: rs,v :: vs,hr,i+1,r,u,h1,h2=>gH.get rs vs hr.2 i r u (by simpa using h1) (by simpa using h2)
 | [],_,_,i,r,u,h1,_=>by simp at h1
 | .tmp _ :: _,[],hr,_,_,_,_,_=>hr.elim
 | .cell _ _ :: _,[],hr,_,_,_,_,_=>hr.elim
theorem lY {fn:Func} {a:Act} (ha:j7 n a f) {w:World} (hw:w.heap=h) {vs:List Value} (hr:gH P h f fn.results.toList vs):(results fn a.tmps).run P w=.ok (Jq vs) w:=by
 have h1:=jF (P:=P) (fun r:ResultVar=>match r with | .tmp t=>(pure (a.tmps.getD t undef):Sem Value) | .cell p t=>do loadVar t (← asAddr (a.tmps.getD p undef))) (w:=w) fn.results.toList vs (gH.len _ _ hr) (fun i r v hi hv=>by
   have qT:=gH.get _ _ hr i r v hi hv
   cases r with
   | tmp t =>
     have h1:=ha.at_ _ _ qT.1
     simp [h1]
   | cell t ty =>
     obtain ⟨⟨p,hp,hl⟩,_⟩:=qT
     have h1:=ha.at_ _ _ hp
     simp [h1,asAddr,hl w hw])
 unfold results
 rw [Array.mapM_eq_mapM_toList]
 simp only [Sem.run_bind,Sem.run_map]
 refine Eq.trans (congrArg (fun r=>Result.andThen r _) (congrArg (fun r=>Result.andThen r _) h1)) ?_
 simp only [Result.andThen_ok,Sem.run_pure]
 congr 1
 match vs with
 | []=>rfl
 | [v]=>rfl
 | v :: u :: r=>simp [Jq]
theorem te {α:Type} {xs:Array α} {i:Nat} {x:α} (hx:xs[i]?=some x):i < xs.size:=(Array.getElem?_eq_some_iff.1 hx).1
theorem wC {m:Nat} {fn:Func} {args:List Value} {f0:Fr} (hn:fn.ntmps=m) (hle:args.length≤m) (ha:E7 f0 args) :
   j7 ⟨m,[],Option.none⟩ { tmps:=(⟨args⟩:Array Value)++Array.replicate (fn.ntmps - (⟨args⟩:Array Value).size) undef,defers:=[] } f0:=by
 refine ⟨by simp [hn];omega,rfl,?_⟩
 induction f0 with
 | nil=>intro t v hv;cases hv
 | cons p r ih =>
   obtain ⟨t0,v0⟩:=p
   intro t v hv
   rw [Fr.j8] at hv
   by_cases e:t0=t
   · subst e
     rw [if_pos rfl] at hv
     injection hv with hv
     subst hv
     have h1:(⟨args⟩:Array Value)[t0]?=some v0:=by simpa using ha.1
     rw [Array.getElem?_append_left (te h1)]
     exact h1
   · rw [if_neg e] at hv
     exact ih ha.2 t v hv
theorem calls {m:Nat} {k:FuncId} {fn:Func} {c:Code} {args:List Value} {R:Value→ah→Prop} (f0:Fr) (hf:P.funcs[k]?=some fn) (hb:fn.body=some c) (hn:fn.ntmps=m) (hsz:Nat.ble args.length m=true) (ha:E7 f0 args)
   (hc:WC P ⟨m,[],Option.none⟩ c (wB P fn R) f0 h):ag P k ⟨args⟩ h R:=by
 intro w hw
 refine calls_of_wp hf hb ?_
 have hle:args.length≤m:=by simpa [Nat.ble_eq] using hsz
 have hrep:j7 ⟨m,[],Option.none⟩ { tmps:=(⟨args⟩:Array Value)++Array.replicate (fn.ntmps - (⟨args⟩:Array Value).size) undef,defers:=[] } f0:=wC hn hle ha
 refine Go.wp_mono (wpIn_wide.1 (hc _ w hrep hw)) ?_
 rintro e a w' ⟨hl,hs,g,hg,hq⟩
 cases e with
 | normal =>
   obtain ⟨vs,hr,hR⟩:=hq
   exact ⟨hg.defers,_,lY hg rfl hr,hs,_,rfl,hR⟩
 | ret =>
   obtain ⟨vs,hr,hR⟩:=hq
   exact ⟨hg.defers,_,lY hg rfl hr,hs,_,rfl,hR⟩
 | _=>exact hq.elim
end
section
variable {P:Program} {n:Env} {Q:eV} {f:Fr} {h:ah} {l0 rest:List Oper} {C:ah→Prop}
def WQ (P:Program) (n:Env) (l0 l:List Oper) (C:ah→Prop) (K:Fr→Prop) (f:Fr):Prop :=
 ∀ (a:Act) (w0:World),j7 n a f→wpQuiet P l0.toArray (fun w=>eE w0 w∧C w.heap) (fun a'=>∃ g,j7 n a' g∧K g) l a
theorem fy {ops:Array Oper} {C:World→Prop} {Q Q':Act→Prop} (hQ:∀ a,Q a→Q' a):∀ (l:List Oper) (a:Act),wpQuiet P ops C Q l a→wpQuiet P ops C Q' l a
 | [],a,hq=>hQ a hq
 | o :: l,a,hq=>by
   unfold wpQuiet at hq ⊢
   split
   · rename_i hw
     rw [if_pos hw] at hq
     obtain ⟨v,h1,h2⟩:=hq
     exact ⟨v,h1,fy hQ l _ h2⟩
   · rename_i hw
     rw [if_neg hw] at hq
     exact fy hQ l _ hq
theorem WC.draw {id:Nat} {l:List Oper} (C:ah→Prop) (hm:P.follows .mixedOrders=true) (hB:Region.lexB .any l.toArray=true) (hC:C h)
   (hq:WQ P n l l C (fun g=>∀ h',C h'→Q .normal g h') f) (hd:n.ro=Option.none∨jE l=true:=by first | exact .inl rfl | exact .inr rfl):WC P n (.region id l.toArray true) Q f h:=by
 intro a w ha hw
 refine sZ (by simpa using hd) cX.shut hm ?_
 simp only [Region.lexB,Bool.and_eq_true] at hB
 refine wpAny_of_quiet (C:=fun w'=>eE w w'∧C w'.heap) (Q:=fun a'=>∀ w',(eE w w'∧C w'.heap)→cX n Q w .normal a' w') (fun _ w' hw' h=>h w' hw') _ _ _ _ ⟨⟨rfl,rfl,rfl,trivial⟩,by rw [← hw] at hC;exact hC⟩ ?_
 have h1:=fy (Q':=fun a'=>∀ w',(eE w w'∧C w'.heap)→cX n Q w .normal a' w') (by
   rintro a' ⟨g,hg,hk⟩ w' ⟨hs,hc⟩
   exact ⟨rfl,hs,g,hg,hk _ hc⟩) _ _ (hq a w ha)
 have:=wpAnyQ_lex (P:=P) (C:=fun w'=>eE w w'∧C w'.heap) (md:=.any) hB.1 l 0 (Array.replicate l.toArray.size false) a (by simp) (by simpa using hB.2) h1
 simpa using this
variable {K:Fr→Prop}
theorem WQ.nil (hk:K f):WQ P n l0 [] C K f:=fun _ _ ha=>⟨f,ha,hk⟩
theorem WQ.step {o:Oper} {v:Value} {t:Nat} (hok:∀ h,C h→bK P f o h v) (hg:goes f l0 o=true) (hd:o.dst=some t) (ht:Nat.blt t n.n=true) (hk:WQ P n l0 rest C K ((t,v) :: f)):WQ P n l0 (o :: rest) C K f:=by
 intro a w0 ha
 refine wpQuiet_step fun K' hK'=>?_
 rw [if_pos (cE ha hg)]
 refine ⟨v,fun w hw=>?_,?_⟩
 · unfold Oper.quietAt
   rw [hok _ hw.2 _ w ha.eU rfl]
   exact ⟨rfl,rfl⟩
 · rw [hd];exact hK' _ (hk _ w0 (ha.put ht _))
theorem WQ.pass {o:Oper} {t:Nat} (hg:stops f l0 o=true) (hd:o.dst=some t) (ht:Nat.blt t n.n=true) (hk:WQ P n l0 rest C K ((t,undef) :: f)):WQ P n l0 (o :: rest) C K f:=by
 intro a w0 ha
 refine wpQuiet_step fun K' hK'=>?_
 rw [if_neg (by rw [fv ha hg];exact Bool.false_ne_true),hd]
 exact hK' _ (hk _ w0 (ha.put ht _))
theorem WQ.part {l:List Oper} (t:Nat) {b:Bool} (hb:f.get t=some (.bool b)) (h1:b=true→WQ P n l0 l C K ((t,.bool true) :: f)) (h2:b=false→WQ P n l0 l C K ((t,.bool false) :: f)):WQ P n l0 l C K f:=by
 cases b
 · exact fun a w ha=>h2 rfl a w (ha.jj hb)
 · exact fun a w ha=>h1 rfl a w (ha.jj hb)
theorem WQ.call {o:Oper} {t:Nat} {k:FuncId} {xs:List Operand} {vs:List Value} {ts:Array TypeId} {v:Value} (ho:o.op=.call { callee:=.value (.func k),args:=⟨xs⟩,argTypes:=ts })
   (hc:∀ (args:Array Value) (w:World),(callFunc k args).run P w=.ok (.enter k args) w)
   (hx:xs.map f.ev=vs.map some) (hR:∀ h,C h→ag P k ⟨vs⟩ h (fun u h'=>u=v∧C h')) (hg:goes f l0 o=true) (hd:o.dst=some t) (ht:Nat.blt t n.n=true) (hk:WQ P n l0 rest C K ((t,v) :: f)):WQ P n l0 (o :: rest) C K f:=by
 intro a w0 ha
 refine wpQuiet_step fun K' hK'=>?_
 rw [if_pos (cE ha hg)]
 have hargs:xs.map a.eval=vs:=by
   clear ho hR
   induction xs generalizing vs with
   | nil=>cases vs <;> simp_all
   | cons x xs ih =>
     cases vs with
     | nil=>simp at hx
     | cons v vs =>
       simp only [List.map_cons,List.cons.injEq] at hx ⊢
       exact ⟨ha.eU _ _ hx.1,ih hx.2⟩
 refine ⟨v,fun w hw=>?_,?_⟩
 · unfold Oper.quietAt
   have e2:Array.map a.eval ⟨xs⟩=⟨vs⟩:=by rw [← hargs];simp
   have hrun:(execOp a.eval o).run P w=.ok (.enter k ⟨vs⟩) w:=by
     simp [execOp,ho,resolve,Deferred.ofValue,invoke,Act.eval,e2,hc]
   rw [hrun]
   refine ⟨rfl,(hR _ hw.2 w rfl).mono ?_⟩
   rintro e w' ⟨hs,u,he,hu,hc'⟩
   exact ⟨by rw [he,hu],hw.1.trans hs,hc'⟩
 · rw [hd];exact hK' _ (hk _ w0 (ha.put ht _))
end
end Go.RK
namespace Go.RK
open Go Go.MapKept
structure Br (i:Nat) (p:Prop):Prop where
 out:p
theorem Br.ab {i:Nat} {p:Prop} (h:Br i p):Br i p:=h
section
variable {P:Program} {n:Env} {Q:eV} {f:Fr} {h:ah} {K:Fr→ah→Prop}
theorem aS (hk:K f h):lX K Q .normal f h:=hk
theorem aU {i:Nat} (hk:Q (.exit i) f h):lX K Q (.exit i) f h:=hk
theorem ba (hk:Q .ret f h):lX K Q .ret f h:=hk
theorem aL {id:Nat} (hk:Q .normal f h):iP id Q .normal f h:=hk
theorem aV {id:Nat} (hk:Q .ret f h):iP id Q .ret f h:=hk
theorem aI {id:Nat} (hk:Q .normal f h):iP id Q (.exit id) f h:=by simp only [iP,if_true];exact hk
theorem aG {id i:Nat} (hne:Nat.beq i id=false) (hk:Q (.exit i) f h):iP id Q (.exit i) f h:=by
 have e:i ≠ id:=fun e=>by rw [e,Nat.beq_refl] at hne;cases hne
 simp only [iP,if_neg e]
 exact hk
theorem WC.HB {c:Operand} {x y:Code} {b:Bool} (i j:Nat) (hc:f.ev c=some (.bool b)) (ht:b=true→Br i (WC P n x Q f h)) (hf:b=false→Br j (WC P n y Q f h)):WC P n (.cond c x y) Q f h :=
 .cond hc (fun e=>(ht e).out) (fun e=>(hf e).out)
theorem WC.Cu {c:Operand} {x y:Code} (i:Nat) (hc:f.ev c=some (.bool true)) (ht:Br i (WC P n x Q f h)):WC P n (.cond c x y) Q f h:=.E8 hc ht.out
theorem WC.Cv {c:Operand} {x y:Code} (j:Nat) (hc:f.ev c=some (.bool false)) (hf:Br j (WC P n y Q f h)):WC P n (.cond c x y) Q f h:=.E9 hc hf.out
theorem WC.bC {X:Type} {c:Code} (G:X→Fr) (fx:Fr) (I:X→ah→Prop) (μ:X→Nat) (x0:X) (hs:nY (G x0++fx) f) (h0:I x0 h)
   (round:∀ x h,I x h→WC P n c (lX (fun f' h'=>∃ x',nY (G x'++fx) f'∧I x' h'∧μ x' < μ x) Q) (G x++fx) h):WC P n (.loop c) Q f h :=
 .loop (fun x=>G x++fx) I μ x0 hs h0 round
theorem bY {fn:Func} {R:Value→ah→Prop} (v:Value) (hr:gH P h f fn.results.toList [v]) (hR:R v h):wB P fn R .ret f h:=⟨[v],hr,hR⟩
theorem dY {fn:Func} {R:Value→ah→Prop} (v u:Value) (hr:gH P h f fn.results.toList [v,u]) (hR:R (.tuple ⟨[v,u]⟩) h):wB P fn R .ret f h:=⟨[v,u],hr,hR⟩
theorem pz {fn:Func} {R:Value→ah→Prop} (v u x:Value) (hr:gH P h f fn.results.toList [v,u,x]) (hR:R (.tuple ⟨[v,u,x]⟩) h):wB P fn R .ret f h:=⟨[v,u,x],hr,hR⟩
theorem Fe {fn:Func} {R:Value→ah→Prop} (hr:gH P h f fn.results.toList []) (hR:R (.tuple ⟨[]⟩) h):wB P fn R .ret f h:=⟨[],hr,hR⟩
theorem fa {fn:Func} {R:Value→ah→Prop} (vs:List Value) (hr:gH P h f fn.results.toList vs) (hR:R (Jq vs) h):wB P fn R .normal f h:=⟨vs,hr,hR⟩
theorem Rd.at_ {A:Option Addr} {k c sz:Nat} {xs:List Value} (r:Rd h (.slice A k c) sz k xs) (hn:0 < k):∃ b o,A=some ⟨b,o,Option.none⟩∧b < h.size∧At h b o xs:=by
 obtain ⟨A',c',e,_,_,hp⟩:=r
 injection e with e1 e2 e3
 subst e1
 exact hp hn
theorem At.get {b o p:Nat} {vs:List Value} {v:Value} (ha:At h b o vs) (j:Nat) (hj:vs[j]?=some v) (hp:p=o+j):cell h ⟨b,p,Option.none⟩=some v:=by subst hp;exact ha j v hj
theorem aF {d:Option Tmp} {ty:TypeId} {pos:String} {af:Array Edge} {g:Option (Nat × Bool)} {t e:TypeId} {x y:Operand} {A:Option Addr} {b o l c sz k:Nat} {kd:IntKind} {i:Int} (hu:P.underlying t=some (.slice e)) (hz:∀ w,(sizeOf e).run P w=.ok sz w)
   (hx:f.ev x=some (.slice A l c)) (hy:f.ev y=some (.int kd i)) (hi:i=(k:Int)) (hk:k < l) (hA:A=some ⟨b,o,Option.none⟩) :
   bK P f ⟨d,.indexAddr t x y,ty,pos,af,g⟩ h (.pointer (some ⟨b,o+k * sz,Option.none⟩)):=by
 subst hA
 subst hi
 exact tb hu hz hx hy ⟨by omega,by omega⟩
end
structure hJ (κ:Type) (d:TypeDesc) (enc:κ→Value):Prop where
 key:∀ k,IsKey d (enc k)
 inj:∀ a b,enc a=enc b→a=b
theorem fJ:hJ (List UInt8) .string St:=⟨fun _=>trivial,fun a b e=>by
 simp only [St,Value.string.injEq,ByteArray.mk.injEq,Array.mk.injEq] at e
 exact e⟩
section
variable {κ:Type} [DecidableEq κ]
def cY (es:List (κ × Value)) (k:κ):Option Value:=(es.find? fun p=>decide (p.1=k)).map (·.2)
def tf (es:List (κ × Value)) (k:κ) (v:Value):List (κ × Value) :=
 if (cY es k).isSome then es.map (fun p=>if p.1=k then (k,v) else p) else es++[(k,v)]
def mq (es:List (κ × Value)) (k:κ):List (κ × Value):=es.filter fun p=>decide (p.1 ≠ k)
end
def Mp {κ:Type} (_d:TypeDesc) (enc:κ→Value) (h:ah) (m:Nat) (es:List (κ × Value)):Prop :=
 ∃ arr clock,h[m]?=some (.map arr clock)∧Stamped arr clock∧arr.toList.map (fun e=>(e.key,e.val))=es.map fun p=>(enc p.1,p.2)
section
variable {κ:Type} [DecidableEq κ] {d:TypeDesc} {enc:κ→Value} {h h':ah} {m:Nat} {es:List (κ × Value)}
omit [DecidableEq κ] in
theorem Mp.lt (hm:Mp d enc h m es):m < h.size:=by
 obtain ⟨arr,clock,hb,_⟩:=hm
 exact aj hb
omit [DecidableEq κ] in
theorem Mp.ext {S:Nat→Prop} (hm:Mp d enc h m es) (a:Ext S h h') (hS:¬ S m):Mp d enc h' m es:=by
 obtain ⟨arr,clock,hb,r⟩:=hm
 exact ⟨arr,clock,a.obj hb hS,r⟩
omit [DecidableEq κ] in
theorem Mp.new (h:ah):Mp d enc (h.push (.map #[] 0)) h.size ([]:List (κ × Value)):=⟨#[],0,mZ _ _,stamped_empty 0,rfl⟩
omit [DecidableEq κ] in
theorem pA {l:List κ} (h1:(l.map enc).Nodup):l.Nodup:=by
 induction l with
 | nil=>simp
 | cons a l ih =>
   simp only [List.map_cons,List.nodup_cons,List.mem_map,not_exists,not_and] at h1 ⊢
   exact ⟨fun ha=>h1.1 a ha rfl,ih h1.2⟩
omit [DecidableEq κ] in
theorem Mp.nodup (_E:hJ κ d enc) (hm:Mp d enc h m es):(es.map (·.1)).Nodup:=by
 obtain ⟨arr,clock,hb,hs,he⟩:=hm
 have h1:(arr.toList.map (·.key)).Nodup:=hs.2.2
 have h2:arr.toList.map (·.key)=(es.map (·.1)).map enc:=by
   have:=congrArg (List.map (·.1)) he
   simpa [List.map_map,Function.comp_def] using this
 rw [h2] at h1
 exact pA h1
theorem hU (E:hJ κ d enc) {l:List MapEntry} (he:l.map (fun e=>(e.key,e.val))=es.map fun p=>(enc p.1,p.2)) (k:κ) :
   (Instr.findNow d (enc k) l 0=some none∧cY es k=Option.none∧∀ x∈l,x.key ≠ enc k) ∨
   ∃ j v e,Instr.findNow d (enc k) l 0=some (some (j,v))∧cY es k=some v∧l[j]?=some e∧e.key=enc k∧e.val=v∧j < l.length:=by
 have key : ∀ (l : List MapEntry) (es : List (κ × Value)) (i : Nat), l.map (fun e => (e.key, e.val)) = es.map (fun p => (enc p.1, p.2)) →
     (Instr.findNow d (enc k) l i=some none∧cY es k=Option.none∧∀ x∈l,x.key ≠ enc k) ∨
     ∃ j v e,Instr.findNow d (enc k) l i=some (some (i+j,v))∧cY es k=some v∧l[j]?=some e∧e.key=enc k∧e.val=v∧j < l.length:=by
   intro l
   induction l with
   | nil =>
     intro es i he
     have:es=[]:=by simpa using he.symm
     subst this
     exact .inl ⟨rfl,rfl,by simp⟩
   | cons e l ih =>
     intro es i he
     cases es with
     | nil=>simp at he
     | cons p es =>
       simp only [List.map_cons,List.cons.injEq,Prod.mk.injEq] at he
       obtain ⟨⟨hk,hv⟩,he⟩:=he
       obtain ⟨r,hr,hiff⟩:=sameNow_of_keys (E.key k) (show IsKey d e.key by rw [hk];exact E.key _)
       cases r with
       | true =>
         have e1:enc k=e.key:=hiff.1 rfl
         have e2:p.1=k:=E.inj _ _ (by rw [← hk,e1])
         exact .inr ⟨0,e.val,e,by simp [Instr.findNow,hr],by simp [cY,e2,hv],rfl,e1.symm,rfl,by simp⟩
       | false =>
         have e1:e.key ≠ enc k:=fun q=>by have:=hiff.2 q.symm;cases this
         have e2:p.1 ≠ k:=fun q=>e1 (by rw [hk,q])
         rcases ih es (i+1) he with ⟨h1,h2,h3⟩ | ⟨j,v,e',h1,h2,h3,h4,h5,h6⟩
         · exact .inl ⟨by simp [Instr.findNow, hr, h1], by simpa [cY, e2] using h2, fun x hx => by
             rcases List.mem_cons.1 hx with rfl | hx
             · exact e1
             · exact h3 x hx⟩
         · exact .inr ⟨j+1,v,e',by simp [Instr.findNow,hr,h1];omega,by simpa [cY,e2] using h2,by simpa using h3,h4,h5,by simp;omega⟩
 have:=key l es 0 he
 simpa using this
variable {P:Program} {f:Fr} {dd:Option Tmp} {ty:TypeId} {pos:String} {af:Array Edge} {g:Option (Nat × Bool)}
theorem gI {t kt et:TypeId} {x y:Operand} {k:κ} {v:Value} (E:hJ κ d enc) (hu:P.underlying t=some (.map kt et)) (hd:P.underlying kt=some d) (hx:f.ev x=some (.map (some m))) (hy:f.ev y=some (enc k)) (hm:Mp d enc h m es) (hv:cY es k=some v) :
   bK P f ⟨dd,.lookup t x y true,ty,pos,af,g⟩ h (.tuple ⟨[v,.bool true]⟩)∧bK P f ⟨dd,.lookup t x y false,ty,pos,af,g⟩ h v:=by
 have key:∀ (ρ:Operand→Value) (w:World) (c:Bool),lq ρ f→w.heap=h→(execOp ρ ⟨dd,.lookup t x y c,ty,pos,af,g⟩).run P w=.ok (.value (if c then .tuple ⟨[v,.bool true]⟩ else v)) w:=by
   intro ρ w c ha hw
   subst hw
   obtain ⟨arr,clock,hb,_,he⟩:=hm
   rcases hU E he k with ⟨h1,h2,_⟩ | ⟨j,v',e,h1,h2,_⟩
   · rw [hv] at h2;cases h2
   · rw [hv] at h2;injection h2 with h2;subst h2
     simp [execOp,ha _ _ hx,ha _ _ hy,Instr.lookup,run_underlying hu,MapKept.run_getObj_map hb,run_checkKey hd (E.key k),run_findKey hd h1]
 exact ⟨fun ρ w ha hw=>key ρ w true ha hw,fun ρ w ha hw=>key ρ w false ha hw⟩
theorem du {t kt et:TypeId} {x y:Operand} {k:κ} {z:Value} (E:hJ κ d enc) (hu:P.underlying t=some (.map kt et)) (hd:P.underlying kt=some d) (hz:∀ w,(zeroValue et).run P w=.ok z w) (hx:f.ev x=some (.map (some m))) (hy:f.ev y=some (enc k)) (hm:Mp d enc h m es) (hv:cY es k=Option.none) :
   bK P f ⟨dd,.lookup t x y true,ty,pos,af,g⟩ h (.tuple ⟨[z,.bool false]⟩)∧bK P f ⟨dd,.lookup t x y false,ty,pos,af,g⟩ h z:=by
 have key:∀ (ρ:Operand→Value) (w:World) (c:Bool),lq ρ f→w.heap=h→(execOp ρ ⟨dd,.lookup t x y c,ty,pos,af,g⟩).run P w=.ok (.value (if c then .tuple ⟨[z,.bool false]⟩ else z)) w:=by
   intro ρ w c ha hw
   subst hw
   obtain ⟨arr,clock,hb,_,he⟩:=hm
   rcases hU E he k with ⟨h1,h2,_⟩ | ⟨j,v',e,h1,h2,_⟩
   · simp [execOp,ha _ _ hx,ha _ _ hy,Instr.lookup,run_underlying hu,MapKept.run_getObj_map hb,run_checkKey hd (E.key k),run_findKey hd h1,hz]
   · rw [hv] at h2;cases h2
 exact ⟨fun ρ w ha hw=>key ρ w true ha hw,fun ρ w ha hw=>key ρ w false ha hw⟩
theorem yl {arr:Array MapEntry} (E:hJ κ d enc) (he:arr.toList.map (fun e=>(e.key,e.val))=es.map fun p=>(enc p.1,p.2)) (hnd:(arr.toList.map (·.key)).Nodup) {k:κ} {v v0:Value} {j:Nat} {e:MapEntry} (hv:cY es k=some v0) (hj:arr.toList[j]?=some e) (hk:e.key=enc k) :
   (arr.modify j fun e=>{ e with key:=enc k,val:=v }).toList.map (fun e=>(e.key,e.val))=(tf es k v).map fun p=>(enc p.1,p.2):=by
 unfold tf
 rw [hv]
 simp only [Option.isSome_some,if_true,List.map_map]
 apply List.ext_getElem?
 intro i
 have h0:arr.toList[i]?.map (fun e=>(e.key,e.val))=es[i]?.map (fun p=>(enc p.1,p.2)):=by
   have:=congrArg (fun l=>l[i]?) he
   simpa using this
 simp only [List.getElem?_map,Array.getElem?_toList,Array.getElem?_modify,Function.comp_def] at h0 hj ⊢
 by_cases e1:j=i
 · subst e1
   rw [if_pos rfl,hj]
   rw [hj] at h0
   cases hp:es[j]? with
   | none=>rw [hp] at h0;cases h0
   | some p =>
     rw [hp] at h0
     simp only [Option.map_some,Option.some.injEq,Prod.mk.injEq] at h0 ⊢
     have:p.1=k:=E.inj _ _ (by rw [← h0.1,hk])
     rw [if_pos this]
     exact ⟨rfl,rfl⟩
 · rw [if_neg e1]
   cases hp:es[i]? with
   | none=>rw [hp] at h0;simpa using h0
   | some p =>
     rw [hp] at h0
     cases ha:arr[i]? with
     | none=>rw [ha] at h0;cases h0
     | some a =>
       rw [ha] at h0
       simp only [Option.map_some,Option.some.injEq,Prod.mk.injEq] at h0 ⊢
       have:p.1 ≠ k:=fun q=>by
         have ha':arr.toList[i]?=some a:=by simpa using ha
         have hj':arr.toList[j]?=some e:=by simpa using hj
         have hki:a.key=e.key:=by rw [h0.1,q,hk]
         have h1:(arr.toList.map (·.key))[i]?=some a.key:=by simp [ha]
         have h2:(arr.toList.map (·.key))[j]?=some a.key:=by simp [hj,hki]
         have hi:=(List.getElem?_eq_some_iff.1 h1).1
         exact e1 (((List.getElem?_inj hi hnd).1 (h1.trans h2.symm)).symm)
       rw [if_neg this]
       exact h0
theorem hX {t kt et:TypeId} {x y z:Operand} {k:κ} {v:Value} (E:hJ κ d enc) (hu:P.underlying t=some (.map kt et)) (hd:P.underlying kt=some d) (hx:f.ev x=some (.map (some m))) (hy:f.ev y=some (enc k)) (hz:f.ev z=some v) (hm:Mp d enc h m es) :
   eO P f ⟨dd,.mapUpdate t x y z,ty,pos,af,g⟩ h (fun _ h'=>Mp d enc h' m (tf es k v)∧Ext (fun b=>b=m) h h') :=
 fun ρ w ha hw=>by
   subst hw
   obtain ⟨arr,clock,hb,hs,he⟩:=hm
   rcases hU E he k with ⟨h1,h2,h3⟩ | ⟨j,v0,e,h1,h2,h3,h4,h5,h6⟩
   · refine ⟨undef,{ w with heap:=w.heap.setIfInBounds m (.map (arr.push { key:=enc k,val:=v,born:=clock }) (clock+1)) },⟨rfl,rfl,rfl,trivial⟩,⟨⟨_,_,dI hb,stamped_push hs h3,?_⟩,.set _ _ _ rfl⟩,.inr ⟨?_,rfl⟩⟩
     · simp [tf,h2,he]
     · simp [execOp,ha _ _ hx,ha _ _ hy,ha _ _ hz,Instr.mapUpdate,run_underlying hu,MapKept.run_getObj_map hb,run_checkKey hd (E.key k),run_findKey hd h1,MapKept.run_setObj_map _ hb]
   · have hj:arr[j]?=some e:=by simpa using h3
     have hkey:∀ e',arr[j]?=some e'→({ e' with key:=enc k,val:=v }:MapEntry).key=e'.key:=fun e' he'=>by rw [hj] at he';cases he';exact h4.symm
     refine ⟨undef,{ w with heap:=w.heap.setIfInBounds m (.map (arr.modify j fun e=>{ e with key:=enc k,val:=v }) clock) },⟨rfl,rfl,rfl,trivial⟩,⟨⟨_,_,dI hb,stamped_modify hs _ _ (fun _ _=>rfl) (fun e' _ he'=>hkey e' he'),yl E he hs.2.2 h2 h3 h4⟩,.set _ _ _ rfl⟩,.inr ⟨?_,rfl⟩⟩
     simp [execOp,ha _ _ hx,ha _ _ hy,ha _ _ hz,Instr.mapUpdate,run_underlying hu,MapKept.run_getObj_map hb,run_checkKey hd (E.key k),run_findKey hd h1,hj,h4,run_keyThatStays (E.key k),MapKept.run_setObj_map _ hb]
theorem ym {arr:Array MapEntry} (E:hJ κ d enc) (he:arr.toList.map (fun e=>(e.key,e.val))=es.map fun p=>(enc p.1,p.2)) (hnd:(arr.toList.map (·.key)).Nodup) {k:κ} {j:Nat} {e:MapEntry} (hj:arr.toList[j]?=some e) (hk:e.key=enc k) :
   (arr.eraseIdxIfInBounds j).toList.map (fun e=>(e.key,e.val))=(mq es k).map fun p=>(enc p.1,p.2):=by
 have hlt:j < arr.size:=by simpa using (List.getElem?_eq_some_iff.1 hj).1
 unfold Array.eraseIdxIfInBounds
 rw [dif_pos hlt,Array.toList_eraseIdx]
 have key : ∀ (l : List MapEntry) (es : List (κ × Value)) (j : Nat), l.map (fun e => (e.key, e.val)) = es.map (fun p => (enc p.1, p.2)) → (l.map (·.key)).Nodup → l[j]? = some e →
     (l.eraseIdx j).map (fun e=>(e.key,e.val))=(mq es k).map fun p=>(enc p.1,p.2):=by
   intro l
   induction l with
   | nil=>intro es j _ _ h1;simp at h1
   | cons a l ih =>
     intro es j he hnd h1
     cases es with
     | nil=>simp at he
     | cons p es =>
       simp only [List.map_cons,List.cons.injEq,Prod.mk.injEq,List.nodup_cons] at he hnd
       cases j with
       | zero =>
         simp only [List.getElem?_cons_zero,Option.some.injEq] at h1
         subst h1
         have e2:p.1=k:=E.inj _ _ (by rw [← he.1.1,hk])
         have e3:mq es k=es:=List.filter_eq_self.2 fun q hq=>by
           simp only [decide_eq_true_eq]
           intro e4
           have:(enc q.1,q.2)∈es.map (fun p=>(enc p.1,p.2)):=List.mem_map.2 ⟨q,hq,rfl⟩
           rw [← he.2] at this
           obtain ⟨x,hx,aH⟩:=List.mem_map.1 this
           simp only [Prod.mk.injEq] at aH
           exact hnd.1 (List.mem_map.2 ⟨x,hx,by rw [aH.1,e4,← hk]⟩)
         simp only [List.eraseIdx_cons_zero,mq,List.filter_cons,e2,ne_eq,not_true_eq_false,decide_false,Bool.false_eq_true,if_false]
         simp only [mq,ne_eq] at e3
         rw [e3];exact he.2
       | succ j =>
         simp only [List.getElem?_cons_succ] at h1
         have e2:p.1 ≠ k:=fun q=>by
           have:a.key=e.key:=by rw [he.1.1,q,hk]
           exact hnd.1 (List.mem_map.2 ⟨e,List.mem_of_getElem? h1,this.symm⟩)
         simp only [List.eraseIdx_cons_succ,List.map_cons,mq,List.filter_cons,ne_eq,e2,not_false_eq_true,decide_true,if_true,List.cons.injEq,Prod.mk.injEq]
         exact ⟨he.1,by simpa [mq] using ih es j he.2 hnd.2 h1⟩
 exact key arr.toList es j he hnd hj
theorem fD {t kt et:TypeId} {x y:Operand} {ts:Array TypeId} {k:κ} {s:TypeId} (hts:ts=#[t,s]) (E:hJ κ d enc) (hu:P.underlying t=some (.map kt et)) (hd:P.underlying kt=some d) (hx:f.ev x=some (.map (some m))) (hy:f.ev y=some (enc k)) (hm:Mp d enc h m es) :
   eO P f ⟨dd,.call { callee:=.builtin .delete,args:=#[x,y],argTypes:=ts },ty,pos,af,g⟩ h (fun _ h'=>Mp d enc h' m (mq es k)∧Ext (fun b=>b=m) h h') :=
 fun ρ w ha hw=>by
   subst hw
   subst hts
   obtain ⟨arr,clock,hb,hs,he⟩:=hm
   rcases hU E he k with ⟨h1,h2,h3⟩ | ⟨j,v0,e,h1,h2,h3,h4,h5,h6⟩
   · refine ⟨.tuple #[],{ w with heap:=w.heap.setIfInBounds m (.map arr clock) },⟨rfl,rfl,rfl,trivial⟩,⟨⟨_,_,dI hb,hs,?_⟩,.set _ _ _ rfl⟩,.inl ?_⟩
     · have e3 : mq es k = es := List.filter_eq_self.2 fun q hq => by
         simp only [decide_eq_true_eq]
         intro e4
         have:(enc q.1,q.2)∈es.map (fun p=>(enc p.1,p.2)):=List.mem_map.2 ⟨q,hq,rfl⟩
         rw [← he] at this
         obtain ⟨x,hx,aH⟩:=List.mem_map.1 this
         simp only [Prod.mk.injEq] at aH
         exact h3 x hx (by rw [aH.1,e4])
       rw [e3,he]
     · simp [execOp,resolve,invoke,builtin,ha _ _ hx,ha _ _ hy,Builtin.delete_,run_underlying hu,MapKept.run_getObj_map hb,run_checkKey hd (E.key k),run_findKey hd h1,MapKept.run_setObj_map _ hb]
   · refine ⟨.tuple #[],{ w with heap:=w.heap.setIfInBounds m (.map (arr.eraseIdxIfInBounds j) clock) },⟨rfl,rfl,rfl,trivial⟩,⟨⟨_,_,dI hb,stamped_erase hs j,ym E he hs.2.2 h3 h4⟩,.set _ _ _ rfl⟩,.inl ?_⟩
     simp [execOp,resolve,invoke,builtin,ha _ _ hx,ha _ _ hy,Builtin.delete_,run_underlying hu,MapKept.run_getObj_map hb,run_checkKey hd (E.key k),run_findKey hd h1,MapKept.run_setObj_map _ hb]
end
section
variable {κ:Type} [DecidableEq κ]
end
end Go.RK
namespace Go.RK
open Go
section
variable {P:Program} {n:Env} {Q:eV} {f:Fr} {h:ah} {l0 rest:List Oper} {K:Fr→Prop}
theorem WC.fo {id:Nat} {l:List Oper} (hm:P.follows .mixedOrders=true) (hB:Region.lexB .any l.toArray=true)
   (hq:WQ P n l l (fun h'=>h'=h) (fun g=>Q .normal g h) f) (hd:n.ro=Option.none∨jE l=true:=by first | exact .inl rfl | exact .inr rfl):WC P n (.region id l.toArray true) Q f h :=
 .draw (fun h'=>h'=h) hm hB rfl (hd:=hd) (fun a w0 ha=>fy (fun _ ⟨g,hg,hk⟩=>⟨g,hg,fun h' e=>by subst e;exact hk⟩) _ _ (hq a w0 ha))
theorem WQ.aK {o:Oper} {v:Value} {t:Nat} (hok:bK P f o h v) (hg:goes f l0 o=true) (hd:o.dst=some t) (ht:Nat.blt t n.n=true) (hk:WQ P n l0 rest (fun h'=>h'=h) K ((t,v) :: f)):WQ P n l0 (o :: rest) (fun h'=>h'=h) K f :=
 .step (fun h' e=>by subst e;exact hok) hg hd ht hk
end
theorem nt {b:Bool} (h:(!b)=true):b=false:=by simpa using h
theorem nf {b:Bool} (h:(!b)=false):b=true:=by simpa using h
section
variable {P:Program} {f:Fr} {h:ah} {d:Option Tmp} {ty:TypeId} {pos:String} {af:Array Edge} {g:Option (Nat × Bool)}
theorem eO.mono {o:Oper} {R R':Value→ah→Prop} (ho:eO P f o h R) (hr:∀ v h',R v h'→R' v h'):eO P f o h R':=fun ρ w ha hw=>by
 obtain ⟨v,w',hs,hR,hrun⟩:=ho ρ w ha hw
 exact ⟨v,w',hs,hr _ _ hR,hrun⟩
def HC (h:ah) (o:Obj) (b:Nat) (h':ah):Prop:=h.size≤b∧h'[b]?=some o∧Ext No h h'
theorem kA (h:ah) (o:Obj):HC h o h.size (h.push o):=⟨Nat.le_refl _,mZ h o,.push _ h o⟩
theorem av {t:TypeId} {z:Value} (hz:∀ w,(zeroValue t).run P w=.ok z w) :
   eO P f ⟨d,.alloc t,ty,pos,af,g⟩ h (fun u h'=>∃ b,u=.pointer (some ⟨b,0,Option.none⟩)∧HC h (.cells z.cells t (0,0)) b h') :=
 (yi hz).mono fun _ _ ⟨hv,hh⟩=>⟨_,hv,hh▸kA _ _⟩
theorem aB {t:TypeId} {x:Operand} {v:Value} (hx:f.ev x=some v) :
   eO P f ⟨d,.box t x,ty,pos,af,g⟩ h (fun u h'=>∃ b,u=.pointer (some ⟨b,0,Option.none⟩)∧HC h (.cells v.cells t (0,0)) b h') :=
 (Fc hx).mono fun _ _ ⟨hv,hh⟩=>⟨_,hv,hh▸kA _ _⟩
theorem iR {t:TypeId} :
   eO P f ⟨d,.makeMap t Option.none,ty,pos,af,g⟩ h (fun u h'=>∃ b,u=.map (some b)∧HC h (.map #[] 0) b h') :=
 tc.mono fun _ _ ⟨hv,hh⟩=>⟨_,hv,hh▸kA _ _⟩
theorem aC {t:TypeId} {x y:Operand} {b o:Nat} {cs:List Value} {e:TypeId} {v:Value} (hz:∀ w,(sizeOf t).run P w=.ok 1 w) (hx:f.ev x=some (.pointer (some ⟨b,o,Option.none⟩))) (hy:f.ev y=some v)
   (hb:h[b]?=some (.cells ⟨cs⟩ e (0,0))) (ho:o < cs.length) (hv:v.oneCell'=true) (JN:v.cells=#[v]) :
   eO P f ⟨d,.store t x y,ty,pos,af,g⟩ h (fun _ h'=>h'[b]?=some (.cells ⟨cs.set o v⟩ e (0,0))∧Ext (fun k=>k=b) h h') :=
 (yh hz hx hy hb ho hv JN).mono fun _ _ ⟨_,hh⟩=>hh▸⟨dI hb,.set _ _ _ rfl⟩
theorem nc {t:TypeId} {x y:Operand} {b o k:Nat} {cs vs:List Value} {e:TypeId} (hz:∀ w,(sizeOf t).run P w=.ok k w) (hx:f.ev x=some (.pointer (some ⟨b,o,Option.none⟩))) (hy:f.ev y=some (.agg ⟨vs⟩))
   (hk:vs.length=k) (hb:h[b]?=some (.cells ⟨cs⟩ e (0,0))) (ho:o+vs.length≤cs.length) (hv:∀ v∈vs,v.oneCell'=true) :
   eO P f ⟨d,.store t x y,ty,pos,af,g⟩ h (fun _ h'=>h'[b]?=some (.cells ⟨cs.take o++vs++cs.drop (o+vs.length)⟩ e (0,0))∧Ext (fun k=>k=b) h h') :=
 (wA hz hx hy hk hb ho hv).mono fun _ _ ⟨_,hh⟩=>hh▸⟨dI hb,.set _ _ _ rfl⟩
theorem al {t:TypeId} {x y:Operand} {b k:Nat} {cs vs:List Value} {e:TypeId} (hz:∀ w,(sizeOf t).run P w=.ok k w) (hx:f.ev x=some (.pointer (some ⟨b,0,Option.none⟩))) (hy:f.ev y=some (.agg ⟨vs⟩))
   (hk:vs.length=k) (hb:h[b]?=some (.cells ⟨cs⟩ e (0,0))) (ho:cs.length=k) (hv:∀ v∈vs,v.oneCell'=true) :
   eO P f ⟨d,.store t x y,ty,pos,af,g⟩ h (fun _ h'=>h'[b]?=some (.cells ⟨vs⟩ e (0,0))∧Ext (fun k=>k=b) h h') :=
 (nc hz hx hy hk hb (by omega) hv).mono fun _ _ ⟨h1,h2⟩=>⟨by rw [h1];simp [hk,ho],h2⟩
theorem aD {t:TypeId} {ps:List (Nat × Operand)} {vs cs:List Value} (F:List Value→List Value) (hp:ps.map (fun p=>f.ev p.2)=vs.map some) (_hcs:cs=F vs) (hb:P.built t ((ps.map (·.1)).zip vs)=some ⟨cs⟩) :
   bK P f ⟨d,.build t ⟨ps⟩,ty,pos,af,g⟩ h (.agg ⟨cs⟩):=by
 refine yj (qs:=(ps.map (·.1)).zip vs) ?_ hb
 clear hb _hcs
 induction ps generalizing vs with
 | nil=>cases vs <;> simp_all
 | cons p ps ih =>
   cases vs with
   | nil=>simp at hp
   | cons v vs =>
     simp only [List.map_cons,List.cons.injEq] at hp
     simp only [List.map_cons,List.zip_cons_cons,List.cons.injEq,Prod.mk.injEq,true_and]
     exact ⟨hp.1,ih hp.2⟩
def Lw (P:Program) (e:TypeId) (len:Nat) (parts:List (Nat × Value)):Option (Array Value) :=
 match P.info? e with
 | some ie=>match ie.zero with
   | some z=>if len * ie.size > 2 ^ 24 then Option.none else
     Instr.fill (fun i=>some (i * ie.size,ie.size)) ((Array.range (len * ie.size)).map ((if len * ie.size=0 then #[] else z.cells)[· % (if len * ie.size=0 then #[] else z.cells).size]!)) parts
   | Option.none=>Option.none
 | Option.none=>Option.none
theorem aw {t e len:Nat} {ps:List (Nat × Operand)} {vs cs:List Value} (F:List Value→List Value) (hu:P.underlying t=some (.slice e)) (hp:ps.map (fun p=>f.ev p.2)=vs.map some) (_hcs:cs=F vs) (hb:Lw P e len ((ps.map (·.1)).zip vs)=some ⟨cs⟩) :
   eO P f ⟨d,.buildSlice t len ⟨ps⟩,ty,pos,af,g⟩ h (fun u h'=>∃ b,u=.slice (some ⟨b,0,Option.none⟩) len len∧HC h (.cells ⟨cs⟩ e (0,0)) b h'):=by
 intro ρ w ha hw
 subst hw
 have hps:ps.map (fun p=>(p.1,ρ p.2))=(ps.map (·.1)).zip vs:=by
   clear hb _hcs
   induction ps generalizing vs with
   | nil=>cases vs <;> simp_all
   | cons p ps ih =>
     cases vs with
     | nil=>simp at hp
     | cons v vs =>
       simp only [List.map_cons,List.cons.injEq] at hp
       simp only [List.map_cons,List.zip_cons_cons,List.cons.injEq,Prod.mk.injEq,true_and]
       exact ⟨ha _ _ hp.1,ih hp.2⟩
 have e2:(Array.map (fun x:Nat × Operand=>(x.fst,ρ x.snd)) ⟨ps⟩).toList=(ps.map (·.1)).zip vs:=by simp [hps]
 unfold Lw at hb
 cases hi:P.info? e with
 | none=>rw [hi] at hb;cases hb
 | some ie =>
   rw [hi] at hb
   simp only at hb
   cases hz:ie.zero with
   | none=>rw [hz] at hb;cases hb
   | some z =>
     rw [hz] at hb
     simp only at hb
     by_cases hs:len * ie.size > 2 ^ 24
     · rw [if_pos hs] at hb;cases hb
     · rw [if_neg hs] at hb
       refine ⟨_,w.alloc (.cells ⟨cs⟩ e (0,0)),⟨rfl,rfl,rfl,trivial⟩,⟨w.heap.size,rfl,kA _ _⟩,.inl ?_⟩
       have hsz:∀ w,(sizeOf e).run P w=.ok ie.size w:=fun w=>by simp [sizeOf,typeInfo,hi]
       have hzv:∀ w,(zeroValue e).run P w=.ok z w:=fun w=>by simp [zeroValue,typeInfo,hi,hz]
       by_cases h0:len * ie.size=0
       · simp only [if_pos h0] at hb
         simp only [execOp,Instr.buildSlice,run_underlying hu,hsz,if_neg hs,if_pos h0,Sem.run_bind,Sem.run_pure,Result.andThen_ok]
         rw [e2,hb]
         simp [newRow,newObj,Sem.run]
       · simp only [if_neg h0] at hb
         simp only [execOp,Instr.buildSlice,run_underlying hu,hsz,hzv,if_neg hs,if_neg h0,Sem.run_bind,Sem.run_pure,Result.andThen_ok]
         rw [e2,hb]
         simp [newRow,newObj,Sem.run]
theorem bz {b len sz:Nat} {cs:List Value} {e:TypeId} {z:Nat × Nat} (hb:h[b]?=some (.cells ⟨cs⟩ e z)) (hl:cs.length=len * sz):Rd h (.slice (some ⟨b,0,Option.none⟩) len len) sz len cs :=
 ⟨_,_,rfl,Nat.le_refl _,hl,fun _=>⟨b,0,rfl,aj hb,At.au hb⟩⟩
theorem dJ {b len sz:Nat} {cs:List Value} {e:TypeId} (hb:h[b]?=some (.cells ⟨cs⟩ e (0,0))) (hl:cs.length=len * sz) (hm:len≤maxLen):Own h (.slice (some ⟨b,0,Option.none⟩) len len) e sz len cs :=
 ⟨hl,.inr ⟨b,len,⟨cs⟩,rfl,hb,Nat.le_refl _,hm,by simpa using hl,by simp [← hl]⟩⟩
theorem ag.as {k:FuncId} {args:Array Value} {v v':Value} (hc:ag P k args h (fun u h'=>u=v∧h'=h)) (e:v=v'):ag P k args h (fun u h'=>u=v'∧h'=h):=hc.mono fun _ _ p=>⟨p.1.trans e,p.2⟩
theorem aa {b o:Nat} {cs:List Value} {t:TypeId} {z:Nat × Nat} {v:Value} (hb:h[b]?=some (.cells ⟨cs⟩ t z)) (hv:cs[o]?=some v):cell h ⟨b,o,Option.none⟩=some v:=by
 rw [cell_of hb];simpa using hv
theorem Ext.bq {S:Nat→Prop} {h':ah} (a:Ext S h h') {b:Nat} {o:Obj} (hb:h[b]?=some o) (hS:¬ S b):h'[b]?=some o:=a.obj hb hS
end
end Go.RK
namespace Go.RK
open Go Go.ChangeShapes Go.WideShapes Go.ChangeAt Go.RowKit Go.Deep
theorem cP {α:Type} {sz:Nat} {F:α→List Value} (hl:∀ a,(F a).length=sz) (l:List α):(l.flatMap F).length=l.length * sz:=by
 induction l with
 | nil=>simp
 | cons a l ih=>simp [ih,hl,Nat.add_mul,Nat.add_comm]
def dZ (P:Program) (w:World) (t:TypeId) {α:Type} (F:α→List Value) (Q:α→Prop):Prop :=
 ∀ (H:Type) (enc:TypeId × Value→H) (base:Nat) (spare:Nat→Bool) (held:Bool) (fuel:Nat) (cs:List Value) (x:DataW H × List MemPlace),DataW.trod enc P w base spare held fuel t cs=some x→(∀ n∈x.1.weights P t,n≤reachBytes)→∃ a,cs=F a∧Q a
section
variable {P:Program} {w:World} {t:TypeId}
theorem dZ.map {α β:Type} {F:α→List Value} {Q:α→Prop} (o:dZ P w t F Q) (g:α→β) {F':β→List Value} {Q':β→Prop} (hF:∀ a,F a=F' (g a)) (hQ:∀ a,Q a→Q' (g a)):dZ P w t F' Q':=by
 intro H enc base spare held fuel cs x h hz
 obtain ⟨a,rfl,q⟩:=o H enc base spare held fuel cs x h hz
 exact ⟨g a,hF a,hQ a q⟩
theorem eF {k:IntKind} (ht:P.underlying t=some (.int k)):dZ P w t (fun n:Int=>[.int k n]) (fun n=>(Lit.int k n).wf=true):=by
 intro H enc base spare held fuel cs x h _
 obtain ⟨n,h1,_,h2⟩:=DataW.trod_int ht h
 exact ⟨n,h1,h2⟩
theorem th (ht:P.underlying t=some .bool):dZ P w t (fun b:Bool=>[.bool b]) (fun _=>True):=by
 intro H enc base spare held fuel cs x h _
 obtain ⟨b,h1,_⟩:=DataW.trod_bool ht h
 exact ⟨b,h1,trivial⟩
theorem hY (ht:P.underlying t=some .string):dZ P w t (fun l:List UInt8=>[St l]) (fun l=>l.length≤reachBytes):=by
 intro H enc base spare held fuel cs x h hz
 obtain ⟨s,h1,rfl,h2⟩:=DataW.trod_string ht h
 exact ⟨s.data.toList,h1,hz _ (by simp [DataW.weights])⟩
def pC (P:Program) (w:World) (o:Nat) (fs:List Field) {α:Type} (F:α→List Value) (Q:α→Prop):Prop :=
 ∀ (H:Type) (enc:TypeId × Value→H) (base:Nat) (spare:Nat→Bool) (held:Bool) (n:Nat) (cs:List Value),
   (∀ f∈fs,∃ x,DataW.trod enc P w base spare held n f.type ((cs.drop f.offset).take (P.cellsOf f.type))=some x∧∀ n∈x.1.weights P f.type,n≤reachBytes)→∃ a,(cs.drop o).take (F a).length=F a∧(F a).length=(fs.map fun f=>P.cellsOf f.type).sum∧Q a
theorem ng {o:Nat}:pC P w o [] (fun _:Unit=>[]) (fun _=>True):=fun _ _ _ _ _ _ _ _=>⟨(),by simp,by simp,trivial⟩
theorem cq {α β:Type} {o:Nat} {f:Field} {fs:List Field} {F:α→List Value} {Q:α→Prop} {G:β→List Value} {R:β→Prop} {sz:Nat} (ho:f.offset=o) (h1:dZ P w f.type F Q) (hc:P.cellsOf f.type=sz) (hl:∀ a,(F a).length=sz) (h2:pC P w (o+sz) fs G R) :
   pC P w o (f :: fs) (fun p:α × β=>F p.1++G p.2) (fun p=>Q p.1∧R p.2):=by
 intro H enc base spare held n cs h
 obtain ⟨x,hx,hz⟩:=h f (by simp)
 obtain ⟨a,ha,qa⟩:=h1 H enc base spare held n _ _ hx hz
 obtain ⟨b,hb,hbl,qb⟩:=h2 H enc base spare held n cs fun g hg=>h g (by simp [hg])
 refine ⟨(a,b),?_,?_,qa,qb⟩
 · rw [ho,hc] at ha
   simp only [List.length_append]
   rw [List.take_add,hl,ha,List.drop_drop,hb]
 · simp [hl,hc,hbl]
theorem kB {α:Type} {fs:List Field} {F:α→List Value} {Q:α→Prop} (ht:P.underlying t=some (.struct ⟨fs⟩)) (hc:P.cellsOf t=(fs.map fun f=>P.cellsOf f.type).sum) (hf:pC P w 0 fs F Q):dZ P w t F Q:=by
 intro H enc base spare held fuel cs x h hz
 obtain ⟨xs,n,_,rfl,hl,hxl,hi⟩:=DataW.trod_struct ht h
 obtain ⟨a,ha,hal,q⟩:=hf H enc base spare held n cs fun f hm=>by
   obtain ⟨i,hi',e⟩:=List.mem_iff_getElem.1 hm
   have h1:=hi i f (by simp [← e,hi'])
   have h2:i < xs.length:=by rw [hxl];simpa using hi'
   rw [List.getElem?_eq_getElem h2] at h1
   refine ⟨_,h1,fun m hm=>hz m ?_⟩
   simp only [DataW.weights,ht]
   exact DataW.weights_mem_each (j:=i) (by simp [List.getElem?_eq_getElem hi',e]) (by simp [List.getElem?_eq_getElem h2]) m hm
 refine ⟨a,?_,q⟩
 rw [← ha,List.drop_zero,List.take_of_length_le (by omega)]
theorem iS {H:Type} {P:Program} {e:TypeId}:∀ {l:List (DataW H)} {d:DataW H},d∈l→∀ n∈d.weights P e,n∈DataW.weightsAll P e l
 | c :: l,d,hd,n,hn=>by
   simp only [DataW.weightsAll,List.mem_append]
   rcases List.mem_cons.1 hd with rfl | hd
   · exact .inl hn
   · exact .inr (iS hd n hn)
theorem wD {h:ah} {a:Addr} {v:Value} (hc:cell h a=some v):a.spot=Option.none:=by
 unfold cell at hc
 split at hc
 · split at hc
   · cases hc
   · rename_i h1;simpa using h1
 · cases hc
theorem dR {α:Type} {e:TypeId} {F:α→List Value} {Q:α→Prop} {sz:Nat} (ht:P.underlying t=some (.slice e)) (hc:P.cellsOf e=sz) (hp:0 < sz) (hl:∀ a,(F a).length=sz) (h1:dZ P w e F Q) :
   dZ P w t (fun p:Value × List α=>[p.1]) (fun p=>Rd w.heap p.1 sz p.2.length (p.2.flatMap F)∧p.2.length≤maxLen∧(∃ A c,p.1=.slice A p.2.length c∧c≤maxLen)∧(∀ a∈p.2,Q a)∧p.2.length * P.bytesOf e≤reachBytes):=by
 intro H enc base spare held fuel cs x h hz
 rcases open_slice ht h with ⟨rfl,_⟩ | ⟨a,len,cap,m,n,D,Pl,rfl,hb,hle,hm,hme,rfl,hi⟩
 · exact ⟨(.slice Option.none 0 0,[]),rfl,Rd.nil _ _,by simp [maxLen],⟨_,_,rfl,by simp [maxLen]⟩,by simp,by simp⟩
 · rw [hc] at hi
   have hml:len≤m:=by rw [hme];split <;> omega
   have key:∀ k,k≤len→∃ l:List α,l.length=k∧(∀ a∈l,Q a)∧∀ (j:Nat) (v:Value),(l.flatMap F)[j]?=some v→w.cell? (a.add j)=some v:=by
     intro k
     induction k with
     | zero=>intro _;exact ⟨[],rfl,by simp,by simp⟩
     | succ k ih =>
       intro hk
       obtain ⟨l,hll,hq,hj⟩:=ih (by omega)
       obtain ⟨cs',hcs,htr⟩:=hi k (by omega)
       obtain ⟨b,rfl,qb⟩:=h1 H enc base spare held n _ _ htr fun m hm=>hz m (by
         simp only [DataW.weights,ht,List.mem_cons,List.mem_append]
         exact .inr (.inl (iS (List.mem_map.2 ⟨k,List.mem_range.2 (by omega),rfl⟩) m hm)))
       obtain ⟨_,hcl,hcell⟩:=World.cells?_some hcs
       have hfl:(l.flatMap F).length=k * sz:=by rw [← hll];exact cP hl l
       refine ⟨l++[b],by simp [hll],?_,?_⟩
       · intro c hcm
         rcases List.mem_append.1 hcm with hcm | hcm
         · exact hq c hcm
         · simp at hcm;subst hcm;exact qb
       · intro j v hv
         simp only [List.flatMap_append,List.flatMap_cons,List.flatMap_nil,List.append_nil] at hv
         by_cases hjl:j < (l.flatMap F).length
         · rw [List.getElem?_append_left hjl] at hv
           exact hj j v hv
         · rw [List.getElem?_append_right (by omega)] at hv
           have hlt:=(List.getElem?_eq_some_iff.1 hv).1
           have h2:=hcell (j - (l.flatMap F).length) (by rw [← hl b];exact hlt)
           rw [hv] at h2
           rw [← h2,Go.Deep.add_add]
           congr 2
           omega
   obtain ⟨l,hll,hq,hj⟩:=key len (Nat.le_refl _)
   refine ⟨(.slice (some a) len cap,l),rfl,⟨some a,cap,by rw [hll],by show l.length≤cap;omega,?_,fun hn=>?_⟩,by show l.length≤_;omega,⟨_,_,by rw [hll],hm⟩,hq,by
     have:=hz _ (by simp only [DataW.weights,ht];exact List.mem_cons_self)
     refine Nat.le_trans (Nat.mul_le_mul_right _ ?_) this
     simp [hll]⟩
   · exact cP hl l
   · have h0 : 0 < (l.flatMap F).length := by
       cases l with
       | nil=>simp at hn
       | cons a l=>simp [hl];omega
     have Hj:=hj 0 _ (List.getElem?_eq_getElem h0)
     rw [Addr.add_zero'] at Hj
     obtain ⟨b,o,spot⟩:=a
     have hs:spot=Option.none:=wD Hj
     subst hs
     refine ⟨b,o,rfl,u5 Hj,fun j v hv=>?_⟩
     have:=hj j v hv
     rw [Addr.add_lit] at this
     exact this
end
theorem At.elem {α:Type} {h:ah} {b o sz:Nat} {F:α→List Value} (hl:∀ a,(F a).length=sz) {xs:List α} (ha:At h b o (xs.flatMap F)) {k:Nat} {x:α} (hk:xs[k]?=some x):At h b (o+k * sz) (F x):=by
 intro j v hv
 have hlt:=(List.getElem?_eq_some_iff.1 hv).1
 rw [hl] at hlt
 have key:∀ (xs:List α) (k:Nat),xs[k]?=some x→(xs.flatMap F)[k * sz+j]?=some v:=by
   intro xs
   induction xs with
   | nil=>intro k hk;simp at hk
   | cons y ys ih =>
     intro k hk
     cases k with
     | zero =>
       simp only [List.getElem?_cons_zero,Option.some.injEq] at hk
       subst hk
       simp only [List.flatMap_cons,Nat.zero_mul,Nat.zero_add]
       rw [List.getElem?_append_left (by rw [hl];exact hlt)]
       exact hv
     | succ k =>
       simp only [List.getElem?_cons_succ] at hk
       simp only [List.flatMap_cons]
       rw [List.getElem?_append_right (by rw [hl,Nat.add_mul];omega),hl]
       have:(k+1) * sz+j - sz=k * sz+j:=by rw [Nat.add_mul];omega
       rw [this]
       exact ih k hk
 have:=ha (k * sz+j) v (key xs k hk)
 rwa [← Nat.add_assoc] at this
theorem wF {P:Program} {k:FuncId} {args:List Value} {w:World} (hc:ag P k ⟨args⟩ w.heap (fun u h'=>u=.bool true∧Ext No w.heap h')) :
   Calls P k ⟨args⟩ w fun e w'=>e=.returned (.bool true)∧Below w.heap.size w w' :=
 (hc w rfl).mono fun _ _ ⟨hs,v,he,hv,hx⟩=>⟨by rw [he,hv],⟨hs.os,hs.tape,hs.output,hx.size,fun b hb=>hx.ab b hb id⟩⟩
end Go.RK
namespace Go.RK
open Go
section
variable {P:Program} {ops:Array Oper} {Q:Exit→Act→World→Prop} {md:Region.Mode} {C:ah→Prop} {k:Nat}
def kC (ops:Array Oper) (k:Nat) (L:Array Bool):Prop:=∀ j,k≤j→j < ops.size→L.getD j true=false
def Ef (P:Program) (md:Region.Mode) (ops:Array Oper) (Q:Exit→Act→World→Prop) (C:ah→Prop) (k:Nat):Nat→Array Bool→Act→World→Prop
 | 0,listed,a,w=>Region.ready md ops listed=[]∧Q .normal a w
 | fuel+1,listed,a,w =>
   (Region.ready md ops listed=[]→Q .normal a w) ∧
   ∀ i∈Region.ready md ops listed,wpOp P ops Q i (fun a' w'=>(kC ops k (listed.setIfInBounds i true)→C w'.heap)∧Ef P md ops Q C k fuel (listed.setIfInBounds i true) a' w') a w
theorem nh:∀ (fuel:Nat) (listed:Array Bool) (a:Act) (w:World),Ef P md ops Q C k fuel listed a w→wpAny P md ops Q fuel listed a w
 | 0,_,_,_,h=>h
 | fuel+1,_,_,_,h=>⟨h.1,fun i hi=>wpOp_mono (fun a' w' h'=>nh fuel _ a' w' h'.2) (h.2 i hi)⟩
theorem jR {i j:Nat} {listed:Array Bool} (hw:Region.waitsFor md ops j i=true) (hi:listed.getD i true=false):j ∉ Region.ready md ops listed:=by
 intro hj
 obtain ⟨oj,hoj,e,he,hb,hon⟩:=Region.waitsFor_spec hw
 obtain ⟨_,oj',hoj',hall⟩:=mem_ready.1 hj
 rw [hoj] at hoj'
 injection hoj' with hoj'
 subst hoj'
 have h1:=hall e he hb
 rw [hon] at h1
 rcases Nat.lt_or_ge i listed.size with h' | h'
 · simp [h'] at hi h1;rw [hi] at h1;cases h1
 · simp [Array.getElem?_eq_none h'] at h1
theorem kC.set {L:Array Bool} (h:kC ops k L) {i:Nat} (hi:i < k):kC ops k (L.setIfInBounds i true):=fun j hj hs=>by
 rw [getD_set_ne true (by omega)];exact h j hj hs
theorem oD {i:Nat} {oi:Oper} {v:Value} (hi:ops[i]?=some oi) (hsel:∀ (j:Nat) (o:Oper) cs b,ops[j]?=some o→o.op ≠ .select cs b)
   (hQ:∀ c a w,Q (.panic c) (a.put oi.dst v) w→Q (.panic c) a w) (hik:i < k) (hw:∀ j,k≤j→j < ops.size→Region.waitsFor md ops j i=true) :
   ∀ (fuel:Nat) (listed:Array Bool) (a:Act) (w:World),kC ops k listed →
     (∀ j oj,ops[j]?=some oj→j ≠ i→listed.getD j true=false→(∀ e∈oj.after,Region.binds md e=true→e.on ≠ i)→oi.apart ops oj=true) →
     i∈Region.ready md ops listed→YieldsIf P ops (fun w=>C w.heap) oi v a→C w.heap →
     Ef P md ops Q C k fuel (listed.setIfInBounds i true) (a.put oi.dst v) w→Ef P md ops Q C k (fuel+1) listed a w:=by
 intro fuel
 induction fuel with
 | zero =>
   intro listed a w _ _ hr hy hS H
   refine ⟨fun h=>(by rw [h] at hr;cases hr),fun j hj=>?_⟩
   by_cases hji:j=i
   · subst hji;exact hy.wpOp hi hS ⟨fun _=>hS,H⟩
   · have:=ready_mono hj hji
     rw [H.1] at this
     cases this
 | succ fuel ih =>
   intro listed a w hE hfree hr hy hS H
   refine ⟨fun h=>(by rw [h] at hr;cases hr),fun j hj=>?_⟩
   by_cases hji:j=i
   · subst hji;exact hy.wpOp hi hS ⟨fun _=>hS,H⟩
   · have h1:=H.2 j (ready_mono hj hji)
     obtain ⟨hjun,oj,hoj,hall⟩:=mem_ready.1 hj
     have hiun:=(mem_ready.1 hr).1
     have hjs:j < ops.size:=(Array.getElem?_eq_some_iff.1 hoj).1
     have hjk:j < k:=by
       rcases Nat.lt_or_ge j k with h' | h'
       · exact h'
       · exact absurd hj (jR (hw j h' hjs) hiun)
     have hnot:∀ e∈oj.after,Region.binds md e=true→e.on ≠ i:=fun e he hb heq=>by
       have h1:=hall e he hb
       rw [heq] at h1
       rcases Nat.lt_or_ge i listed.size with h' | h'
       · simp [h'] at hiun h1;rw [hiun] at h1;cases h1
       · simp [Array.getElem?_eq_none h'] at h1
     have h2:=wpOp_putIf hoj (hfree j oj hoj hji hjun hnot) (fun cs b=>hsel i oi cs b hi) (fun cs b=>hsel j oj cs b hoj) hQ hy h1
     have hfree' : ∀ k ok, ops[k]? = some ok → k ≠ i → (listed.setIfInBounds j true).getD k true = false →
         (∀ e∈ok.after,Region.binds md e=true→e.on ≠ i)→oi.apart ops ok=true:=fun k ok hk hki hun hno=>by
       refine hfree k ok hk hki ?_ hno
       by_cases hjk:j=k
       · subst hjk;exact hjun
       · rw [getD_set_ne true hjk] at hun;exact hun
     have hE':kC ops k (listed.setIfInBounds j true):=hE.set hjk
     refine wpOp_mono (fun a' w' h3=>?_) h2
     have hC:C w'.heap:=h3.2.1 (by rw [Array.setIfInBounds_comm _ _ (Ne.symm hji)];exact hE'.set hik)
     refine ⟨fun _=>hC,ih (listed.setIfInBounds j true) a' w' hE' hfree' (ready_mono hr (Ne.symm hji)) h3.1 hC ?_⟩
     rw [Array.setIfInBounds_comm _ _ hji]
     exact h3.2.2
end
theorem tm {d n:Nat} (hd:d < n):Nat.blt d n=true:=by
 have h1:d+1≤n:=hd
 simpa [Nat.blt,Nat.ble_eq] using h1
def ia (Q:Exit→Act→World→Prop):Exit→Act→World→Prop
 | .panic _,_,_=>False
 | e,a,w=>Q e a w
theorem qZ {Q:Exit→Act→World→Prop} (e:Exit) (a:Act) (w:World) (h:ia Q e a w):Q e a w:=by cases e <;> first | exact h | exact h.elim
section
variable {P:Program} {n:Env} {Q:eV} {f:Fr} {h:ah} {l:List Oper} {C:ah→Prop} {k fuel:Nat} {L:Array Bool}
def WH (P:Program) (n:Env) (l:List Oper) (Q:eV) (C:ah→Prop) (k fuel:Nat) (L:Array Bool) (f:Fr) (h:ah):Prop :=
 ∀ (w0:World) (a:Act) (w:World),eE w0 w→j7 n a f→w.heap=h→Ef P .any l.toArray (ia (cX n Q w0)) C k fuel L a w
theorem WC.bW {id:Nat} {l:List Oper} (C:ah→Prop) (k fuel:Nat) (hf:l.length=fuel) (hm:P.follows .mixedOrders=true)
   (hq:WH P n l Q C k fuel (Array.replicate fuel false) f h) (hd:n.ro=Option.none∨jE l=true:=by first | exact .inl rfl | exact .inr rfl):WC P n (.region id l.toArray true) Q f h:=by
 intro a w ha hw
 refine wpIn_mono (sZ (Q:=ia (cX n Q w)) (by simpa using hd) (fun ⟨_,_,hh⟩=>cX.shut ⟨_,_,hh⟩) hm ?_) qZ
 have:=nh _ _ _ _ (hq w a { w with drawn:=w.drawn+1 } ⟨rfl,rfl,rfl,trivial⟩ ha hw)
 subst hf
 exact this
theorem WH.take {o:Oper} {v:Value} {t:Nat} (i:Nat) (hi:l[i]?=some o) (hs:Region.noSelect l.toArray=true) (hfr:Region.free .any l.toArray L i=true) (hr:(Region.ready .any l.toArray L).contains i=true)
   (hE:(List.range l.length).all (fun j=>Nat.blt j k || (!L.getD j true && Region.waitsFor .any l.toArray j i))=true) (hik:Nat.blt i k=true) (hC:C h)
   (hok:∀ h',C h'→bK P f o h' v) (hg:goes f l o=true) (hd:o.dst=some t) (ht:Nat.blt t n.n=true)
   (hk:WH P n l Q C k fuel (L.setIfInBounds i true) ((t,v) :: f) h):WH P n l Q C k (fuel+1) L f h:=by
 intro w0 a w hsm ha hw
 have hEall:∀ j,k≤j→j < l.toArray.size→L.getD j true=false∧Region.waitsFor .any l.toArray j i=true:=by
   intro j hj hjs
   have:=List.all_eq_true.1 hE j (by simpa using hjs)
   have hb:Nat.blt j k=false:=by
     cases e:Nat.blt j k
     · rfl
     · have:=iO e;omega
   simpa [hb] using this
 refine oD (by simpa using hi) (Region.noSelect_spec hs) (fun c a w q=>q) (iO hik) (fun j hj hjs=>(hEall j hj hjs).2) fuel L a w (fun j hj hjs=>(hEall j hj hjs).1)
   (Region.free_spec (by simpa using hi) hfr) (by simpa using hr) (.inl ⟨cE ha hg,fun w' hC'=>hok _ hC' _ w' ha.eU rfl⟩) (by rw [hw];exact hC) ?_
 rw [hd]
 exact hk w0 _ w hsm (ha.put ht _) hw
theorem WH.pass {o:Oper} {t:Nat} (i:Nat) (hi:l[i]?=some o) (hs:Region.noSelect l.toArray=true) (hfr:Region.free .any l.toArray L i=true) (hr:(Region.ready .any l.toArray L).contains i=true)
   (hE:(List.range l.length).all (fun j=>Nat.blt j k || (!L.getD j true && Region.waitsFor .any l.toArray j i))=true) (hik:Nat.blt i k=true) (hC:C h)
   (hg:stops f l o=true) (hd:o.dst=some t) (ht:Nat.blt t n.n=true)
   (hk:WH P n l Q C k fuel (L.setIfInBounds i true) ((t,undef) :: f) h):WH P n l Q C k (fuel+1) L f h:=by
 intro w0 a w hsm ha hw
 have hEall:∀ j,k≤j→j < l.toArray.size→L.getD j true=false∧Region.waitsFor .any l.toArray j i=true:=by
   intro j hj hjs
   have:=List.all_eq_true.1 hE j (by simpa using hjs)
   have hb:Nat.blt j k=false:=by
     cases e:Nat.blt j k
     · rfl
     · have:=iO e;omega
   simpa [hb] using this
 refine oD (by simpa using hi) (Region.noSelect_spec hs) (fun c a w q=>q) (iO hik) (fun j hj hjs=>(hEall j hj hjs).2) fuel L a w (fun j hj hjs=>(hEall j hj hjs).1)
   (Region.free_spec (by simpa using hi) hfr) (by simpa using hr) (.inr ⟨fv ha hg,rfl⟩) (by rw [hw];exact hC) ?_
 rw [hd]
 exact hk w0 _ w hsm (ha.put ht _) hw
theorem WH.part (t:Nat) {b:Bool} (hb:f.get t=some (.bool b)) (h1:b=true→WH P n l Q C k fuel L ((t,.bool true) :: f) h) (h2:b=false→WH P n l Q C k fuel L ((t,.bool false) :: f) h):WH P n l Q C k fuel L f h:=by
 cases b
 · exact fun w0 a w hs ha hw=>h2 rfl w0 a w hs (ha.jj hb) hw
 · exact fun w0 a w hs ha hw=>h1 rfl w0 a w hs (ha.jj hb) hw
def aE (P:Program) (n:Env) (l:List Oper) (Q:eV) (C:ah→Prop) (k fuel:Nat) (L:Array Bool) (f:Fr) (h:ah) (i:Nat):Prop :=
 ∀ (w0:World) (a:Act) (w:World),eE w0 w→j7 n a f→w.heap=h →
   wpOp P l.toArray (ia (cX n Q w0)) i (fun a' w'=>(kC l.toArray k (L.setIfInBounds i true)→C w'.heap)∧Ef P .any l.toArray (ia (cX n Q w0)) C k fuel (L.setIfInBounds i true) a' w') a w
theorem WH.one (i:Nat) (hr:Region.ready .any l.toArray L=[i]) (h1:aE P n l Q C k fuel L f h i):WH P n l Q C k (fuel+1) L f h :=
 fun w0 a w hs ha hw=>⟨fun e=>(by rw [hr] at e;cases e),fun j hj=>by rw [hr] at hj;simp at hj;subst hj;exact h1 w0 a w hs ha hw⟩
theorem WH.two (i j:Nat) (hr:Region.ready .any l.toArray L=[i,j]) (h1:aE P n l Q C k fuel L f h i) (h2:aE P n l Q C k fuel L f h j):WH P n l Q C k (fuel+1) L f h :=
 fun w0 a w hs ha hw=>⟨fun e=>(by rw [hr] at e;cases e),fun m hj=>by
   rw [hr] at hj
   simp at hj
   rcases hj with rfl | rfl
   · exact h1 w0 a w hs ha hw
   · exact h2 w0 a w hs ha hw⟩
theorem WH.done (hr:Region.ready .any l.toArray L=[]) (hq:Q .normal f h):WH P n l Q C k 0 L f h :=
 fun _ _ _ hs ha hw=>⟨hr,rfl,hs,_,ha,hw▸hq⟩
theorem aE.run {o:Oper} {R:Value→ah→Prop} {i t:Nat} (hi:l[i]?=some o) (hok:eO P f o h R) (hg:goes f l o=true) (hd:o.dst=some t) (ht:Nat.blt t n.n=true)
   (hk:∀ v h',R v h'→(Nat.blt i k=true→C h')∧WH P n l Q C k fuel (L.setIfInBounds i true) ((t,v) :: f) h') (hlt:Nat.ble k i=true→Nat.blt i L.size=true):aE P n l Q C k fuel L f h i:=by
 intro w0 a w hs ha hw
 unfold wpOp
 have hi':l.toArray[i]?=some o:=by simpa using hi
 simp only [hi',if_pos (cE ha hg)]
 refine .inl ?_
 obtain ⟨v,w',hs',hR,hrun⟩:=hok a.eval w ha.eU hw
 unfold Oper.wp
 obtain ⟨hC,hW⟩:=hk v w'.heap hR
 have key:(kC l.toArray k (L.setIfInBounds i true)→C w'.heap)∧Ef P .any l.toArray (ia (cX n Q w0)) C k fuel (L.setIfInBounds i true) (a.put o.dst v) w':=by
   refine ⟨fun hE=>?_,by rw [hd];exact hW w0 _ w' (hs.trans hs') (ha.put ht _) rfl⟩
   rcases Nat.lt_or_ge i k with h' | h'
   · exact hC (tm h')
   · have h1:=hE i h' (by simpa using (List.getElem?_eq_some_iff.1 hi).1)
     have h2:=iO (hlt (by simpa [Nat.ble_eq] using h'))
     simp [h2] at h1
 rcases hrun with hrun | ⟨hrun,rfl⟩ <;> rw [hrun] <;> simp only [Oper.upon] <;> exact key
theorem aE.cQ {o:Oper} {R:Value→ah→Prop} {i:Nat} (hi:l[i]?=some o) (hok:eO P f o h R) (hg:goes f l o=true) (hd:o.dst=Option.none)
   (hk:∀ v h',R v h'→(Nat.blt i k=true→C h')∧WH P n l Q C k fuel (L.setIfInBounds i true) f h') (hlt:Nat.ble k i=true→Nat.blt i L.size=true):aE P n l Q C k fuel L f h i:=by
 intro w0 a w hs ha hw
 unfold wpOp
 have hi':l.toArray[i]?=some o:=by simpa using hi
 simp only [hi',if_pos (cE ha hg)]
 refine .inl ?_
 obtain ⟨v,w',hs',hR,hrun⟩:=hok a.eval w ha.eU hw
 unfold Oper.wp
 obtain ⟨hC,hW⟩:=hk v w'.heap hR
 have key:(kC l.toArray k (L.setIfInBounds i true)→C w'.heap)∧Ef P .any l.toArray (ia (cX n Q w0)) C k fuel (L.setIfInBounds i true) (a.put o.dst v) w':=by
   refine ⟨fun hE=>?_,by rw [hd];exact hW w0 _ w' (hs.trans hs') ha rfl⟩
   rcases Nat.lt_or_ge i k with h' | h'
   · exact hC (tm h')
   · have h1:=hE i h' (by simpa using (List.getElem?_eq_some_iff.1 hi).1)
     have h2:=iO (hlt (by simpa [Nat.ble_eq] using h'))
     simp [h2] at h1
 rcases hrun with hrun | ⟨hrun,rfl⟩ <;> rw [hrun] <;> simp only [Oper.upon] <;> exact key
theorem aE.call {o:Oper} {i t:Nat} {fk:FuncId} {xs:List Operand} {vs:List Value} {ts:Array TypeId} {R:Value→ah→Prop} (hi:l[i]?=some o) (ho:o.op=.call { callee:=.value (.func fk),args:=⟨xs⟩,argTypes:=ts })
   (hc:∀ (args:Array Value) (w:World),(callFunc fk args).run P w=.ok (.enter fk args) w)
   (hx:xs.map f.ev=vs.map some) (hR:ag P fk ⟨vs⟩ h R) (hg:goes f l o=true) (hd:o.dst=some t) (ht:Nat.blt t n.n=true)
   (hk:∀ v h',R v h'→(Nat.blt i k=true→C h')∧WH P n l Q C k fuel (L.setIfInBounds i true) ((t,v) :: f) h') (hlt:Nat.ble k i=true→Nat.blt i L.size=true):aE P n l Q C k fuel L f h i:=by
 intro w0 a w hs ha hw
 unfold wpOp
 have hi':l.toArray[i]?=some o:=by simpa using hi
 simp only [hi',if_pos (cE ha hg)]
 refine .inl ?_
 have hargs:xs.map a.eval=vs:=by
   clear ho hR
   induction xs generalizing vs with
   | nil=>cases vs <;> simp_all
   | cons x xs ih =>
     cases vs with
     | nil=>simp at hx
     | cons v vs =>
       simp only [List.map_cons,List.cons.injEq] at hx ⊢
       exact ⟨ha.eU _ _ hx.1,ih hx.2⟩
 unfold Oper.wp
 have hrun:(execOp a.eval o).run P w=.ok (.enter fk ⟨vs⟩) w:=by
   have e2:Array.map a.eval ⟨xs⟩=⟨vs⟩:=by rw [← hargs];simp
   simp [execOp,ho,resolve,Deferred.ofValue,invoke,Act.eval,e2,hc]
 rw [hrun]
 simp only [Oper.upon]
 refine (hR w hw).mono fun e w' ⟨hs',v,he,hv⟩=>?_
 subst he
 obtain ⟨hC,hW⟩:=hk v w'.heap hv
 refine ⟨fun hE=>?_,by rw [hd];exact hW w0 _ w' (hs.trans hs') (ha.put ht _) rfl⟩
 rcases Nat.lt_or_ge i k with h' | h'
 · exact hC (tm h')
 · have h1:=hE i h' (by simpa using (List.getElem?_eq_some_iff.1 hi).1)
   have h2:=iO (hlt (by simpa [Nat.ble_eq] using h'))
   simp [h2] at h1
def WS (P:Program) (n:Env) (l0 l:List Oper) (K:Fr→Prop) (f:Fr) (h:ah):Prop :=
 ∀ (a:Act) (w:World),j7 n a f→w.heap=h→wpStill P l0.toArray w (fun a'=>∃ g,j7 n a' g∧K g) l a
theorem fz {ops:Array Oper} {w:World} {K K':Act→Prop} (hK:∀ a,K a→K' a):∀ (l:List Oper) (a:Act),wpStill P ops w K l a→wpStill P ops w K' l a
 | [],a,hq=>hK a hq
 | o :: l,a,hq=>by
   unfold wpStill at hq ⊢
   split
   · rename_i hw
     rw [if_pos hw] at hq
     unfold Oper.still at hq ⊢
     generalize (execOp a.eval o).run P w=r at hq ⊢
     cases r with
     | ok x w2 =>
       cases x <;> simp only [Oper.stillUpon] at hq ⊢ <;> first | exact hq | exact ⟨hq.1,fz hK l _ hq.2⟩ | skip
       obtain ⟨h1,v,h2,h3⟩:=hq
       exact ⟨h1,v,h2,fz hK l _ h3⟩
     | halt x w2=>exact hq
   · rename_i hw
     rw [if_neg hw] at hq
     exact fz hK l _ hq
theorem ni {Q:Exit→Act→World→Prop} {a:Act} {w:World} {l:List Oper} (n:Nat) (hB:Region.lexTailB .any l.toArray n=true)
   (h:wpStill P l.toArray w (fun a'=>wpList P l.toArray Q (l.drop n) a' w) (l.take n) a):wpAny P .any l.toArray Q l.toArray.size (Array.replicate l.toArray.size false) a w:=by
 simp only [Region.lexTailB,Bool.and_eq_true,decide_eq_true_eq] at hB
 obtain ⟨⟨⟨⟨hsel,hn⟩,hs⟩,hc⟩,hlex⟩:=hB
 have hn':n < l.length:=by simpa using hn
 have htl:(l.take n).length=n:=by simp;omega
 have hdl:(l.drop n).length=l.toArray.size - n:=by simp
 have JO:HeadInv .any l.toArray n (Array.replicate l.toArray.size false) :=
   ⟨by simp,fun j oj _ hl=>(by rw [getD_replicate_false] at hl;cases hl),fun t _ ht=>getD_in (by simpa using ht) (getD_replicate_false _ _)⟩
 have H:=wpAnyL_lex (P:=P) (md:=.any) (g:=l.toArray.size - n) hsel hs hc hn (l.take n) 0 _ a (fun j hj=>by
   have hj':j < n:=by rw [htl] at hj;exact hj
   simp [hj']) (by simpa using htl) JO (by rw [htl];exact hlex) h
 have:=wpAny_of_head (P:=P) (Q':=Q) (g:=l.toArray.size - n) (fun listed a' hL=>by
   have:=wpAny_of_seq (P:=P) (md:=.any) (Q':=Q) (l.drop n) n listed a' w (fun j=>by simp [List.getElem?_drop]) (by rw [hdl];exact hL.1) hL.2
   rwa [hdl] at this) _ _ _ H
 rw [htl,show n+(l.toArray.size - n)=l.toArray.size by omega] at this
 exact this
theorem WC.kD {id:Nat} {l:List Oper} (k:Nat) (hm:P.follows .mixedOrders=true) (hB:Region.lexTailB .any l.toArray k=true)
   (hq:WS P n l (l.take k) (fun g=>WL P n l (l.drop k) Q g h) f h) (hd:n.ro=Option.none∨jE l=true:=by first | exact .inl rfl | exact .inr rfl):WC P n (.region id l.toArray true) Q f h:=by
 intro a w ha hw
 refine sZ (by simpa using hd) cX.shut hm (ni k hB ?_)
 refine fz ?_ _ _ (hq a { w with drawn:=w.drawn+1 } ha hw)
 rintro a' ⟨g,hg,hk⟩
 exact hH (w:=w) (w':={ w with drawn:=w.drawn+1 }) ⟨rfl,rfl,rfl,trivial⟩ _ _ _ (hk a' { w with drawn:=w.drawn+1 } hg hw)
variable {K:Fr→Prop} {l0 rest:List Oper}
theorem WS.nil (hk:K f):WS P n l0 [] K f h:=fun _ _ ha _=>⟨f,ha,hk⟩
theorem WS.step {o:Oper} {v:Value} {t:Nat} (hok:bK P f o h v) (hg:goes f l0 o=true) (hd:o.dst=some t) (ht:Nat.blt t n.n=true) (hk:WS P n l0 rest K ((t,v) :: f) h):WS P n l0 (o :: rest) K f h:=by
 intro a w ha hw
 refine wpStill_step fun K' hK'=>?_
 rw [if_pos (cE ha hg)]
 unfold Oper.still
 rw [hok _ w ha.eU hw,Oper.stillUpon_value,hd]
 exact hK' _ (hk _ w (ha.put ht _) hw)
theorem WS.pass {o:Oper} {t:Nat} (hg:stops f l0 o=true) (hd:o.dst=some t) (ht:Nat.blt t n.n=true) (hk:WS P n l0 rest K ((t,undef) :: f) h):WS P n l0 (o :: rest) K f h:=by
 intro a w ha hw
 refine wpStill_step fun K' hK'=>?_
 rw [if_neg (by rw [fv ha hg];exact Bool.false_ne_true),hd]
 exact hK' _ (hk _ w (ha.put ht _) hw)
end
section
variable {P:Program} {f:Fr} {h:ah} {d:Option Tmp} {ty:TypeId} {pos:String} {af:Array Edge} {g:Option (Nat × Bool)}
theorem pD {t e:TypeId} {x lo hi mx:Operand} {A:Option Addr} {n c sz:Nat} {l k m:Int} (ht:P.underlying t=some (.slice e)) (hz:∀ w,(sizeOf e).run P w=.ok sz w) (hx:f.ev x=some (.slice A n c)) (hlo:f.ev lo=some (In l)) (hhi:f.ev hi=some (In k)) (hmx:f.ev mx=some (In m)) (h0:0≤l∧l≤k∧k≤m∧m≤c) :
   bK P f ⟨d,.slice t x (some lo) (some hi) (some mx),ty,pos,af,g⟩ h (.slice (if m.toNat=l.toNat then A else A.map (·.add (l.toNat * sz))) (k.toNat - l.toNat) (m.toNat - l.toNat)) :=
 fun ρ w ha _=>by
   have e:(k.toNat:Int)=k:=Int.toNat_of_nonneg (by omega)
   have e':(m.toNat:Int)=m:=Int.toNat_of_nonneg (by omega)
   have e1:(0≤l∧l≤k):=⟨h0.1,h0.2.1⟩
   have e2:(0≤k∧k≤m):=⟨by omega,h0.2.2.1⟩
   have e3:(0≤m∧m≤(c:Int)):=⟨by omega,h0.2.2.2⟩
   simp [execOp,ha _ _ hx,ha _ _ hlo,ha _ _ hhi,ha _ _ hmx,Instr.sliceAt,Instr.slice,run_underlying ht,Instr.sliceBounds,Instr.sliceBound,asIntOf,e1,e2,e3,e,e',hz]
theorem re {t e:TypeId} {x hi mx:Operand} {A:Option Addr} {n c sz:Nat} {k m:Int} (ht:P.underlying t=some (.slice e)) (hz:∀ w,(sizeOf e).run P w=.ok sz w) (hx:f.ev x=some (.slice A n c)) (hhi:f.ev hi=some (In k)) (hmx:f.ev mx=some (In m)) (h0:0≤k∧k≤m∧m≤c) :
   bK P f ⟨d,.slice t x Option.none (some hi) (some mx),ty,pos,af,g⟩ h (.slice A k.toNat m.toNat) :=
 fun ρ w ha _=>by
   have e':(m.toNat:Int)=m:=Int.toNat_of_nonneg (by omega)
   have e2:(0≤k∧k≤m):=⟨h0.1,h0.2.1⟩
   have e3:(0≤m∧m≤(c:Int)):=⟨by omega,h0.2.2⟩
   have e4:(if m.toNat=0 then A else A.map (·.add (0 * sz)))=A:=by
     split
     · rfl
     · cases A <;> simp [Addr.add_zero']
   simp [execOp,ha _ _ hx,ha _ _ hhi,ha _ _ hmx,Instr.sliceAt,Instr.slice,run_underlying ht,Instr.sliceBounds,Instr.sliceBound,asIntOf,e2,e3,e',hz] at e4 ⊢
   exact e4
theorem ma {t e:TypeId} {x hi:Operand} {A:Option Addr} {n c sz k:Nat} (ht:P.underlying t=some (.slice e)) (hz:∀ w,(sizeOf e).run P w=.ok sz w) (hx:f.ev x=some (.slice A n c)) (hhi:f.ev hi=some (In (k:Int))) (h0:k≤c) :
   bK P f ⟨d,.slice t x Option.none (some hi) Option.none,ty,pos,af,g⟩ h (.slice A k c):=na ht hz hx hhi ⟨by omega,by omega⟩
theorem eQ {t e:TypeId} {x lo:Operand} {A:Option Addr} {n c sz l:Nat} (ht:P.underlying t=some (.slice e)) (hz:∀ w,(sizeOf e).run P w=.ok sz w) (hx:f.ev x=some (.slice A n c)) (hlo:f.ev lo=some (In (l:Int))) (h0:l≤n) :
   bK P f ⟨d,.slice t x (some lo) Option.none Option.none,ty,pos,af,g⟩ h (.slice (if c=l then A else A.map (·.add (l * sz))) (n - l) (c - l)):=td ht hz hx hlo ⟨by omega,by omega⟩
theorem fA {t e:TypeId} {x hi mx:Operand} {A:Option Addr} {n c sz k m:Nat} (ht:P.underlying t=some (.slice e)) (hz:∀ w,(sizeOf e).run P w=.ok sz w) (hx:f.ev x=some (.slice A n c)) (hhi:f.ev hi=some (In (k:Int))) (hmx:f.ev mx=some (In (m:Int))) (h0:k≤m∧m≤c) :
   bK P f ⟨d,.slice t x Option.none (some hi) (some mx),ty,pos,af,g⟩ h (.slice A k m):=re ht hz hx hhi hmx ⟨by omega,by omega,by omega⟩
theorem dv {t e:TypeId} {x lo hi:Operand} {A:Option Addr} {n c sz l k:Nat} (ht:P.underlying t=some (.slice e)) (hz:∀ w,(sizeOf e).run P w=.ok sz w) (hx:f.ev x=some (.slice A n c)) (hlo:f.ev lo=some (In (l:Int))) (hhi:f.ev hi=some (In (k:Int))) (h0:l≤k∧k≤c) :
   bK P f ⟨d,.slice t x (some lo) (some hi) Option.none,ty,pos,af,g⟩ h (.slice (if c=l then A else A.map (·.add (l * sz))) (k - l) (c - l)):=qY ht hz hx hlo hhi ⟨by omega,by omega,by omega⟩
theorem kE {x y:Operand} {k:IntKind} {a b:Int} {ts:Array TypeId} (hx:f.ev x=some (.int k a)) (hy:f.ev y=some (.int k b)) :
   bK P f ⟨d,.call { callee:=.builtin .min,args:=#[x,y],argTypes:=ts },ty,pos,af,g⟩ h (.int k (if b < a then b else a)) :=
 fun ρ w ha _=>by simp [execOp,resolve,invoke,builtin,ha _ _ hx,ha _ _ hy,Builtin.min_,Builtin.min2]
theorem pE {x y:Operand} {k:IntKind} {a b:Int} {ts:Array TypeId} (hx:f.ev x=some (.int k a)) (hy:f.ev y=some (.int k b)) :
   bK P f ⟨d,.call { callee:=.builtin .max,args:=#[x,y],argTypes:=ts },ty,pos,af,g⟩ h (.int k (if a < b then b else a)) :=
 fun ρ w ha _=>by simp [execOp,resolve,invoke,builtin,ha _ _ hx,ha _ _ hy,Builtin.max_,Builtin.max2]
theorem wG {t e:TypeId} {x:Operand} {A:Option Addr} {b o k c:Nat} {cs:List Value} {z:Value} {ts:Array TypeId} (hts:ts=#[t]) (hu:P.underlying t=some (.slice e)) (hz:∀ w,(zeroValue e).run P w=.ok z w) (hx:f.ev x=some (.slice A k c)) (hA:A=some ⟨b,o,Option.none⟩) (hk:0 < k)
   (hb:h[b]?=some (.cells ⟨cs⟩ e (0,0))) (ho:o+k * z.cells.size≤cs.length) (MA:z.cells.all (·.oneCell')=true) :
   eO P f ⟨d,.call { callee:=.builtin .clear,args:=#[x],argTypes:=ts },ty,pos,af,g⟩ h
     (fun _ h'=>∃ cs',h'[b]?=some (.cells ⟨cs'⟩ e (0,0))∧cs'.length=cs.length∧(∀ j,j≤o→cs'.take j=cs.take j)∧Ext (fun k=>k=b) h h') :=
 fun ρ w ha hw=>by
   subst hts
   subst hw
   subst hA
   have h1:∀ v∈(Builtin.zeroCells z.cells k).toList,v.oneCell'=true:=by
     intro v hv
     simp only [Builtin.zeroCells,Array.toList_map,List.mem_map,Array.toList_range,List.mem_range] at hv
     obtain ⟨i,hi,rfl⟩:=hv
     have hp:0 < z.cells.size:=by
       rcases Nat.eq_zero_or_pos z.cells.size with e | e
       · rw [e] at hi;omega
       · exact e
     have hlt:i % z.cells.size < z.cells.size:=Nat.mod_lt _ hp
     rw [getElem!_pos z.cells _ hlt]
     exact Array.all_eq_true.1 MA _ hlt
   have hl:(Builtin.zeroCells z.cells k).toList.length=k * z.cells.size:=by simp [Builtin.zeroCells]
   obtain ⟨w',hr,hs,hh⟩:=cN (P:=P) b e (Builtin.zeroCells z.cells k).toList 0 o cs w hb (by rw [hl];omega) h1
   refine ⟨.tuple #[],w',hs,⟨_,by rw [hh];exact dI hb,?_,?_,by rw [hh];exact .set _ _ _ rfl⟩,.inl ?_⟩
   · simp only [Nat.add_zero,List.length_append,List.length_take,List.length_drop,hl];omega
   · intro j hj
     simp only [Nat.add_zero,List.append_assoc]
     rw [List.take_append_of_le_length (by simp;omega),List.take_take]
     congr 1
     omega
   · cases k with
     | zero=>omega
     | succ k=>simp [execOp,resolve,invoke,builtin,ha _ _ hx,Builtin.clear_,run_underlying hu,hz,hr]
theorem rf {x y:Operand} {t e:TypeId} {i:TypeInfo} {sz:Nat} {ts:Array TypeId} (hts:ts=#[t,t]) (ht:P.underlying t=some (.slice e)) (hi:P.info? e=some i) (hsz:i.size=sz)
   {u:Value} {b n c m:Nat} {cs news:List Value} (hx:f.ev x=some (.slice (some ⟨b,0,Option.none⟩) n c)) (hy:f.ev y=some u) (hb:h[b]?=some (.cells ⟨cs⟩ e (0,0))) (hcs:cs.length=c * sz) (hrd:Rd h u sz m news) (h1:∀ c∈news,c.oneCell'=true) (hroom:n+m≤c) :
   eO P f ⟨d,.call { callee:=.builtin .append,args:=#[x,y],argTypes:=ts },ty,pos,af,g⟩ h
     (fun v' h'=>v'=.slice (some ⟨b,0,Option.none⟩) (n+m) c∧h'[b]?=some (.cells ⟨cs.take (n * sz)++news++cs.drop ((n+m) * sz)⟩ e (0,0))∧Ext (fun k=>k=b) h h') :=
 fun ρ w ha hw=>by
   subst hw
   subst hts
   subst hsz
   obtain ⟨A,c',rfl,hc,hl,hp⟩:=hrd
   have hfit:n * i.size+news.length≤cs.length:=by rw [hl,hcs,← Nat.add_mul];exact Nat.mul_le_mul_right _ hroom
   rcases A with _ | a
   · have hm : m = 0 := by
       rcases Nat.eq_zero_or_pos m with e | e
       · exact e
       · obtain ⟨b,o,e,_⟩:=hp e;cases e
     subst hm
     obtain rfl:news=[]:=List.eq_nil_of_length_eq_zero (by simpa using hl)
     refine ⟨_,w,.refl w,⟨rfl,by simpa using hb,.refl _ _⟩,.inl ?_⟩
     have hn:n≤c:=by omega
     simp [execOp,resolve,invoke,builtin,ha _ _ hx,ha _ _ hy,Builtin.append_,run_underlying ht,sizeOf,typeInfo,hi,Builtin.lenOf,Builtin.firstCells,hn,storeCells]
   · have hnews : ∀ j u, news[j]? = some u → w.cell? (a.add j) = some u := by
       intro j u hj
       have hm:0 < m:=by
         rcases Nat.eq_zero_or_pos m with e | e
         · subst e
           have:news=[]:=List.eq_nil_of_length_eq_zero (by simpa using hl)
           subst this
           simp at hj
         · exact e
       obtain ⟨b,o,e,_,hat⟩:=hp hm
       injection e with e
       subst e
       rw [Addr.add_lit]
       exact hat j u hj
     have hr:=run_append_room (P:=P) w t ty e i ht hi b n c ⟨cs⟩ hb a m c' news hl hnews h1 hroom (by simpa using hfit)
     refine ⟨_,w.setRow b (cs.take (n * i.size)++news++cs.drop (n * i.size+news.length)).toArray,⟨rfl,rfl,rfl,trivial⟩,⟨rfl,?_,⟨by simp [World.setRow],fun k _ hk=>setRow_other w b k _ (fun e=>hk (by omega))⟩⟩,.inl (by simp only [execOp,resolve,invoke,builtin,Sem.run_bind,Sem.run_pure,Result.andThen_ok,List.map_toArray,List.map_cons,List.map_nil,ha _ _ hx,ha _ _ hy,hr])⟩
     have e1:n * i.size+news.length=(n+m) * i.size:=by rw [hl,Nat.add_mul]
     rw [setRow_heap w b ⟨cs⟩ _ e _ hb,e1]
theorem Rd.drop {A:Option Addr} {n c sz l:Nat} {xs:List Value} (r:Rd h (.slice A n c) sz n xs) (hl:l≤n) :
   Rd h (.slice (if c=l then A else A.map (·.add (l * sz))) (n - l) (c - l)) sz (n - l) (xs.drop (l * sz)):=by
 obtain ⟨A',c',e,r'⟩:=oC r hl (Nat.le_refl n)
 simp only [Value.slice.injEq] at e
 obtain ⟨rfl,_,rfl⟩:=e
 rwa [List.take_of_length_le (by
   obtain ⟨_,_,_,_,hlen,_⟩:=r
   rw [List.length_drop,hlen,← Nat.sub_mul]
   exact Nat.le_refl _)] at r'
theorem Rd.take {A:Option Addr} {n c sz k:Nat} {xs:List Value} (r:Rd h (.slice A n c) sz n xs) (hk:k≤n):Rd h (.slice A k c) sz k (xs.take (k * sz)):=by
 obtain ⟨A',c',e,hc,hlen,hp⟩:=r
 simp only [Value.slice.injEq] at e
 obtain ⟨rfl,_,rfl⟩:=e
 refine ⟨A,c,rfl,by omega,?_,fun hn=>?_⟩
 · rw [List.length_take,hlen];exact Nat.min_eq_left (Nat.mul_le_mul_right _ hk)
 · obtain ⟨b,o,e,hb,hat⟩:=hp (by omega)
   exact ⟨b,o,e,hb,hat.take _⟩
theorem Own.block {v:Value} {e:TypeId} {sz n:Nat} {xs:List Value} (r:Own h v e sz n xs) (hn:0 < n):∃ b c cs,v=.slice (some ⟨b,0,Option.none⟩) n c∧h[b]?=some (.cells ⟨cs⟩ e (0,0))∧n≤c∧c≤maxLen∧cs.length=c * sz∧cs.take (n * sz)=xs:=by
 obtain ⟨hl,⟨rfl,rfl⟩ | ⟨b,c,cur,rfl,hb,h1,h2,h3,h4⟩⟩:=r
 · omega
 · exact ⟨b,c,cur.toList,rfl,hb,h1,h2,by simpa using h3,h4⟩
theorem Own.au {b c sz n:Nat} {cs:List Value} {e:TypeId} {xs:List Value} (hb:h[b]?=some (.cells ⟨cs⟩ e (0,0))) (hn:n≤c) (hm:c≤maxLen) (hl:cs.length=c * sz) (hx:cs.take (n * sz)=xs):Own h (.slice (some ⟨b,0,Option.none⟩) n c) e sz n xs:=by
 refine ⟨?_,.inr ⟨b,c,⟨cs⟩,rfl,hb,hn,hm,by simpa using hl,hx⟩⟩
 rw [← hx,List.length_take,hl]
 exact Nat.min_eq_left (Nat.mul_le_mul_right _ hn)
theorem bR {h:ah} {v v':Value} (hl:v'.ownBlock=v.ownBlock∨v'.ownBlock=some h.size) {B:Nat} (hv:∀ k,v.ownBlock=some k→B≤k) (hB:B≤h.size):∀ k,v'.ownBlock=some k→B≤k:=by
 intro k hk
 rcases hl with e | e
 · exact hv k (e▸hk)
 · rw [e] at hk;injection hk with hk;omega
end
@[reducible] def By (b:UInt8):Value:=.int .u8 b.toNat
abbrev bu (l:List UInt8):List Value:=l.map By
theorem u6 (l:List UInt8):∀ v∈bu l,v.oneCell'=true:=by
 intro v hv
 obtain ⟨x,_,rfl⟩:=List.mem_map.1 hv
 rfl
section
variable {P:Program} {f:Fr} {h:ah} {d:Option Tmp} {ty:TypeId} {pos:String} {af:Array Edge} {g:Option (Nat × Bool)}
section ints
variable {t t2:TypeId} {x y:Operand} {k:IntKind} {a b:Int}
theorem Ff (hx:f.ev x=some (.int k a)) (hy:f.ev y=some (.int k b)) (hb:b ≠ 0):bK P f ⟨d,.binOp .quo t x y t2,ty,pos,af,g⟩ h (.int k (k.wrap (a.tdiv b))) :=
 fun ρ w ha _=>by simp [execOp,ha _ _ hx,ha _ _ hy,eqGuard,binOp,Op.intDiv,hb]
theorem yo (hx:f.ev x=some (.int k a)) (hy:f.ev y=some (.int k b)) (hb:b ≠ 0):bK P f ⟨d,.binOp .rem t x y t2,ty,pos,af,g⟩ h (.int k (a.tmod b)) :=
 fun ρ w ha _=>by simp [execOp,ha _ _ hx,ha _ _ hy,eqGuard,binOp,Op.intDiv,hb]
theorem jl (hx:f.ev x=some (In a)) (hy:f.ev y=some (In b)) (hb:b ≠ 0) (h0 : -9223372036854775808≤a.tdiv b∧a.tdiv b≤9223372036854775807):bK P f ⟨d,.binOp .quo t x y t2,ty,pos,af,g⟩ h (In (a.tdiv b)):=by
 have:=Ff (P:=P) (d:=d) (ty:=ty) (pos:=pos) (af:=af) (g:=g) (h:=h) (t:=t) (t2:=t2) hx hy hb
 rwa [wrap_i64 _ h0.1 h0.2] at this
theorem kF {a b:Int} (h : -9223372036854775808≤a∧a≤9223372036854775807) (hb:1 < b) : -9223372036854775808≤a.tdiv b∧a.tdiv b≤9223372036854775807:=by
 have h1:(a.tdiv b).natAbs≤a.natAbs:=by rw [Int.natAbs_tdiv];exact Nat.div_le_self _ _
 by_cases h0:a < 0
 · have:a.tdiv b≤0:=(by rw [← Int.neg_neg a,Int.neg_tdiv];have:0≤(-a).tdiv b:=Int.tdiv_nonneg (by omega) (by omega);omega)
   omega
 · have:0≤a.tdiv b:=Int.tdiv_nonneg (by omega) (by omega)
   omega
theorem Fg (hx:f.ev x=some (.int k a)):bK P f ⟨d,.unOp .neg t x,ty,pos,af,g⟩ h (.int k (k.wrap (0 - a))) :=
 fun ρ w ha _=>by simp [execOp,ha _ _ hx,Op.unary,Op.intArith]
theorem pF (hx:f.ev x=some (In a)) (h0 : -9223372036854775808 ≤ -a ∧ -a≤9223372036854775807):bK P f ⟨d,.unOp .neg t x,ty,pos,af,g⟩ h (In (-a)):=by
 have:=Fg (P:=P) (d:=d) (ty:=ty) (pos:=pos) (af:=af) (g:=g) (h:=h) (t:=t) hx
 rwa [wrap_i64 _ (by omega) (by omega),Int.zero_sub] at this
theorem mH {src dst:TypeId} {u:TypeDesc} {k2:IntKind} (hs:P.underlying src=some u) (hd:P.underlying dst=some (.int k2)) (hx:f.ev x=some (.int k a)) :
   bK P f ⟨d,.convert src dst x,ty,pos,af,g⟩ h (.int k2 (k2.wrap a)) :=
 fun ρ w ha _=>by simp [execOp,ha _ _ hx,convert,run_underlying hs,run_underlying hd,Conv.intToInt]
theorem kG {src dst:TypeId} {u:TypeDesc} (hs:P.underlying src=some u) (hd:P.underlying dst=some (.int .i64)) (hx:f.ev x=some (.int k a)) (h0 : -9223372036854775808≤a∧a≤9223372036854775807) :
   bK P f ⟨d,.convert src dst x,ty,pos,af,g⟩ h (In a):=by
 have:=mH (P:=P) (d:=d) (ty:=ty) (pos:=pos) (af:=af) (g:=g) (h:=h) hs hd hx
 rwa [wrap_i64 _ h0.1 h0.2] at this
theorem oE {src dst:TypeId} {u:TypeDesc} (hs:P.underlying src=some u) (hd:P.underlying dst=some (.int .u8)) (hx:f.ev x=some (.int k a)) (h0:0≤a∧a < 256) :
   bK P f ⟨d,.convert src dst x,ty,pos,af,g⟩ h (.int .u8 a):=by
 have:=mH (P:=P) (d:=d) (ty:=ty) (pos:=pos) (af:=af) (g:=g) (h:=h) hs hd hx
 rwa [IntKind.wrap_u8,Int.emod_eq_of_lt h0.1 h0.2] at this
end ints
theorem mb {t:TypeId} {x lo:Operand} {a:List UInt8} {k:IntKind} {i:Int} (hu:P.underlying t=some .string) (hx:f.ev x=some (St a)) (hlo:f.ev lo=some (.int k i)) (h0:0≤i∧i≤a.length) :
   bK P f ⟨d,.slice t x (some lo) Option.none Option.none,ty,pos,af,g⟩ h (St (a.drop i.toNat)) :=
 fun ρ w ha _=>by
   have hs:(ByteArray.mk ⟨a⟩).size=a.length:=rfl
   have e:(ByteArray.mk ⟨a⟩).extract i.toNat a.length=ByteArray.mk ⟨(a.drop i.toNat).take (a.length - i.toNat)⟩:=ByteArray.extract_mk a _ _
   have e2:(a.drop i.toNat).take (a.length - i.toNat)=a.drop i.toNat:=List.take_of_length_le (by simp)
   rw [e2] at e
   have h1:0≤i∧i≤(a.length:Int):=h0
   simp [execOp,ha _ _ hx,ha _ _ hlo,Instr.sliceAt,run_underlying hu,Instr.slice,Instr.sliceBounds,Instr.sliceBound,asIntOf,hs,h1,e]
theorem mc {t:TypeId} {x hi:Operand} {a:List UInt8} {k:IntKind} {j:Int} (hu:P.underlying t=some .string) (hx:f.ev x=some (St a)) (hhi:f.ev hi=some (.int k j)) (h0:0≤j∧j≤a.length) :
   bK P f ⟨d,.slice t x Option.none (some hi) Option.none,ty,pos,af,g⟩ h (St (a.take j.toNat)) :=
 fun ρ w ha _=>by
   have hs:(ByteArray.mk ⟨a⟩).size=a.length:=rfl
   have e:(ByteArray.mk ⟨a⟩).extract 0 j.toNat=ByteArray.mk ⟨(a.drop 0).take (j.toNat - 0)⟩:=ByteArray.extract_mk a _ _
   have h1:0≤j∧j≤(a.length:Int):=h0
   simp only [List.drop_zero,Nat.sub_zero] at e
   simp [execOp,ha _ _ hx,ha _ _ hhi,Instr.sliceAt,run_underlying hu,Instr.slice,Instr.sliceBounds,Instr.sliceBound,asIntOf,hs,h1,e]
theorem jS {src dst e:TypeId} {x:Operand} {a:List UInt8} {u:TypeDesc} (hs:P.underlying src=some u) (hd:P.underlying dst=some (.slice e)) (he:P.underlying e=some (.int .u8)) (hx:f.ev x=some (St a)) :
   eO P f ⟨d,.convert src dst x,ty,pos,af,g⟩ h (fun v h'=>∃ b c,v=.slice (some ⟨b,0,Option.none⟩) a.length c∧h.size≤b∧Rd h' v 1 a.length (bu a)∧Ext No h h') :=
 fun ρ w ha hw=>by
   subst hw
   have hr:=Lib.run_convert_string_bytes (P:=P) w src dst e ⟨⟨a⟩⟩ hs hd he
   have hsz:=Lib.bytesWorld_size w e ⟨⟨a⟩⟩
   have hcap:a.length≤grownCap w (ByteArray.mk ⟨a⟩).size 0 e:=by
     have:(ByteArray.mk ⟨a⟩).size=a.length:=rfl
     rw [this]
     exact grownCap_ge w _ _ e
   refine ⟨_,Lib.bytesWorld w e ⟨⟨a⟩⟩,?_,⟨w.heap.size,_,rfl,Nat.le_refl _,⟨_,_,rfl,hcap,by simp,fun _=>⟨_,0,rfl,by omega,fun j v hj=>?_⟩⟩,⟨by omega,fun b hb _=>Lib.bytesWorld_at_old w e _ b hb⟩⟩,.inl ?_⟩
   · unfold Lib.bytesWorld World.freeze
     split <;> exact ⟨rfl,rfl,rfl,trivial⟩
   · have hj':j < a.length:=by simpa using (List.getElem?_eq_some_iff.1 hj).1
     have:=Lib.bytesWorld_cell w e ⟨⟨a⟩⟩ j hj'
     rw [Nat.zero_add]
     refine Eq.trans this ?_
     rw [← hj]
     simp [List.getD,hj']
   · simp [execOp,ha _ _ hx,hr]
     rfl
theorem foldl_push (l:List UInt8) (s:List UInt8):(l.map fun b=>(b.toNat:Int)).foldl (fun r n=>r.push (UInt8.ofNat n.toNat)) (ByteArray.mk ⟨s⟩)=ByteArray.mk ⟨s++l⟩:=by
 induction l generalizing s with
 | nil=>simp
 | cons b l ih =>
   have e:(ByteArray.mk ⟨s⟩).push (UInt8.ofNat (b.toNat:Int).toNat)=ByteArray.mk ⟨s++[b]⟩:=by
     apply ByteArray.ext
     simp [ByteArray.push]
   rw [List.map_cons,List.foldl_cons,e,ih]
   simp
theorem dS {src dst e:TypeId} {x:Operand} {A:Option Addr} {n c:Nat} {l:List UInt8} (hs:P.underlying src=some (.slice e)) (he:P.underlying e=some (.int .u8)) (hd:P.underlying dst=some .string) (hx:f.ev x=some (.slice A n c)) (hr:Rd h (.slice A n c) 1 n (bu l)) :
   bK P f ⟨d,.convert src dst x,ty,pos,af,g⟩ h (St l) :=
 fun ρ w ha hw=>by
   subst hw
   have hl:l.length=n:=by obtain ⟨_,_,_,_,hl,_⟩:=hr;simpa using hl
   subst hl
   cases A with
   | none =>
     have h0:l=[]:=by
       cases l with
       | nil=>rfl
       | cons a l=>obtain ⟨b,o,e,_⟩:=Rd.at_ hr (by simp);cases e
     subst h0
     simp only [execOp,ha _ _ hx,Sem.run_bind]
     rw [run_convert_bytes_string w src dst e _ _ _ hs he hd]
     rfl
   | some p =>
     have hcells:(loadCells p l.length).run P w=.ok ((l.map fun b=>(b.toNat:Int)).map (Value.int .u8)).toArray w:=by
       have e:(l.map fun b=>(b.toNat:Int)).map (Value.int .u8)=bu l:=by simp
       rw [e]
       have:l.length=(bu l).length:=by simp
       rw [this]
       refine run_loadCells_list w p _ fun j v hj=>?_
       obtain ⟨b,o,e,_,hat⟩:=Rd.at_ hr (by
         have:=(List.getElem?_eq_some_iff.1 hj).1
         simp at this;omega)
       injection e with e
       subst e
       rw [Addr.add_lit]
       exact hat j v hj
     simp only [execOp,ha _ _ hx,Sem.run_bind]
     rw [run_convert_bytes_string w src dst e _ _ _ hs he hd,run_bytesToString w p _ _ _ hcells]
     have:=foldl_push l []
     have e0:(ByteArray.empty:ByteArray)=ByteArray.mk ⟨[]⟩:=rfl
     rw [e0,this]
     rfl
theorem nZ {t e:TypeId} {x y:Operand} {i:TypeInfo} {z:Value} {n:Nat} (bytes sz:Nat) (ht:P.underlying t=some (.slice e)) (hi:P.info? e=some i) (hz:i.zero=some z) (hby:i.bytes=bytes) (hsz:i.size=sz) (hx:f.ev x=some (In n)) (hy:f.ev y=some (In n)) (hb:bytes * n≤281474976710656) (hn:n≤maxLen) :
   eO P f ⟨d,.makeSlice t x y,ty,pos,af,g⟩ h (fun v h'=>∃ b zs,v=.slice (some ⟨b,0,Option.none⟩) n n∧h.size≤b∧h'[b]?=some (.cells ⟨zs⟩ e (0,0))∧zs.length=n * sz∧zs=(madeCells z.cells (n * sz)).toList∧Ext No h h') :=
 fun ρ w ha hw=>by
   subst hw
   subst hby
   subst hsz
   unfold maxLen at hn
   have hb':(i.bytes:Int) * (n:Int)≤281474976710656:=by
     have h:((i.bytes * n:Nat):Int)≤281474976710656:=by omega
     rwa [Int.natCast_mul] at h
   have hr:=run_make (P:=P) w t e i z ht hi hz .i64 .i64 n n (by omega) (Int.le_refl _) hb' (by omega)
   simp only [Int.toNat_natCast] at hr
   refine ⟨_,w.alloc (.cells (madeCells z.cells (n * i.size)) e),⟨rfl,rfl,rfl,trivial⟩,⟨w.heap.size,(madeCells z.cells (n * i.size)).toList,rfl,Nat.le_refl _,mZ _ _,?_,rfl,.push _ _ _⟩,.inl ?_⟩
   · rw [Array.length_toList,size_madeCells]
   · simp only [execOp,ha _ _ hx,ha _ _ hy,Sem.run_bind,hr]
     rfl
theorem pG {x:Operand} {a:Addr} {n c:Nat} {ts:Array TypeId} (hx:f.ev x=some (.slice (some a) n c)) (hc:c ≠ 0) :
   bK P f ⟨d,.call { callee:=.builtin .unsafeSliceData,args:=#[x],argTypes:=ts },ty,pos,af,g⟩ h (.pointer (some a)) :=
 fun ρ w ha _=>by
   have:=Lib.run_unsafeSliceData_row (P:=P) w ts ty a n c hc
   simp [execOp,resolve,invoke,builtin,ha _ _ hx,this]
theorem n7 {x:Operand} {n c:Nat} {ts:Array TypeId} (hx:f.ev x=some (.slice Option.none n c)) :
   bK P f ⟨d,.call { callee:=.builtin .unsafeSliceData,args:=#[x],argTypes:=ts },ty,pos,af,g⟩ h (.pointer Option.none) :=
 fun ρ w ha _=>by
   have:=Lib.run_unsafeSliceData_nil (P:=P) w ts ty n c
   simp [execOp,resolve,invoke,builtin,ha _ _ hx,this]
theorem kH {x y:Operand} {pt it:TypeId} {p:Option Addr} {ts:Array TypeId} (hts:ts=#[pt,it]) (hx:f.ev x=some (.pointer p)) (hy:f.ev y=some (In 0)) :
   eO P f ⟨d,.call { callee:=.builtin .unsafeString,args:=#[x,y],argTypes:=ts },ty,pos,af,g⟩ h (fun v h'=>v=St []∧h'=h) :=
 fun ρ w ha hw=>by
   subst hw
   subst hts
   have:=Lib.run_unsafeString_none (P:=P) w pt it ty p
   refine ⟨_,w,.refl w,⟨rfl,rfl⟩,.inl ?_⟩
   simp [execOp,resolve,invoke,builtin,ha _ _ hx,ha _ _ hy,this]
   rfl
theorem lv {x y:Operand} {pt it e:TypeId} {b n:Nat} {cs:List Value} {l:List UInt8} {ts:Array TypeId} (hts:ts=#[pt,it]) (hp:P.underlying pt=some (.pointer e)) (ga:P.cellsOf e=1) (hx:f.ev x=some (.pointer (some ⟨b,0,Option.none⟩))) (hy:f.ev y=some (In n)) (hn:l.length=n)
   (hb:h[b]?=some (.cells ⟨cs⟩ e (0,0))) (hcs:cs.take n=bu l) (hm:n≤maxLen) :
   eO P f ⟨d,.call { callee:=.builtin .unsafeString,args:=#[x,y],argTypes:=ts },ty,pos,af,g⟩ h (fun v h'=>v=St l∧Ext (fun k=>k=b) h h') :=
 fun ρ w ha hw=>by
   subst hw
   subst hts
   subst hn
   unfold maxLen at hm
   by_cases h0:l=[]
   · subst h0
     have:=Lib.run_unsafeString_none (P:=P) w pt it ty (some ⟨b,0,Option.none⟩)
     refine ⟨_,w,.refl w,⟨rfl,.refl _ _⟩,.inl ?_⟩
     simp [execOp,resolve,invoke,builtin,ha _ _ hx,ha _ _ hy,this]
     rfl
   · have hlen : l.length ≤ cs.length := by
       have:=congrArg List.length hcs
       simp at this;omega
     have hsh:w.shape? b=some (e,cs.length):=by simp [World.shape?,hb]
     have hr:=Lib.run_unsafeString_row (P:=P) w pt it ty e hp ga b cs.length hsh l h0 hlen (by omega) (fun j x hj=>by
       rw [Addr.add_lit,mG,Nat.zero_add,cell_of hb]
       have hlt:=(List.getElem?_eq_some_iff.1 hj).1
       have:(cs.take l.length)[j]?=some (By x):=by rw [hcs];simp [hj]
       rw [List.getElem?_take,if_pos hlt] at this
       simpa using this)
     refine ⟨_,w.freeze ⟨b,0,Option.none⟩ l.length,?_,⟨rfl,?_⟩,.inl ?_⟩
     · unfold World.freeze
       split <;> exact ⟨rfl,rfl,rfl,trivial⟩
     · unfold World.freeze
       split
       · exact .refl _ _
       · refine ⟨by simp,fun k _ hk=>?_⟩
         simp only [Array.getElem?_modify]
         rw [if_neg (fun e=>hk e.symm)]
     · simp [execOp,resolve,invoke,builtin,ha _ _ hx,ha _ _ hy,hr]
theorem wH {k:FuncId} {x:Operand} {v u:Value} {ts:Array TypeId} (hc:∀ w:World,(callFunc k #[v]).run P w=.ok (.value u) w) (hx:f.ev x=some v) :
   bK P f ⟨d,.call { callee:=.value (.func k),args:=#[x],argTypes:=ts },ty,pos,af,g⟩ h u :=
 fun ρ w ha _=>by
   have e:ρ (.func k)=.func (.func k) #[] #[]:=ha _ _ rfl
   simp [execOp,resolve,Deferred.ofValue,invoke,e,ha _ _ hx,hc]
theorem rh {src dst t e:TypeId} {j:TypeInfo} {x:Operand} {b o:Nat} {cs:List Value} {z:Nat × Nat} (hs:P.underlying src=some (.pointer t)) (hd:P.underlying dst=some .unsafePointer) (ht:P.info? t=some j) (hj:j.size ≠ 0)
   (hx:f.ev x=some (.pointer (some ⟨b,o,Option.none⟩))) (hb:h[b]?=some (.cells ⟨cs⟩ e z)) (ho:o < cs.length) :
   bK P f ⟨d,.convert src dst x,ty,pos,af,g⟩ h (.pointer (some ⟨b,o,Option.none⟩)) :=
 fun ρ w ha hw=>by
   subst hw
   have hsh:w.shape? b=some (e,cs.length):=by simp [World.shape?,hb]
   have:=Lib.run_to_unsafe (P:=P) w ⟨b,o,Option.none⟩ hs hd ht hj hsh ho
   simp [execOp,ha _ _ hx,this]
theorem n9 {src dst u e:TypeId} {j:TypeInfo} {x:Operand} {b o:Nat} {cs:List Value} {z:Nat × Nat} (hs:P.underlying src=some .unsafePointer) (hd:P.underlying dst=some (.pointer u)) (hu:P.info? u=some j)
   (hx:f.ev x=some (.pointer (some ⟨b,o,Option.none⟩))) (hb:h[b]?=some (.cells ⟨cs⟩ e z)) (hl:liesAt P P.depth e (cs.length / P.cellsOf e) o u 1=true) :
   bK P f ⟨d,.convert src dst x,ty,pos,af,g⟩ h (.pointer (some ⟨b,o,Option.none⟩)) :=
 fun ρ w ha hw=>by
   subst hw
   have hsh:w.shape? b=some (e,cs.length):=by simp [World.shape?,hb]
   have:=Lib.run_from_unsafe (P:=P) w ⟨b,o,Option.none⟩ hs hd hu hsh hl
   simp [execOp,ha _ _ hx,this]
theorem yp {t e t2:TypeId} {j:TypeInfo} {x y:Operand} {a:Addr} (hu:P.underlying t=some (.pointer e)) (he:P.info? e=some j) (hx:f.ev x=some (.pointer (some a))) (hy:f.ev y=some (.pointer (some a))) :
   bK P f ⟨d,.binOp .neq t x y t2,ty,pos,af,g⟩ h (.bool false) :=
 fun ρ w ha _=>by simp [execOp,ha _ _ hx,ha _ _ hy,eqGuard_at_pointer,Lib.run_neq_ptr_same w a hu he]
end
theorem bB {P:Program} {h:ah} {t:TypeId} {b k:Nat} {cs:List Value} {e:TypeId} {z:Nat × Nat} (ht:∀ w,(isAgg t).run P w=.ok true w) (hz:∀ w,(sizeOf t).run P w=.ok k w) (hb:h[b]?=some (.cells ⟨cs⟩ e z)) (hk:cs.length=k) :
   ∀ w:World,w.heap=h→(loadVar t ⟨b,0,Option.none⟩).run P w=.ok (.agg ⟨cs⟩) w:=fun w hw=>by
 subst hw
 subst hk
 have h1:(loadCells ⟨b,0,Option.none⟩ cs.length).run P w=.ok cs.toArray w:=run_loadCells_list w _ cs fun j v hj=>by rw [Addr.add_lit];exact At.au hb j v hj
 simp [loadVar,ht,hz,h1]
theorem bV {h:ah} {v:Value} {e T:TypeId} {sz n b:Nat} {xs cs:List Value} {z:Nat × Nat} (ho:Own h v e sz n xs) (hb:h[b]?=some (.cells ⟨cs⟩ T z)) (hT:T ≠ e):v.ownBlock ≠ some b:=by
 intro h1
 obtain ⟨_,⟨rfl,_⟩ | ⟨g,cap,cur,rfl,hg,_⟩⟩:=ho
 · cases h1
 · simp only [Value.ownBlock,Option.some.injEq] at h1
   subst h1
   rw [hb] at hg
   simp only [Option.some.injEq,Obj.cells.injEq] at hg
   exact hT hg.2.1
theorem tq {h h3:ah} {v v':Value} (hl:v'.ownBlock=v.ownBlock∨v'.ownBlock=some h3.size) (hs:h.size≤h3.size):∀ k,v'.ownBlock=some k→v.ownBlock=some k∨h.size≤k:=by
 intro k hk
 rcases hl with e | e <;> rw [e] at hk
 · exact .inl hk
 · simp only [Option.some.injEq] at hk;exact .inr (by omega)
section
variable {P:Program} {n:Env} {f:Fr} {h:ah} {l0 rest:List Oper} {Q:eV}
theorem WL.dT {o:Oper} {t s:Nat} {k:FuncId} {xs:List Operand} {fs vs us:List Value} {ts:Array TypeId} {R:Value→ah→Prop} (ho:o.op=.call { callee:=.value (.tmp s),args:=⟨xs⟩,argTypes:=ts })
   (hf:f.get s=some (.func (.func k) ⟨fs⟩ ⟨us⟩))
   (hc:∀ (args:Array Value) (w:World),(callFunc k args).run P w=.ok (.enter k args) w)
   (hx:xs.map f.ev=vs.map some) (hR:ag P k ⟨fs++vs++us⟩ h R) (hg:goes f l0 o=true) (hd:o.dst=some t) (ht:Nat.blt t n.n=true) (hk:∀ v h',R v h'→WL P n l0 rest Q ((t,v) :: f) h'):WL P n l0 (o :: rest) Q f h:=by
 intro a w ha hw
 refine wpList_step fun K hK=>?_
 rw [if_pos (cE ha hg)]
 have hargs:xs.map a.eval=vs:=by
   clear ho hR
   induction xs generalizing vs with
   | nil=>cases vs <;> simp_all
   | cons x xs ih =>
     cases vs with
     | nil=>simp at hx
     | cons v vs =>
       simp only [List.map_cons,List.cons.injEq] at hx ⊢
       exact ⟨ha.eU _ _ hx.1,ih hx.2⟩
 unfold Oper.wp
 have hf':a.eval (.tmp s)=.func (.func k) ⟨fs⟩ ⟨us⟩:=ha.eU (.tmp s) _ hf
 have hrun:(execOp a.eval o).run P w=.ok (.enter k ⟨fs++vs++us⟩) w:=by
   have e2:Array.map a.eval ⟨xs⟩=⟨vs⟩:=by rw [← hargs];simp
   have e3:(⟨fs⟩:Array Value)++(⟨vs⟩:Array Value)++(⟨us⟩:Array Value)=⟨fs++vs++us⟩:=by simp
   simp only [execOp,ho,resolve,hf',Deferred.ofValue,e2,Sem.run_bind,Sem.run_pure,Result.andThen_ok,invoke,e3]
   exact hc _ _
 rw [hrun]
 simp only [Oper.upon]
 refine (hR w hw).mono fun e w' ⟨hs,v,he,hv⟩=>?_
 subst he
 rw [hd]
 exact hK _ _ (hH hs _ _ _ (hk v _ hv _ w' (ha.put ht _) rfl))
end
inductive jG where
 | i (k:IntKind) (n:Int)
 | s (l:List UInt8)
 | b (v:Bool)
deriving DecidableEq
inductive Kd where
 | i (k:IntKind)
 | s
 | b
def jG.kd:jG→Kd
 | .i k _=>.i k
 | .s _=>.s
 | .b _=>.b
def jG.val:jG→Value
 | .i k n=>.int k n
 | .s l=>St l
 | .b v=>.bool v
def Kd.ok (P:Program) (t:TypeId):Kd→Bool
 | .i k=>match P.underlying t with | some (.int k')=>k == k' | _=>false
 | .s=>match P.underlying t with | some .string=>true | _=>false
 | .b=>match P.underlying t with | some .bool=>true | _=>false
def ly (P:Program):Nat→List Field→List Kd→Bool
 | _,[],[]=>true
 | o,f :: fs,k :: ks=>f.name != "_" && f.offset == o && P.plainKey f.type && k.ok P f.type && ly P (o+1) fs ks
 | _,_,_=>false
def u7 (P:Program) (t:TypeId) (ks:List Kd):Bool :=
 (match P.underlying t with | some (.struct fs)=>ly P 0 fs.toList ks | _=>false) && !P.stoodInHeld t && !P.eqGuardType P.depth t
section
variable {P:Program}
theorem tr (w:World) (d:Nat) {t:TypeId} {k:Kd} (hk:k.ok P t=true) {a b:jG} (ha:a.kd=k) (hb:b.kd=k):(Op.equalIn (d+1) t a.val b.val).run P w=.ok (decide (a=b)) w:=by
 subst ha
 cases a <;> cases b <;> simp only [jG.kd] at hb <;> try (cases hb)
 · rename_i k n m
   simp only [Kd.ok,jG.kd] at hk
   split at hk
   · rename_i hu
     show (Op.equalIn (d+1) t (.int _ _) (.int _ _)).run P w=_
     rw [run_equalIn_int w d t _ _ _ _ hu]
     simp [jk]
   · cases hk
 · rename_i l m
   simp only [Kd.ok,jG.kd] at hk
   split at hk
   · rename_i hu
     show (Op.equalIn (d+1) t (.string _) (.string _)).run P w=_
     rw [run_equalIn_string w d t _ _ hu]
     simp [jk]
   · cases hk
 · rename_i l m
   simp only [Kd.ok,jG.kd] at hk
   split at hk
   · rename_i hu
     show (Op.equalIn (d+1) t (.bool _) (.bool _)).run P w=_
     rw [run_equalIn_bool' w d t _ _ hu]
     simp [jk]
   · cases hk
theorem gk (w:World) (d:Nat) (xs ys:Array Value):∀ (fs:List Field) (ks:List Kd) (o:Nat) (us vs:List jG),ly P o fs ks=true→us.map jG.kd=ks→vs.map jG.kd=ks →
   (∀ (j:Nat) (a:jG),us[j]?=some a→xs[o+j]?=some a.val)→(∀ (j:Nat) (a:jG),vs[j]?=some a→ys[o+j]?=some a.val) →
   (Op.eqFields (d+1) xs ys fs).run P w=.ok (decide (us=vs)) w
 | [],[],o,us,vs,_,ha,hb,_,_=>by
   obtain rfl:us=[]:=by simpa using ha
   obtain rfl:vs=[]:=by simpa using hb
   simp [Op.eqFields]
 | f :: fs,k :: ks,o,us,vs,hf,ha,hb,hx,hy=>by
   simp only [ly,Bool.and_eq_true,bne_iff_ne,beq_iff_eq] at hf
   obtain ⟨⟨⟨⟨h1,h2⟩,h3⟩,h4⟩,h5⟩:=hf
   cases us with
   | nil=>simp at ha
   | cons a us =>
     cases vs with
     | nil=>simp at hb
     | cons b vs =>
       simp only [List.map_cons,List.cons.injEq] at ha hb
       have p1:=hx 0 a rfl
       have p2:=hy 0 b rfl
       rw [Nat.add_zero,← h2] at p1 p2
       have r1:=run_part_plain (P:=P) (w:=w) h3 p1
       have r2:=run_part_plain (P:=P) (w:=w) h3 p2
       have r3:=tr (P:=P) w d h4 ha.1 hb.1
       have ih:=gk w d xs ys fs ks (o+1) us vs h5 ha.2 hb.2 (fun j c hj=>by
         have:=hx (j+1) c (by simpa using hj)
         rwa [show o+(j+1)=o+1+j by omega] at this) (fun j c hj=>by
         have:=hy (j+1) c (by simpa using hj)
         rwa [show o+(j+1)=o+1+j by omega] at this)
       simp only [Op.eqFields,h1,ne_eq,not_false_eq_true,if_true,Sem.run_bind,r1,r2,r3,Result.andThen_ok]
       by_cases e:a=b
       · simp [e,ih]
       · simp [e]
 | [],_ :: _,_,_,_,hf,_,_,_,_=>by simp [ly] at hf
 | _ :: _,[],_,_,_,hf,_,_,_,_=>by simp [ly] at hf
theorem rj (w:World) {t:TypeId} {ks:List Kd} (hF:u7 P t ks=true) {us vs:List jG} (ha:us.map jG.kd=ks) (hb:vs.map jG.kd=ks) :
   (Op.equalIn 10000 t (.agg ⟨us.map jG.val⟩) (.agg ⟨vs.map jG.val⟩)).run P w=.ok (decide (us=vs)) w:=by
 simp only [u7,Bool.and_eq_true,Bool.not_eq_true'] at hF
 obtain ⟨⟨h1,h2⟩,h3⟩:=hF
 split at h1
 · rename_i fs hu
   have hfs:P.fieldsOf t=fs:=by simp [Program.fieldsOf,hu]
   have:=run_equalIn_struct (P:=P) w 9999 t ⟨us.map jG.val⟩ ⟨vs.map jG.val⟩ (by rw [hfs];exact hu) h2
   rw [show (10000:Nat)=9999+1 from rfl,this,hfs]
   exact gk w 9998 _ _ fs.toList ks 0 us vs h1 ha hb (fun j a hj=>by simp [hj]) (fun j a hj=>by simp [hj])
 · cases h1
variable {f:Fr} {h:ah} {d:Option Tmp} {ty:TypeId} {pos:String} {af:Array Edge} {g:Option (Nat × Bool)}
theorem jm {t t2:TypeId} {x y:Operand} {us vs:List jG} (ks:List Kd) (hF:u7 P t ks=true) (ha:us.map jG.kd=ks) (hb:vs.map jG.kd=ks) (hx:f.ev x=some (.agg ⟨us.map jG.val⟩)) (hy:f.ev y=some (.agg ⟨vs.map jG.val⟩)) :
   bK P f ⟨d,.binOp .neq t x y t2,ty,pos,af,g⟩ h (.bool (!decide (us=vs))):=fun ρ w hag _=>by
 have hg:P.eqGuardType P.depth t=false:=by
   simp only [u7,Bool.and_eq_true,Bool.not_eq_true'] at hF
   exact hF.2
 have r1:=run_eqGuard_agg (P:=P) w .neq t x y ⟨us.map jG.val⟩ ⟨vs.map jG.val⟩ hg
 have r2:=run_neq_struct (P:=P) w t ⟨us.map jG.val⟩ ⟨vs.map jG.val⟩
 rw [rj w hF ha hb] at r2
 simp only [execOp,hag _ _ hx,hag _ _ hy,Sem.run_bind,r1,r2,Result.andThen_ok,Sem.run_pure]
theorem Rd.ext' {h h':ah} {S:Nat→Prop} {v:Value} {sz n:Nat} {xs:List Value} (r:Rd h v sz n xs) (a:Ext S h h') (hS:∀ b,0 < n→v.ownBlock=some b→¬ S b):Rd h' v sz n xs:=by
 obtain ⟨A,c,rfl,hc,hl,hp⟩:=r
 refine ⟨A,c,rfl,hc,hl,fun hn=>?_⟩
 obtain ⟨b,o,rfl,hb,hat⟩:=hp hn
 exact ⟨b,o,rfl,Nat.lt_of_lt_of_le hb a.size,hat.ext a (hS b hn rfl)⟩
theorem Rd.lt {h:ah} {v:Value} {sz n b:Nat} {xs:List Value} (r:Rd h v sz n xs) (hn:0 < n) (hb:v.ownBlock=some b):b < h.size:=by
 obtain ⟨A,c,rfl,hc,hl,hp⟩:=r
 obtain ⟨b',o,rfl,hb',_⟩:=hp hn
 simp only [Value.ownBlock,Option.some.injEq] at hb
 exact hb▸hb'
theorem Own.lt {h:ah} {v:Value} {e:TypeId} {sz n k:Nat} {xs:List Value} (ho:Own h v e sz n xs) (hk:v.ownBlock=some k):k < h.size:=by
 obtain ⟨_,⟨rfl,_⟩ | ⟨g,cap,cur,rfl,hg,_⟩⟩:=ho
 · cases hk
 · simp only [Value.ownBlock,Option.some.injEq] at hk
   exact hk▸aj hg
theorem Own.cap {h:ah} {v:Value} {e:TypeId} {sz n:Nat} {xs:List Value} (ho:Own h v e sz n xs):∃ A c,v=.slice A n c∧c≤maxLen:=by
 obtain ⟨_,⟨rfl,rfl⟩ | ⟨g,cap,cur,rfl,hg,hn,hm,_⟩⟩:=ho
 · exact ⟨_,_,rfl,by decide⟩
 · exact ⟨_,_,rfl,hm⟩
theorem Own.Fh {h:ah} {v:Value} {e:TypeId} {sz n:Nat} {xs:List Value} (ho:Own h v e sz n xs):∃ A c,v=.slice A n c∧c≤maxLen:=ho.cap
theorem At.pre {h:ah} {b o:Nat} {xs ys:List Value} (a:At h b o (xs++ys)):At h b o xs:=fun j v hj=>a j v (by rw [List.getElem?_append_left (List.getElem?_eq_some_iff.1 hj).1];exact hj)
variable {w:World} {t:TypeId}
theorem dZ.map' {α β:Type} {F:α→List Value} {Q:α→Prop} (o:dZ P w t F Q) (g:α→β) {F':β→List Value} {Q':β→Prop} (hF:∀ a,Q a→F a=F' (g a)∧Q' (g a)):dZ P w t F' Q':=by
 intro H enc base spare held fuel cs x h hz
 obtain ⟨a,rfl,q⟩:=o H enc base spare held fuel cs x h hz
 exact ⟨g a,(hF a q).1,(hF a q).2⟩
theorem tu (ht:P.underlying t=some (.int .u8)):dZ P w t (fun b:UInt8=>[By b]) (fun _=>True) :=
 (eF ht).map' (fun n=>UInt8.ofNat n.toNat) fun n hn=>by
   have h1:0≤n∧n≤255:=by simpa [Lit.wf,IntKind.signed,IntKind.bits,IntKind.max,IntKind.min] using hn
   refine ⟨?_,trivial⟩
   have:(UInt8.ofNat n.toNat).toNat=n.toNat:=by simp;omega
   unfold By
   rw [this]
   simp;omega
theorem rk {α:Type} (F:α→Value) (l:List α):l.flatMap (fun b=>[F b])=l.map F:=by
 induction l with
 | nil=>rfl
 | cons a l ih=>simp [ih]
theorem mf {e:TypeId} (ht:P.underlying t=some (.slice e)) (hc:P.cellsOf e=1) (hb:P.bytesOf e=1) (he:P.underlying e=some (.int .u8)) :
   dZ P w t (fun p:Value × List UInt8=>[p.1]) (fun p=>Rd w.heap p.1 1 p.2.length (bu p.2)∧p.2.length≤reachBytes) :=
 (dR ht hc (by decide) (fun _=>rfl) (tu he)).map id (fun _=>rfl) fun p q=>⟨by have:=q.1;rw [rk] at this;exact this,by simpa [hb] using q.2.2.2.2⟩
end
structure TT:Prop where
structure Hb (T p:Prop):Prop where
 out:T→p
structure Zz (q:Prop):Prop where
 out:q
structure PT (t:Nat):Prop where
theorem ax (i:Nat) {p:Prop} (h:p):Br i p:=⟨h⟩
class bw (P:Program) (s i:Nat) (o:outParam Nat):Prop where
 ex:∃ fs fl k,P.underlying s=some (.struct fs)∧fs[i]?=some fl∧fl.offset=o∧∀ w,(sizeOf fl.type).run P w=.ok (k+1) w
class iT (P:Program) (t:Nat):Prop where
 ex:∃ e,P.underlying t=some (.slice e)
class HD (P:Program) (t:Nat):Prop where
 ex:P.underlying t=some .string
class dM (P:Program) (t:Nat):Prop where
 ex:∀ w,(isAgg t).run P w=.ok false w
structure jH (P:Program) (f:Fr) (o:Oper) (h:ah) (v:Value):Prop where
 out:bK P f o h v
section
variable {P:Program} {f:Fr} {h:ah} {d:Option Tmp} {ty:TypeId} {pos:String} {af:Array Edge} {g:Option (Nat × Bool)} {x y c:Operand} {v:Value}
theorem mg {s i b o o':Nat} [c:bw P s i o'] (hx:f.ev x=some (.pointer (some ⟨b,o,Option.none⟩))):jH P f ⟨d,.fieldAddr s x i,ty,pos,af,g⟩ h (.pointer (some ⟨b,o+o',Option.none⟩)):=by
 obtain ⟨fs,fl,k,h1,h2,h3,h4⟩:=c.ex
 subst h3
 exact ⟨ad hx h1 h2 h4⟩
theorem yq {t:Nat} {a:List UInt8} [k:HD P t] (hx:f.ev x=some (St a)):jH P f ⟨d,.call { callee:=.builtin .len,args:=#[x],argTypes:=#[t] },ty,pos,af,g⟩ h (In a.length):=⟨kq rfl k.ex hx⟩
theorem yr {t:Nat} {p:Option Addr} {l c:Nat} [k:iT P t] (hx:f.ev x=some (.slice p l c)):jH P f ⟨d,.call { callee:=.builtin .len,args:=#[x],argTypes:=#[t] },ty,pos,af,g⟩ h (In l):=by
 obtain ⟨e,he⟩:=k.ex
 exact ⟨cu rfl he hx⟩
section
variable {t t2:TypeId} {k:IntKind} {a b:Int} {s u:List UInt8}
theorem yu (hx:f.ev x=some (In a)) (hy:f.ev y=some (In b)) (h0 : -9223372036854775808≤a+b∧a+b≤9223372036854775807):jH P f ⟨d,.binOp .add t x y t2,ty,pos,af,g⟩ h (In (a+b)):=⟨ft hx hy h0⟩
theorem Eg (hx:f.ev x=some (.int k a)) (hy:f.ev y=some (.int k b)):jH P f ⟨d,.binOp .add t x y t2,ty,pos,af,g⟩ h (.int k (k.wrap (a+b))):=⟨yf hx hy⟩
theorem yw (hx:f.ev x=some (In a)) (hy:f.ev y=some (In b)) (h0 : -9223372036854775808≤a - b∧a - b≤9223372036854775807):jH P f ⟨d,.binOp .sub t x y t2,ty,pos,af,g⟩ h (In (a - b)):=⟨fu hx hy h0⟩
theorem Eh (hx:f.ev x=some (.int k a)) (hy:f.ev y=some (.int k b)):jH P f ⟨d,.binOp .sub t x y t2,ty,pos,af,g⟩ h (.int k (k.wrap (a - b))):=⟨ta hx hy⟩
theorem va (hx:f.ev x=some (.int k a)) (hy:f.ev y=some (.int k b)) (hp:a=b):jH P f ⟨d,.binOp .eql t x y t2,ty,pos,af,g⟩ h (.bool true):=⟨bK.dL hp (mX hx hy)⟩
theorem vd (hx:f.ev x=some (.int k a)) (hy:f.ev y=some (.int k b)) (hp:¬(a=b)):jH P f ⟨d,.binOp .eql t x y t2,ty,pos,af,g⟩ h (.bool false):=⟨bK.eX hp (mX hx hy)⟩
theorem Ei (hx:f.ev x=some (.int k a)) (hy:f.ev y=some (.int k b)):jH P f ⟨d,.binOp .eql t x y t2,ty,pos,af,g⟩ h (.bool (decide (a=b))):=⟨mX hx hy⟩
theorem ve (hx:f.ev x=some (.int k a)) (hy:f.ev y=some (.int k b)) (hp:a < b):jH P f ⟨d,.binOp .lss t x y t2,ty,pos,af,g⟩ h (.bool true):=⟨bK.dL hp (mV hx hy)⟩
theorem vh (hx:f.ev x=some (.int k a)) (hy:f.ev y=some (.int k b)) (hp:¬(a < b)):jH P f ⟨d,.binOp .lss t x y t2,ty,pos,af,g⟩ h (.bool false):=⟨bK.eX hp (mV hx hy)⟩
theorem Ej (hx:f.ev x=some (.int k a)) (hy:f.ev y=some (.int k b)):jH P f ⟨d,.binOp .lss t x y t2,ty,pos,af,g⟩ h (.bool (decide (a < b))):=⟨mV hx hy⟩
theorem vi (hx:f.ev x=some (.int k a)) (hy:f.ev y=some (.int k b)) (hp:a > b):jH P f ⟨d,.binOp .gtr t x y t2,ty,pos,af,g⟩ h (.bool true):=⟨bK.dL hp (iQ hx hy)⟩
theorem vj (hx:f.ev x=some (.int k a)) (hy:f.ev y=some (.int k b)) (hp:¬(a > b)):jH P f ⟨d,.binOp .gtr t x y t2,ty,pos,af,g⟩ h (.bool false):=⟨bK.eX hp (iQ hx hy)⟩
theorem Ek (hx:f.ev x=some (.int k a)) (hy:f.ev y=some (.int k b)):jH P f ⟨d,.binOp .gtr t x y t2,ty,pos,af,g⟩ h (.bool (decide (a > b))):=⟨iQ hx hy⟩
theorem vk (hx:f.ev x=some (.int k a)) (hy:f.ev y=some (.int k b)) (hp:a≤b):jH P f ⟨d,.binOp .leq t x y t2,ty,pos,af,g⟩ h (.bool true):=⟨bK.dL hp (mW hx hy)⟩
theorem vm (hx:f.ev x=some (.int k a)) (hy:f.ev y=some (.int k b)) (hp:¬(a≤b)):jH P f ⟨d,.binOp .leq t x y t2,ty,pos,af,g⟩ h (.bool false):=⟨bK.eX hp (mW hx hy)⟩
theorem El (hx:f.ev x=some (.int k a)) (hy:f.ev y=some (.int k b)):jH P f ⟨d,.binOp .leq t x y t2,ty,pos,af,g⟩ h (.bool (decide (a≤b))):=⟨mW hx hy⟩
theorem vn (hx:f.ev x=some (.int k a)) (hy:f.ev y=some (.int k b)) (hp:a ≥ b):jH P f ⟨d,.binOp .geq t x y t2,ty,pos,af,g⟩ h (.bool true):=⟨bK.dL hp (dm hx hy)⟩
theorem vq (hx:f.ev x=some (.int k a)) (hy:f.ev y=some (.int k b)) (hp:¬(a ≥ b)):jH P f ⟨d,.binOp .geq t x y t2,ty,pos,af,g⟩ h (.bool false):=⟨bK.eX hp (dm hx hy)⟩
theorem Em (hx:f.ev x=some (.int k a)) (hy:f.ev y=some (.int k b)):jH P f ⟨d,.binOp .geq t x y t2,ty,pos,af,g⟩ h (.bool (decide (a ≥ b))):=⟨dm hx hy⟩
theorem vt (hx:f.ev x=some (.int k a)) (hy:f.ev y=some (.int k b)) (hp:¬(a=b)):jH P f ⟨d,.binOp .neq t x y t2,ty,pos,af,g⟩ h (.bool true):=⟨bK.ka hp (jQ hx hy)⟩
theorem vu (hx:f.ev x=some (.int k a)) (hy:f.ev y=some (.int k b)) (hp:a=b):jH P f ⟨d,.binOp .neq t x y t2,ty,pos,af,g⟩ h (.bool false):=⟨bK.hG hp (jQ hx hy)⟩
theorem Eo (hx:f.ev x=some (.int k a)) (hy:f.ev y=some (.int k b)):jH P f ⟨d,.binOp .neq t x y t2,ty,pos,af,g⟩ h (.bool (!decide (a=b))):=⟨jQ hx hy⟩
theorem rl (hx:f.ev x=some (St s)) (hy:f.ev y=some (St u)) (hp:s=u):jH P f ⟨d,.binOp .eql t x y t2,ty,pos,af,g⟩ h (.bool true):=⟨bK.dL hp (mD hx hy)⟩
theorem rm (hx:f.ev x=some (St s)) (hy:f.ev y=some (St u)) (hp:¬(s=u)):jH P f ⟨d,.binOp .eql t x y t2,ty,pos,af,g⟩ h (.bool false):=⟨bK.eX hp (mD hx hy)⟩
theorem yx (hx:f.ev x=some (St s)) (hy:f.ev y=some (St u)):jH P f ⟨d,.binOp .eql t x y t2,ty,pos,af,g⟩ h (.bool (decide (s=u))):=⟨mD hx hy⟩
theorem rn (hx:f.ev x=some (St s)) (hy:f.ev y=some (St u)) (hp:¬(s=u)):jH P f ⟨d,.binOp .neq t x y t2,ty,pos,af,g⟩ h (.bool true):=⟨bK.ka hp (mF hx hy)⟩
theorem rp (hx:f.ev x=some (St s)) (hy:f.ev y=some (St u)) (hp:s=u):jH P f ⟨d,.binOp .neq t x y t2,ty,pos,af,g⟩ h (.bool false):=⟨bK.hG hp (mF hx hy)⟩
theorem yz (hx:f.ev x=some (St s)) (hy:f.ev y=some (St u)):jH P f ⟨d,.binOp .neq t x y t2,ty,pos,af,g⟩ h (.bool (!decide (s=u))):=⟨mF hx hy⟩
end
end
def yB (f:Fr):Op→Option Value
 | .move x=>f.ev x
 | .assign x=>f.ev x
 | .pick c x y=>match f.ev c with
   | some (.bool true)=>f.ev x
   | some (.bool false)=>f.ev y
   | _=>Option.none
 | .extract x i=>match f.ev x with
   | some (.tuple ⟨vs⟩)=>vs[i]?
   | _=>Option.none
 | .unOp .not _ x=>match f.ev x with
   | some (.bool b)=>some (.bool (!b))
   | _=>Option.none
 | _=>Option.none
theorem yC {P:Program} {f:Fr} {o:Oper} {h:ah} {v:Value} (e:yB f o.op=some v):bK P f o h v:=by
 obtain ⟨d,op,ty,pos,af,g⟩:=o
 dsimp only at e
 unfold yB at e
 split at e
 · exact ak e
 · exact aR e
 · split at e
   · exact cM (by assumption) e
   · exact cd (by assumption) e
   · cases e
 · split at e
   · exact bU (by assumption) e
   · cases e
 · split at e
   · cases e;exact cL (by assumption)
   · cases e
 · cases e
def HE:BinOp→Bool
 | .eql=>true
 | .neq=>true
 | .lss=>true
 | .leq=>true
 | .gtr=>true
 | .geq=>true
 | _=>false
section
variable {P:Program} {n:Env} {Q:eV} {f:Fr} {h:ah} {l0 l rest:List Oper}
theorem WC.sr {id:Nat} {l:List Oper} {y:Code} (hl:WL P n l l (lX (WC P n y Q) Q) f h) (hd:n.ro=Option.none∨jE l=true:=by first | exact .inl rfl | exact .inr rfl):WC P n (.seq (.region id l.toArray false) y) Q f h:=.seq (.region hl hd)
def Cw:Op→Bool
 | .move _=>true
 | .assign _=>true
 | .pick _ _ _=>true
 | .extract _ _=>true
 | .fieldAddr _ _ _=>true
 | .unOp .not _ _=>true
 | .binOp b _ _ _ _=>HE b
 | .call c=>match c.callee with
   | .builtin .len=>true
   | _=>false
 | _=>false
theorem WL.HF {o:Oper} {t:Nat} (_:Cw o.op=true) (hg:stops f l0 o=true) (hd:o.dst=some t) (ht:Nat.blt t n.n=true) (hk:WL P n l0 rest Q ((t,undef) :: f) h):WL P n l0 (o :: rest) Q f h:=.pass hg hd ht hk
theorem WL.s {o:Oper} {v:Value} {t:Nat} (hok:jH P f o h v) (hg:goes f l0 o=true) (hd:o.dst=some t) (ht:Nat.blt t n.n=true) (hk:WL P n l0 rest Q ((t,v) :: f) h):WL P n l0 (o :: rest) Q f h:=.step hok.out hg hd ht hk
theorem WL.auto {o:Oper} {v:Value} {t:Nat} (hok:yB f o.op=some v) (hg:goes f l0 o=true) (hd:o.dst=some t) (ht:Nat.blt t n.n=true) (hk:WL P n l0 rest Q ((t,v) :: f) h):WL P n l0 (o :: rest) Q f h:=.step (yC hok) hg hd ht hk
section
variable {d:Option Tmp} {ty:TypeId} {pos:String} {af:Array Edge} {g:Option (Nat × Bool)} {x y:Operand} {t2 s:TypeId} {k:IntKind} {a b:Int} {op:BinOp} {t:Nat}
theorem WL.sW (b:BinOp) {s u:TypeId} (k:WL P n l0 (⟨d,.binOp b s x y u,ty,pos,af,g⟩ :: rest) Q f h):WL P n l0 (⟨d,.binOp b s x y u,ty,pos,af,g⟩ :: rest) Q f h:=k
theorem WL.Lx {xs:Array Operand} {ts:Array TypeId} (k:WL P n l0 (⟨d,.call { callee:=.builtin .len,args:=xs,argTypes:=ts },ty,pos,af,g⟩ :: rest) Q f h):WL P n l0 (⟨d,.call { callee:=.builtin .len,args:=xs,argTypes:=ts },ty,pos,af,g⟩ :: rest) Q f h:=k
end
theorem WL.MB {d:Option Tmp} {op:Op} {ty:TypeId} {pos:String} {af:Array Edge} (k:WL P n l0 (⟨d,op,ty,pos,af,Option.none⟩ :: rest) Q f h):WL P n l0 (⟨d,op,ty,pos,af,Option.none⟩ :: rest) Q f h:=k
theorem WL.MC {d:Option Tmp} {op:Op} {ty:TypeId} {pos:String} {af:Array Edge} {g:Nat × Bool} (k:WL P n l0 (⟨d,op,ty,pos,af,some g⟩ :: rest) Q f h):WL P n l0 (⟨d,op,ty,pos,af,some g⟩ :: rest) Q f h:=k
theorem WL.Ly {d:Option Tmp} {b:BinOp} {s u:TypeId} {x y:Operand} {ty:TypeId} {pos:String} {af:Array Edge} {g:Option (Nat × Bool)} (k:WL P n l0 (⟨d,.binOp b s x y u,ty,pos,af,g⟩ :: rest) Q f h):WL P n l0 (⟨d,.binOp b s x y u,ty,pos,af,g⟩ :: rest) Q f h:=k
theorem WL.Lz (k:WL P n l0 [] Q f h):WL P n l0 [] Q f h:=k
theorem Go {p q:Prop} (k:q) (hx:Zz q→p:=by
   intro z
   repeat ((with_reducible refine WL.MB ?_);first
     | refine WL.auto rfl rfl rfl rfl ?_
     | refine WL.s (mg rfl) rfl rfl rfl ?_
     | ((with_reducible refine WL.Ly ?_);first
       | ((with_reducible refine WL.sW .eql ?_);first
         | refine WL.s (va rfl rfl (by omega)) rfl rfl rfl ?_
         | refine WL.s (vd rfl rfl (by omega)) rfl rfl rfl ?_
         | refine WL.s (Ei rfl rfl) rfl rfl rfl ?_
         | refine WL.s (rl rfl rfl (by first | rfl | assumption | decide)) rfl rfl rfl ?_
         | refine WL.s (rm rfl rfl (by first | assumption | decide)) rfl rfl rfl ?_
         | refine WL.s (yx rfl rfl) rfl rfl rfl ?_)
       | ((with_reducible refine WL.sW .lss ?_);first
         | refine WL.s (ve rfl rfl (by omega)) rfl rfl rfl ?_
         | refine WL.s (vh rfl rfl (by omega)) rfl rfl rfl ?_
         | refine WL.s (Ej rfl rfl) rfl rfl rfl ?_)
       | ((with_reducible refine WL.sW .neq ?_);first
         | refine WL.s (vt rfl rfl (by omega)) rfl rfl rfl ?_
         | refine WL.s (vu rfl rfl (by omega)) rfl rfl rfl ?_
         | refine WL.s (Eo rfl rfl) rfl rfl rfl ?_
         | refine WL.s (rp rfl rfl (by first | rfl | assumption | decide)) rfl rfl rfl ?_
         | refine WL.s (rn rfl rfl (by first | assumption | decide)) rfl rfl rfl ?_
         | refine WL.s (yz rfl rfl) rfl rfl rfl ?_)
       | ((with_reducible refine WL.sW .gtr ?_);first
         | refine WL.s (vi rfl rfl (by omega)) rfl rfl rfl ?_
         | refine WL.s (vj rfl rfl (by omega)) rfl rfl rfl ?_
         | refine WL.s (Ek rfl rfl) rfl rfl rfl ?_)
       | ((with_reducible refine WL.sW .leq ?_);first
         | refine WL.s (vk rfl rfl (by omega)) rfl rfl rfl ?_
         | refine WL.s (vm rfl rfl (by omega)) rfl rfl rfl ?_
         | refine WL.s (El rfl rfl) rfl rfl rfl ?_)
       | ((with_reducible refine WL.sW .geq ?_);first
         | refine WL.s (vn rfl rfl (by omega)) rfl rfl rfl ?_
         | refine WL.s (vq rfl rfl (by omega)) rfl rfl rfl ?_
         | refine WL.s (Em rfl rfl) rfl rfl rfl ?_)
       | ((with_reducible refine WL.sW .add ?_);first
         | refine WL.s (yu rfl rfl (by omega)) rfl rfl rfl ?_
         | refine WL.s (Eg rfl rfl) rfl rfl rfl ?_)
       | ((with_reducible refine WL.sW .sub ?_);first
         | refine WL.s (yw rfl rfl (by omega)) rfl rfl rfl ?_
         | refine WL.s (Eh rfl rfl) rfl rfl rfl ?_))
     | ((with_reducible refine WL.Lx ?_);first
       | refine WL.s (yr rfl) rfl rfl rfl ?_
       | refine WL.s (yq rfl) rfl rfl rfl ?_))
   try ((with_reducible refine WL.Lz ?_);refine WL.nil ?_;repeat (with_reducible first | refine aS ?_ | refine aL ?_))
   exact z.out):p:=hx ⟨k⟩
theorem Gg {p q:Prop} (k:q) (hx:Zz q→p:=by
   intro z
   repeat ((with_reducible refine WL.MC ?_);first
     | refine WL.HF rfl rfl rfl rfl ?_
     | refine WL.auto rfl rfl rfl rfl ?_
     | refine WL.s (mg rfl) rfl rfl rfl ?_
     | ((with_reducible refine WL.Ly ?_);first
       | ((with_reducible refine WL.sW .eql ?_);first
         | refine WL.s (va rfl rfl (by omega)) rfl rfl rfl ?_
         | refine WL.s (vd rfl rfl (by omega)) rfl rfl rfl ?_
         | refine WL.s (Ei rfl rfl) rfl rfl rfl ?_
         | refine WL.s (rl rfl rfl (by first | rfl | assumption | decide)) rfl rfl rfl ?_
         | refine WL.s (rm rfl rfl (by first | assumption | decide)) rfl rfl rfl ?_
         | refine WL.s (yx rfl rfl) rfl rfl rfl ?_)
       | ((with_reducible refine WL.sW .lss ?_);first
         | refine WL.s (ve rfl rfl (by omega)) rfl rfl rfl ?_
         | refine WL.s (vh rfl rfl (by omega)) rfl rfl rfl ?_
         | refine WL.s (Ej rfl rfl) rfl rfl rfl ?_)
       | ((with_reducible refine WL.sW .neq ?_);first
         | refine WL.s (vt rfl rfl (by omega)) rfl rfl rfl ?_
         | refine WL.s (vu rfl rfl (by omega)) rfl rfl rfl ?_
         | refine WL.s (Eo rfl rfl) rfl rfl rfl ?_
         | refine WL.s (rp rfl rfl (by first | rfl | assumption | decide)) rfl rfl rfl ?_
         | refine WL.s (rn rfl rfl (by first | assumption | decide)) rfl rfl rfl ?_
         | refine WL.s (yz rfl rfl) rfl rfl rfl ?_)
       | ((with_reducible refine WL.sW .gtr ?_);first
         | refine WL.s (vi rfl rfl (by omega)) rfl rfl rfl ?_
         | refine WL.s (vj rfl rfl (by omega)) rfl rfl rfl ?_
         | refine WL.s (Ek rfl rfl) rfl rfl rfl ?_)
       | ((with_reducible refine WL.sW .leq ?_);first
         | refine WL.s (vk rfl rfl (by omega)) rfl rfl rfl ?_
         | refine WL.s (vm rfl rfl (by omega)) rfl rfl rfl ?_
         | refine WL.s (El rfl rfl) rfl rfl rfl ?_)
       | ((with_reducible refine WL.sW .geq ?_);first
         | refine WL.s (vn rfl rfl (by omega)) rfl rfl rfl ?_
         | refine WL.s (vq rfl rfl (by omega)) rfl rfl rfl ?_
         | refine WL.s (Em rfl rfl) rfl rfl rfl ?_)
       | ((with_reducible refine WL.sW .add ?_);first
         | refine WL.s (yu rfl rfl (by omega)) rfl rfl rfl ?_
         | refine WL.s (Eg rfl rfl) rfl rfl rfl ?_)
       | ((with_reducible refine WL.sW .sub ?_);first
         | refine WL.s (yw rfl rfl (by omega)) rfl rfl rfl ?_
         | refine WL.s (Eh rfl rfl) rfl rfl rfl ?_))
     | ((with_reducible refine WL.Lx ?_);first
       | refine WL.s (yr rfl) rfl rfl rfl ?_
       | refine WL.s (yq rfl) rfl rfl rfl ?_))
   exact z.out):p:=hx ⟨k⟩
theorem Gn {p q:Prop} (k:q) (hx:Zz q→p:=by
   intro z
   try ((with_reducible refine WL.Lz ?_);refine WL.nil ?_)
   repeat (with_reducible first | refine aS ?_ | refine aL ?_)
   exact z.out):p:=hx ⟨k⟩
theorem G2 {p q:Prop} (k:q) (hx:Zz q→p:=by
   intro z
   refine WC.sr ?_;refine Go ?_
   exact z.out):p:=hx ⟨k⟩
theorem G3 {p q:Prop} (k:q) (hx:Zz q→p:=by
   intro z
   refine WC.seq ?_;refine WC.sr ?_;refine Go ?_
   exact z.out):p:=hx ⟨k⟩
theorem WL.k1 {t:Nat} (_:PT t) (_hb:f.get t=some (.bool true)) (k1:WL P n l0 l Q f h) (_:TT):WL P n l0 l Q f h:=k1
theorem WL.k2 {t:Nat} (_:PT t) (_hb:f.get t=some (.bool false)) (k1:WL P n l0 l Q f h) (_:TT):WL P n l0 l Q f h:=k1
theorem WL.HG {t:Nat} (_:PT t) {b:Bool} (hb:f.get t=some (.bool b)) (h1:b=true→WL P n l0 l Q ((t,.bool true) :: f) h) (h2:b=false→WL P n l0 l Q ((t,.bool false) :: f) h):WL P n l0 l Q f h:=.part t hb h1 h2
theorem bG (t:Nat) {p q1 q2:Prop} (k1:q1) (k2:q2) (hx:PT t→Zz q1→Zz q2→p:=by
   intro tg z1 z2
   first
   | exact WL.k1 tg rfl z1.out z2.out
   | exact WL.k2 tg rfl z1.out z2.out
   | (refine WL.HG tg rfl (fun hb=>?_) (fun hb=>?_)
      all_goals (first | replace hb:=of_decide_eq_true hb | replace hb:=of_decide_eq_false hb | replace hb:=of_decide_eq_false (nt hb) | replace hb:=of_decide_eq_true (nf hb) | skip)
      · revert hb;exact Hb.out z1.out
      · revert hb;exact Hb.out z2.out)):p:=hx ⟨⟩ ⟨k1⟩ ⟨k2⟩
theorem WC.MD {c:Operand} {x y:Code} {i j:Nat} (_:PT i) (_:PT j) (hc:f.ev c=some (.bool true)) (ht:Br i (WC P n x Q f h)) (_:TT):WC P n (.cond c x y) Q f h:=.Cu i hc ht
theorem WC.ME {c:Operand} {x y:Code} {i j:Nat} (_:PT i) (_:PT j) (hc:f.ev c=some (.bool false)) (ht:Br j (WC P n y Q f h)) (_:TT):WC P n (.cond c x y) Q f h:=.Cv j hc ht
theorem WC.MF {c:Operand} {x y:Code} {b:Bool} {i j:Nat} (_:PT i) (_:PT j) (hc:f.ev c=some (.bool b)) (ht:b=true→Br i (WC P n x Q f h)) (hf:b=false→Br j (WC P n y Q f h)):WC P n (.cond c x y) Q f h:=.HB i j hc ht hf
theorem aJ (i j:Nat) {p q1 q2:Prop} (k1:q1) (k2:q2) (hx:PT i→PT j→Zz q1→Zz q2→p:=by
   intro ti tj z1 z2
   first
   | exact WC.MD ti tj rfl z1.out z2.out
   | exact WC.ME ti tj rfl z1.out z2.out
   | (refine WC.MF ti tj rfl (fun hb=>?_) (fun hb=>?_)
      all_goals (first | replace hb:=of_decide_eq_true hb | replace hb:=of_decide_eq_false hb | replace hb:=of_decide_eq_false (nt hb) | replace hb:=of_decide_eq_true (nf hb) | skip)
      · revert hb;exact Hb.out z1.out
      · revert hb;exact Hb.out z2.out)):p:=hx ⟨⟩ ⟨⟩ ⟨k1⟩ ⟨k2⟩
theorem WL.ld {d:Option Tmp} {ty:TypeId} {pos:String} {af:Array Edge} {g:Option (Nat × Bool)} {x:Operand} {ts t b o:Nat} {v:Value} [c:dM P ts] (hx:f.ev x=some (.pointer (some ⟨b,o,Option.none⟩))) (hc:cell h ⟨b,o,Option.none⟩=some v) (hg:goes f l0 ⟨d,.load ts x,ty,pos,af,g⟩=true) (hd:d=some t) (ht:Nat.blt t n.n=true) (hk:WL P n l0 rest Q ((t,v) :: f) h):WL P n l0 (⟨d,.load ts x,ty,pos,af,g⟩ :: rest) Q f h:=.step (aA c.ex hx hc) hg hd ht hk
theorem Ld {p q:Prop} (k:q) (hx:Zz q→p:=by
   intro z
   refine WL.ld rfl (by first | assumption | exact aa (by assumption) rfl) rfl rfl rfl ?_
   exact z.out):p:=hx ⟨k⟩
theorem Gt {p q:Prop} (k:q) (hx:Zz q→p:=by
   intro z
   refine WC.ret ?_
   repeat' (with_reducible first | refine ba ?_ | refine aV ?_)
   first | refine bY _ ⟨rfl,trivial⟩ ?_ | refine dY _ _ ⟨rfl,rfl,trivial⟩ ?_ | refine pz _ _ _ ⟨rfl,rfl,rfl,trivial⟩ ?_ | refine Fe trivial ?_
   exact z.out):p:=hx ⟨k⟩
structure GT (g:Fr):Prop where
theorem WC.JP {c:Code} {g:Fr} (_:GT g) (hs:nY g f) (hc:WC P n c Q g h):WC P n c Q f h:=.sub g hs hc
theorem Gs {p q:Prop} (g:Fr) (k:q) (hx:GT g→Zz q→p:=by
   intro tg z
   refine WC.JP tg ?_ z.out
   repeat' first | exact trivial | refine ⟨rfl,?_⟩):p:=hx ⟨⟩ ⟨k⟩
end
section
variable {P:Program} {n:Env} {l:List Oper} {Q:eV} {C:ah→Prop} {k fuel:Nat} {L:Array Bool} {f:Fr} {h:ah}
theorem WH.tk {o:Oper} {v:Value} {t:Nat} (i:Nat) (hi:l[i]?=some o) (hok:∀ h',C h'→bK P f o h' v) (hg:goes f l o=true) (hd:o.dst=some t) (ht:Nat.blt t n.n=true)
   (hk:WH P n l Q C k fuel (L.setIfInBounds i true) ((t,v) :: f) h)
   (hs:Region.noSelect l.toArray=true:=by kernel_rfl) (hfr:Region.free .any l.toArray L i=true:=by kernel_rfl) (hr:(Region.ready .any l.toArray L).contains i=true:=by kernel_rfl)
   (hE:(List.range l.length).all (fun j=>Nat.blt j k || (!L.getD j true && Region.waitsFor .any l.toArray j i))=true:=by kernel_rfl) (hik:Nat.blt i k=true:=by kernel_rfl) (hC:C h:=by first | exact Ext.refl _ _ | assumption) :
   WH P n l Q C k (fuel+1) L f h:=.take i hi hs hfr hr hE hik hC hok hg hd ht hk
theorem WH.ps {o:Oper} {t:Nat} (i:Nat) (hi:l[i]?=some o) (hg:stops f l o=true) (hd:o.dst=some t) (ht:Nat.blt t n.n=true)
   (hk:WH P n l Q C k fuel (L.setIfInBounds i true) ((t,undef) :: f) h)
   (hs:Region.noSelect l.toArray=true:=by kernel_rfl) (hfr:Region.free .any l.toArray L i=true:=by kernel_rfl) (hr:(Region.ready .any l.toArray L).contains i=true:=by kernel_rfl)
   (hE:(List.range l.length).all (fun j=>Nat.blt j k || (!L.getD j true && Region.waitsFor .any l.toArray j i))=true:=by kernel_rfl) (hik:Nat.blt i k=true:=by kernel_rfl) (hC:C h:=by first | exact Ext.refl _ _ | assumption) :
   WH P n l Q C k (fuel+1) L f h:=.pass i hi hs hfr hr hE hik hC hg hd ht hk
end
end Go.RK
namespace Go.Proofs.YtopgddfgefnmbaaGreatDoor
open Go Go.RK
theorem dk:Tryz.prog.follows .mixedOrders=true:=by kernel_rfl
instance:iT Tryz.prog 23:=⟨_,Tryz.underlying23⟩
instance:iT Tryz.prog 33:=⟨_,Tryz.underlying33⟩
instance:iT Tryz.prog 32:=⟨_,Tryz.underlying32⟩
instance:dM Tryz.prog 23:=⟨fun w=>Tryz.isAgg23 w⟩
instance:dM Tryz.prog 5:=⟨fun w=>Tryz.isAgg5 w⟩
instance:iT Tryz.prog 22:=⟨_,Tryz.underlying22⟩
instance:bw Tryz.prog 53 0 0:=⟨_,_,_,Tryz.underlying53,rfl,rfl,fun w=>Tryz.sizeOf5 w⟩
instance:bw Tryz.prog 42 0 0:=⟨_,_,_,Tryz.underlying42,rfl,rfl,fun w=>Tryz.sizeOf5 w⟩
instance:bw Tryz.prog 53 1 1:=⟨_,_,_,Tryz.underlying53,rfl,rfl,fun w=>Tryz.sizeOf23 w⟩
instance:iT Tryz.prog 39:=⟨_,Tryz.underlying39⟩
instance:iT Tryz.prog 75:=⟨_,Tryz.underlying75⟩
instance:dM Tryz.prog 66:=⟨fun w=>Tryz.isAgg66 w⟩
instance:bw Tryz.prog 42 5 5:=⟨_,_,_,Tryz.underlying42,rfl,rfl,fun w=>Tryz.sizeOf39 w⟩
instance:dM Tryz.prog 39:=⟨fun w=>Tryz.isAgg39 w⟩
instance:bw Tryz.prog 42 6 6:=⟨_,_,_,Tryz.underlying42,rfl,rfl,fun w=>Tryz.sizeOf39 w⟩
instance:bw Tryz.prog 42 7 7:=⟨_,_,_,Tryz.underlying42,rfl,rfl,fun w=>Tryz.sizeOf39 w⟩
instance:bw Tryz.prog 42 8 8:=⟨_,_,_,Tryz.underlying42,rfl,rfl,fun w=>Tryz.sizeOf40 w⟩
instance:dM Tryz.prog 40:=⟨fun w=>Tryz.isAgg40 w⟩
instance:iT Tryz.prog 40:=⟨_,Tryz.underlying40⟩
instance:bw Tryz.prog 42 2 2:=⟨_,_,_,Tryz.underlying42,rfl,rfl,fun w=>Tryz.sizeOf9 w⟩
instance:dM Tryz.prog 9:=⟨fun w=>Tryz.isAgg9 w⟩
instance:HD Tryz.prog 9:=⟨Tryz.underlying9⟩
instance:bw Tryz.prog 42 3 3:=⟨_,_,_,Tryz.underlying42,rfl,rfl,fun w=>Tryz.sizeOf9 w⟩
instance:bw Tryz.prog 42 4 4:=⟨_,_,_,Tryz.underlying42,rfl,rfl,fun w=>Tryz.sizeOf9 w⟩
instance:bw Tryz.prog 96 6 6:=⟨_,_,_,Tryz.underlying96,rfl,rfl,fun w=>Tryz.sizeOf4 w⟩
instance:dM Tryz.prog 4:=⟨fun w=>Tryz.isAgg4 w⟩
instance:bw Tryz.prog 96 1 1:=⟨_,_,_,Tryz.underlying96,rfl,rfl,fun w=>Tryz.sizeOf87 w⟩
instance:dM Tryz.prog 87:=⟨fun w=>Tryz.isAgg87 w⟩
instance:bw Tryz.prog 96 5 5:=⟨_,_,_,Tryz.underlying96,rfl,rfl,fun w=>Tryz.sizeOf4 w⟩
instance:bw Tryz.prog 96 2 2:=⟨_,_,_,Tryz.underlying96,rfl,rfl,fun w=>Tryz.sizeOf90 w⟩
instance:dM Tryz.prog 90:=⟨fun w=>Tryz.isAgg90 w⟩
instance:bw Tryz.prog 96 0 0:=⟨_,_,_,Tryz.underlying96,rfl,rfl,fun w=>Tryz.sizeOf94 w⟩
instance:dM Tryz.prog 94:=⟨fun w=>Tryz.isAgg94 w⟩
instance:iT Tryz.prog 94:=⟨_,Tryz.underlying94⟩
instance:bw Tryz.prog 62 0 0:=⟨_,_,_,Tryz.underlying62,rfl,rfl,fun w=>Tryz.sizeOf3 w⟩
instance:dM Tryz.prog 3:=⟨fun w=>Tryz.isAgg3 w⟩
instance:bw Tryz.prog 62 3 3:=⟨_,_,_,Tryz.underlying62,rfl,rfl,fun w=>Tryz.sizeOf60 w⟩
instance:dM Tryz.prog 60:=⟨fun w=>Tryz.isAgg60 w⟩
instance:iT Tryz.prog 60:=⟨_,Tryz.underlying60⟩
instance:bw Tryz.prog 59 0 0:=⟨_,_,_,Tryz.underlying59,rfl,rfl,fun w=>Tryz.sizeOf9 w⟩
instance:bw Tryz.prog 59 1 1:=⟨_,_,_,Tryz.underlying59,rfl,rfl,fun w=>Tryz.sizeOf9 w⟩
instance:bw Tryz.prog 62 1 1:=⟨_,_,_,Tryz.underlying62,rfl,rfl,fun w=>Tryz.sizeOf3 w⟩
instance:bw Tryz.prog 62 2 2:=⟨_,_,_,Tryz.underlying62,rfl,rfl,fun w=>Tryz.sizeOf3 w⟩
instance:bw Tryz.prog 42 1 1:=⟨_,_,_,Tryz.underlying42,rfl,rfl,fun w=>Tryz.sizeOf5 w⟩
instance:bw Tryz.prog 42 9 9:=⟨_,_,_,Tryz.underlying42,rfl,rfl,fun w=>Tryz.sizeOf3 w⟩
instance:bw Tryz.prog 125 0 0:=⟨_,_,_,Tryz.underlying125,rfl,rfl,fun w=>Tryz.sizeOf123 w⟩
instance:bw Tryz.prog 123 0 0:=⟨_,_,_,Tryz.underlying123,rfl,rfl,fun w=>Tryz.sizeOf119 w⟩
instance:dM Tryz.prog 119:=⟨fun w=>Tryz.isAgg119 w⟩
instance:bw Tryz.prog 125 5 6:=⟨_,_,_,Tryz.underlying125,rfl,rfl,fun w=>Tryz.sizeOf4 w⟩
instance:bw Tryz.prog 127 0 0:=⟨_,_,_,Tryz.underlying127,rfl,rfl,fun w=>Tryz.sizeOf3 w⟩
instance:bw Tryz.prog 127 1 1:=⟨_,_,_,Tryz.underlying127,rfl,rfl,fun w=>Tryz.sizeOf62 w⟩
instance:bw Tryz.prog 125 3 4:=⟨_,_,_,Tryz.underlying125,rfl,rfl,fun w=>Tryz.sizeOf23 w⟩
instance:bw Tryz.prog 123 1 1:=⟨_,_,_,Tryz.underlying123,rfl,rfl,fun w=>Tryz.sizeOf90 w⟩
instance:bw Tryz.prog 127 2 5:=⟨_,_,_,Tryz.underlying127,rfl,rfl,fun w=>Tryz.sizeOf42 w⟩
instance:bw Tryz.prog 125 4 5:=⟨_,_,_,Tryz.underlying125,rfl,rfl,fun w=>Tryz.sizeOf3 w⟩
instance:bw Tryz.prog 73 0 0:=⟨_,_,_,Tryz.underlying73,rfl,rfl,fun w=>Tryz.sizeOf3 w⟩
instance:bw Tryz.prog 73 1 1:=⟨_,_,_,Tryz.underlying73,rfl,rfl,fun w=>Tryz.sizeOf3 w⟩
instance:iT Tryz.prog 80:=⟨_,Tryz.underlying80⟩
instance:bw Tryz.prog 85 1 1:=⟨_,_,_,Tryz.underlying85,rfl,rfl,fun w=>Tryz.sizeOf23 w⟩
instance:bw Tryz.prog 147 3 3:=⟨_,_,_,Tryz.underlying147,rfl,rfl,fun w=>Tryz.sizeOf3 w⟩
instance:bw Tryz.prog 147 1 1:=⟨_,_,_,Tryz.underlying147,rfl,rfl,fun w=>Tryz.sizeOf23 w⟩
instance:bw Tryz.prog 147 0 0:=⟨_,_,_,Tryz.underlying147,rfl,rfl,fun w=>Tryz.sizeOf145 w⟩
instance:bw Tryz.prog 96 3 3:=⟨_,_,_,Tryz.underlying96,rfl,rfl,fun w=>Tryz.sizeOf60 w⟩
instance:bw Tryz.prog 96 4 4:=⟨_,_,_,Tryz.underlying96,rfl,rfl,fun w=>Tryz.sizeOf3 w⟩
instance:bw Tryz.prog 161 0 0:=⟨_,_,_,Tryz.underlying161,rfl,rfl,fun w=>Tryz.sizeOf158 w⟩
instance:dM Tryz.prog 158:=⟨fun w=>Tryz.isAgg158 w⟩
instance:bw Tryz.prog 153 5 5:=⟨_,_,_,Tryz.underlying153,rfl,rfl,fun w=>Tryz.sizeOf4 w⟩
instance:bw Tryz.prog 153 4 4:=⟨_,_,_,Tryz.underlying153,rfl,rfl,fun w=>Tryz.sizeOf4 w⟩
instance:bw Tryz.prog 85 0 0:=⟨_,_,_,Tryz.underlying85,rfl,rfl,fun w=>Tryz.sizeOf4 w⟩
instance:bw Tryz.prog 181 0 0:=⟨_,_,_,Tryz.underlying181,rfl,rfl,fun w=>Tryz.sizeOf87 w⟩
instance:bw Tryz.prog 125 1 2:=⟨_,_,_,Tryz.underlying125,rfl,rfl,fun w=>Tryz.sizeOf60 w⟩
instance:bw Tryz.prog 125 2 3:=⟨_,_,_,Tryz.underlying125,rfl,rfl,fun w=>Tryz.sizeOf3 w⟩
instance:bw Tryz.prog 153 3 3:=⟨_,_,_,Tryz.underlying153,rfl,rfl,fun w=>Tryz.sizeOf5 w⟩
instance:bw Tryz.prog 140 0 0:=⟨_,_,_,Tryz.underlying140,rfl,rfl,fun w=>Tryz.sizeOf5 w⟩
instance:bw Tryz.prog 140 3 3:=⟨_,_,_,Tryz.underlying140,rfl,rfl,fun w=>Tryz.sizeOf9 w⟩
instance:bw Tryz.prog 140 4 4:=⟨_,_,_,Tryz.underlying140,rfl,rfl,fun w=>Tryz.sizeOf9 w⟩
instance:bw Tryz.prog 140 5 5:=⟨_,_,_,Tryz.underlying140,rfl,rfl,fun w=>Tryz.sizeOf3 w⟩
instance:bw Tryz.prog 140 6 6:=⟨_,_,_,Tryz.underlying140,rfl,rfl,fun w=>Tryz.sizeOf3 w⟩
instance:bw Tryz.prog 140 1 1:=⟨_,_,_,Tryz.underlying140,rfl,rfl,fun w=>Tryz.sizeOf5 w⟩
instance:bw Tryz.prog 140 2 2:=⟨_,_,_,Tryz.underlying140,rfl,rfl,fun w=>Tryz.sizeOf9 w⟩
instance:bw Tryz.prog 140 9 9:=⟨_,_,_,Tryz.underlying140,rfl,rfl,fun w=>Tryz.sizeOf40 w⟩
instance:bw Tryz.prog 140 8 8:=⟨_,_,_,Tryz.underlying140,rfl,rfl,fun w=>Tryz.sizeOf137 w⟩
instance:dM Tryz.prog 137:=⟨fun w=>Tryz.isAgg137 w⟩
instance:bw Tryz.prog 140 7 7:=⟨_,_,_,Tryz.underlying140,rfl,rfl,fun w=>Tryz.sizeOf39 w⟩
instance:bw Tryz.prog 140 10 10:=⟨_,_,_,Tryz.underlying140,rfl,rfl,fun w=>Tryz.sizeOf138 w⟩
instance:dM Tryz.prog 138:=⟨fun w=>Tryz.isAgg138 w⟩
instance:bw Tryz.prog 145 0 0:=⟨_,_,_,Tryz.underlying145,rfl,rfl,fun w=>Tryz.sizeOf4 w⟩
instance:bw Tryz.prog 199 0 0:=⟨_,_,_,Tryz.underlying199,rfl,rfl,fun w=>Tryz.sizeOf23 w⟩
instance:bw Tryz.prog 207 0 0:=⟨_,_,_,Tryz.underlying207,rfl,rfl,fun w=>Tryz.sizeOf23 w⟩
instance:iT Tryz.prog 137:=⟨_,Tryz.underlying137⟩
instance:bw Tryz.prog 153 2 2:=⟨_,_,_,Tryz.underlying153,rfl,rfl,fun w=>Tryz.sizeOf46 w⟩
instance:dM Tryz.prog 46:=⟨fun w=>Tryz.isAgg46 w⟩
instance:bw Tryz.prog 153 1 1:=⟨_,_,_,Tryz.underlying153,rfl,rfl,fun w=>Tryz.sizeOf150 w⟩
instance:dM Tryz.prog 150:=⟨fun w=>Tryz.isAgg150 w⟩
instance:dM Tryz.prog 221:=⟨fun w=>Tryz.isAgg221 w⟩
instance:bw Tryz.prog 169 0 0:=⟨_,_,_,Tryz.underlying169,rfl,rfl,fun w=>Tryz.sizeOf9 w⟩
instance:bw Tryz.prog 169 1 1:=⟨_,_,_,Tryz.underlying169,rfl,rfl,fun w=>Tryz.sizeOf9 w⟩
instance:bw Tryz.prog 181 1 1:=⟨_,_,_,Tryz.underlying181,rfl,rfl,fun w=>Tryz.sizeOf4 w⟩
instance:bw Tryz.prog 212 0 0:=⟨_,_,_,Tryz.underlying212,rfl,rfl,fun w=>Tryz.sizeOf9 w⟩
instance:bw Tryz.prog 212 1 1:=⟨_,_,_,Tryz.underlying212,rfl,rfl,fun w=>Tryz.sizeOf3 w⟩
instance:bw Tryz.prog 212 2 2:=⟨_,_,_,Tryz.underlying212,rfl,rfl,fun w=>Tryz.sizeOf3 w⟩
instance:bw Tryz.prog 212 3 3:=⟨_,_,_,Tryz.underlying212,rfl,rfl,fun w=>Tryz.sizeOf3 w⟩
instance:bw Tryz.prog 212 4 4:=⟨_,_,_,Tryz.underlying212,rfl,rfl,fun w=>Tryz.sizeOf3 w⟩
instance:bw Tryz.prog 212 5 5:=⟨_,_,_,Tryz.underlying212,rfl,rfl,fun w=>Tryz.sizeOf3 w⟩
instance:bw Tryz.prog 212 6 6:=⟨_,_,_,Tryz.underlying212,rfl,rfl,fun w=>Tryz.sizeOf3 w⟩
instance:iT Tryz.prog 138:=⟨_,Tryz.underlying138⟩
instance:bw Tryz.prog 194 0 0:=⟨_,_,_,Tryz.underlying194,rfl,rfl,fun w=>Tryz.sizeOf5 w⟩
instance:bw Tryz.prog 194 1 1:=⟨_,_,_,Tryz.underlying194,rfl,rfl,fun w=>Tryz.sizeOf9 w⟩
instance:bw Tryz.prog 147 4 4:=⟨_,_,_,Tryz.underlying147,rfl,rfl,fun w=>Tryz.sizeOf48 w⟩
instance:dM Tryz.prog 48:=⟨fun w=>Tryz.isAgg48 w⟩
instance:bw Tryz.prog 199 2 2:=⟨_,_,_,Tryz.underlying199,rfl,rfl,fun w=>Tryz.sizeOf4 w⟩
instance:bw Tryz.prog 199 1 1:=⟨_,_,_,Tryz.underlying199,rfl,rfl,fun w=>Tryz.sizeOf4 w⟩
instance:bw Tryz.prog 189 0 0:=⟨_,_,_,Tryz.underlying189,rfl,rfl,fun w=>Tryz.sizeOf187 w⟩
instance:dM Tryz.prog 187:=⟨fun w=>Tryz.isAgg187 w⟩
instance:bw Tryz.prog 153 0 0:=⟨_,_,_,Tryz.underlying153,rfl,rfl,fun w=>Tryz.sizeOf149 w⟩
instance:dM Tryz.prog 149:=⟨fun w=>Tryz.isAgg149 w⟩
instance:bw Tryz.prog 261 1 1:=⟨_,_,_,Tryz.underlying261,rfl,rfl,fun w=>Tryz.sizeOf39 w⟩
instance:bw Tryz.prog 273 0 0:=⟨_,_,_,Tryz.underlying273,rfl,rfl,fun w=>Tryz.sizeOf261 w⟩
instance:bw Tryz.prog 261 0 0:=⟨_,_,_,Tryz.underlying261,rfl,rfl,fun w=>Tryz.sizeOf9 w⟩
instance:bw Tryz.prog 273 3 4:=⟨_,_,_,Tryz.underlying273,rfl,rfl,fun w=>Tryz.sizeOf4 w⟩
instance:bw Tryz.prog 273 1 2:=⟨_,_,_,Tryz.underlying273,rfl,rfl,fun w=>Tryz.sizeOf40 w⟩
instance:bw Tryz.prog 278 0 0:=⟨_,_,_,Tryz.underlying278,rfl,rfl,fun w=>Tryz.sizeOf3 w⟩
instance:iT Tryz.prog 301:=⟨_,Tryz.underlying301⟩
instance:dM Tryz.prog 165:=⟨fun w=>Tryz.isAgg165 w⟩
instance:bw Tryz.prog 147 2 2:=⟨_,_,_,Tryz.underlying147,rfl,rfl,fun w=>Tryz.sizeOf3 w⟩
instance:bw Tryz.prog 273 2 3:=⟨_,_,_,Tryz.underlying273,rfl,rfl,fun w=>Tryz.sizeOf271 w⟩
instance:bw Tryz.prog 278 1 1:=⟨_,_,_,Tryz.underlying278,rfl,rfl,fun w=>Tryz.sizeOf3 w⟩
instance:iT Tryz.prog 271:=⟨_,Tryz.underlying271⟩
instance:bw Tryz.prog 273 4 5:=⟨_,_,_,Tryz.underlying273,rfl,rfl,fun w=>Tryz.sizeOf4 w⟩
instance:dM Tryz.prog 271:=⟨fun w=>Tryz.isAgg271 w⟩
instance:bw Tryz.prog 278 2 2:=⟨_,_,_,Tryz.underlying278,rfl,rfl,fun w=>Tryz.sizeOf9 w⟩
instance:iT Tryz.prog 249:=⟨_,Tryz.underlying249⟩
instance:dM Tryz.prog 255:=⟨fun w=>Tryz.isAgg255 w⟩
instance:dM Tryz.prog 257:=⟨fun w=>Tryz.isAgg257 w⟩
instance:dM Tryz.prog 86:=⟨fun w=>Tryz.isAgg86 w⟩
instance:dM Tryz.prog 229:=⟨fun w=>Tryz.isAgg229 w⟩
instance:bw Tryz.prog 104 0 0:=⟨_,_,_,Tryz.underlying104,rfl,rfl,fun w=>Tryz.sizeOf97 w⟩
instance:dM Tryz.prog 97:=⟨fun w=>Tryz.isAgg97 w⟩
instance:bw Tryz.prog 104 1 1:=⟨_,_,_,Tryz.underlying104,rfl,rfl,fun w=>Tryz.sizeOf102 w⟩
instance:bw Tryz.prog 310 0 0:=⟨_,_,_,Tryz.underlying310,rfl,rfl,fun w=>Tryz.sizeOf3 w⟩
instance:bw Tryz.prog 310 1 1:=⟨_,_,_,Tryz.underlying310,rfl,rfl,fun w=>Tryz.sizeOf3 w⟩
instance:bw Tryz.prog 310 2 2:=⟨_,_,_,Tryz.underlying310,rfl,rfl,fun w=>Tryz.sizeOf3 w⟩
instance:bw Tryz.prog 344 1 1:=⟨_,_,_,Tryz.underlying344,rfl,rfl,fun w=>Tryz.sizeOf23 w⟩
instance:bw Tryz.prog 102 2 0:=⟨_,_,_,Tryz.underlying102,rfl,rfl,fun w=>Tryz.sizeOf2 w⟩
instance:iT Tryz.prog 337:=⟨_,Tryz.underlying337⟩
instance:bw Tryz.prog 344 0 0:=⟨_,_,_,Tryz.underlying344,rfl,rfl,fun w=>Tryz.sizeOf342 w⟩
instance:dM Tryz.prog 342:=⟨fun w=>Tryz.isAgg342 w⟩
instance:bw Tryz.prog 379 0 0:=⟨_,_,_,Tryz.underlying379,rfl,rfl,fun w=>Tryz.sizeOf5 w⟩
instance:bw Tryz.prog 379 1 1:=⟨_,_,_,Tryz.underlying379,rfl,rfl,fun w=>Tryz.sizeOf5 w⟩
end Go.Proofs.YtopgddfgefnmbaaGreatDoor
namespace Go.RK
open Go Go.MapKept Go.ChangeMaps
section
variable {P:Program} {f:Fr} {h:ah} {d:Option Tmp} {ty:TypeId} {pos:String} {af:Array Edge} {g:Option (Nat × Bool)}
variable {t t2:TypeId} {x y:Operand} {a b:Int}
theorem Fi (hx:f.ev x=some (In a)) (hy:f.ev y=some (In b)) (hb:0≤b∧b≤64):bK P f ⟨d,.binOp .shr t x y t2,ty,pos,af,g⟩ h (In (a / 2 ^ b.toNat)) :=
 fun ρ w ha _=>by
   have h1:¬ b < 0:=by omega
   have h2:min b.toNat 64=b.toNat:=by omega
   have h3:(IntKind.i64).bits=64:=rfl
   simp [execOp,ha _ _ hx,ha _ _ hy,eqGuard_shr,binOp_shr,Op.shift,h1,h3,h2]
theorem Fj (hx:f.ev x=some (In a)) (hy:f.ev y=some (In b)) (hb:0≤b∧b≤64) (hr : -9223372036854775808≤a * 2 ^ b.toNat∧a * 2 ^ b.toNat≤9223372036854775807):bK P f ⟨d,.binOp .shl t x y t2,ty,pos,af,g⟩ h (In (a * 2 ^ b.toNat)) :=
 fun ρ w ha _=>by
   have h1:¬ b < 0:=by omega
   have h2:min b.toNat 64=b.toNat:=by omega
   have h3:(IntKind.i64).bits=64:=rfl
   have h4:=wrap_i64 _ hr.1 hr.2
   simp [execOp,ha _ _ hx,ha _ _ hy,eqGuard_shl,binOp_shl,Op.shift,h1,h3,h2,h4]
end
section
variable {P:Program} {f:Fr} {h:ah} {dd:Option Tmp} {ty:TypeId} {pos:String} {af:Array Edge} {g:Option (Nat × Bool)}
variable {κ:Type} [DecidableEq κ] {dsc:TypeDesc} {enc:κ→Value} {m:Nat} {es:List (κ × Value)} {k:κ}
end
end Go.RK
namespace Go.RK
open Go
section
variable {P:Program} {f:Fr} {h:ah} {d:Option Tmp} {ty:TypeId} {pos:String} {af:Array Edge} {g:Option (Nat × Bool)}
theorem gl {x y:Operand} {t u e:TypeId} {i:TypeInfo} {ts:Array TypeId} (hts:ts=#[t,u]) (ht:P.underlying t=some (.slice e)) (hu:P.underlying u=some .string) (hi:P.info? e=some i) (hz:i.zero=some (.int .u8 0)) (hsz:i.size=1) (hby:i.bytes=1)
   {v:Value} {n:Nat} {xs:List Value} {s:List UInt8} (hx:f.ev x=some v) (hy:f.ev y=some (St s)) (hown:Own h v e 1 n xs) (hm:n+s.length≤140737488355328) :
   eO P f ⟨d,.call { callee:=.builtin .append,args:=#[x,y],argTypes:=ts },ty,pos,af,g⟩ h
     (fun v' h'=>Own h' v' e 1 (n+s.length) (xs++bu s)∧Ext (fun k=>v.ownBlock=some k) h h'∧(∀ k,v'.ownBlock=some k→v.ownBlock=some k∨h.size≤k)∧(v'=.slice Option.none 0 0 ↔ v=.slice Option.none 0 0∧s=[])) :=
 fun ρ w ha hw=>by
   subst hw
   subst hts
   have hup:=hown.up
   have JQ:n+(ByteArray.mk ⟨s⟩).size≤maxLen:=by show n+s.length≤maxLen;unfold maxLen;omega
   obtain ⟨v',w',hr,ho',hgr,hiff⟩:=Lib.run_append_own_string (P:=P) w 0 t u ty e i ht hu hi hz hsz hby v n xs hup ⟨⟨s⟩⟩ JQ hm (Nat.zero_le _)
   have hloc:∀ k,v'.ownBlock=some k→v.ownBlock=some k∨w.heap.size≤k:=by
     intro k hk
     obtain ⟨hl,⟨rfl,Fk⟩ | ⟨g0,cap,cur,rfl,JR,hn,hc,hs,htk⟩⟩:=hown
     · have JS:w.ownsRow w.heap.size e 1 (.slice Option.none 0 0) n xs:=⟨hl,.inl ⟨rfl,Fk⟩⟩
       obtain ⟨v2,w2,qS,dC,_,_⟩:=Lib.run_append_own_string (P:=P) w w.heap.size t u ty e i ht hu hi hz hsz hby _ n xs JS ⟨⟨s⟩⟩ JQ hm (Nat.le_refl _)
       rw [hr] at qS
       injection qS with e1 e2
       subst e1
       obtain ⟨_,⟨rfl,_⟩ | ⟨g1,_,_,rfl,hb,_⟩⟩:=dC
       · cases hk
       · simp only [Value.ownBlock,Option.some.injEq] at hk
         exact .inr (hk▸hb)
     · by_cases hroom:n+(ByteArray.mk ⟨s⟩).size≤cap
       · have qS:=Lib.run_append_room_string (P:=P) w t u ty e i ht hu hi hsz g0 n cap cur JR ⟨⟨s⟩⟩ hroom (by rw [hs];simpa using hroom)
         rw [hr] at qS
         injection qS with e1 e2
         subst e1
         exact .inl hk
       · have hxl:xs.length=n:=by simpa using hl
         have holds:=hup.cells (g:=g0) rfl
         have qS:=Lib.run_append_grow_string (P:=P) w t u ty e i (.int .u8 0) ht hu hi hz ⟨g0,0,Option.none⟩ n cap xs (by rw [hsz];omega) holds ⟨⟨s⟩⟩ (by omega) (by unfold maxLen at JQ;omega) (by rw [hby];exact growslice_fits (by omega) (by show (n+s.length) * 1≤140737488355328;omega))
         rw [hr] at qS
         injection qS with e1 e2
         subst e1
         simp only [Value.ownBlock,Option.some.injEq] at hk
         exact .inr (by omega)
   refine ⟨v',w',⟨hgr.tape,hgr.os,hgr.output,trivial⟩,⟨.down ho',⟨hgr.size,fun k hk hS=>hgr.block k hk (fun e=>hS e.symm)⟩,hloc,?_⟩,.inl ?_⟩
   · rw [hiff]
     constructor
     · rintro ⟨h1,h2⟩
       exact ⟨h1,List.eq_nil_of_length_eq_zero h2⟩
     · rintro ⟨h1,rfl⟩
       exact ⟨h1,rfl⟩
   · simp [execOp,resolve,invoke,builtin,ha _ _ hx,ha _ _ hy,hr]
end
end Go.RK
namespace Go.Proofs.YtopgddfgefnmbaaGreatDoor
open Go Go.RK
def bI (n:Int) (i:Nat):UInt8:=UInt8.ofNat ((n / 256 ^ i) % 256).toNat
def lk (n:Int) (s:Nat):Nat→List UInt8
 | 0=>[]
 | k+1=>lk n s k++[bI n (s - 1 - k)]
def be (n:Int) (s:Nat):List UInt8:=lk n s s
theorem pH (n:Int) (s k:Nat):(lk n s k).length=k:=by
 induction k with
 | zero=>rfl
 | succ k ih=>simp [lk,ih]
theorem bm (n:Int) (s:Nat):(be n s).length=s:=pH n s s
theorem yD (n:Int) (i:Nat):((bI n i).toNat:Int)=(n / 256 ^ i) % 256:=by
 unfold bI
 have h1:0≤(n / 256 ^ i) % 256:=Int.emod_nonneg _ (by decide)
 have h2:(n / 256 ^ i) % 256 < 256:=Int.emod_lt_of_pos _ (by decide)
 have h3:(UInt8.ofNat ((n / 256 ^ i) % 256).toNat).toNat=((n / 256 ^ i) % 256).toNat:=by simp;omega
 rw [h3,Int.toNat_of_nonneg h1]
def Sz (s:Nat):Prop:=s=1∨s=2∨s=4
def Rt (n:Int) (s:Nat):Prop := -(256 ^ s / 2)≤n∧n < 256 ^ s
theorem Ep {n x:Int} {i:Nat} (h:x % 256=(n / 256 ^ i) % 256):(.int .u8 (IntKind.u8.wrap x):Value)=By (bI n i):=by
 unfold By
 rw [yD,← h]
 congr 1
theorem Cx {h:ah} (s:Nat) (hs:Sz s):ag Tryz.prog 180 ⟨[In s]⟩ h fun u h'=>u=.bool true∧h'=h:=by
 rcases hs with rfl | rfl | rfl
 all_goals
   refine calls [(0,_)] Tryz.func180 rfl Tryz.ntmps180 rfl ⟨rfl,trivial⟩ ?_
   all_goals (refine G2 ?_;refine G3 ?_;refine WC.block ?_;refine G3 ?_;refine aJ 1 2 ?_ TT.mk)
   all_goals try (
   refine ax 1 ?_
   all_goals (refine WC.skip ?_)
   skip)
   all_goals try (
   refine ax 2 ?_
   all_goals (refine G2 ?_;refine Gs [(3,_),(4,_)] ?_;refine aJ 3 4 ?_ TT.mk)
   all_goals try (
   refine ax 3 ?_
   all_goals (refine WC.skip ?_)
   skip)
   all_goals try (
   refine ax 4 ?_
   all_goals (refine WC.region (Go ?_))
   skip)
   skip)
   all_goals (refine Gn ?_;refine aJ 5 6 ?_ TT.mk;refine ax 5 ?_;refine G2 ?_;refine Gt ?_;exact ⟨rfl,rfl⟩)
theorem yE {h:ah} (s:Nat) (hs:Sz s):ag Tryz.prog 181 ⟨[In s]⟩ h fun u h'=>u=In (256 ^ s)∧h'=h:=by
 rcases hs with rfl | rfl | rfl
 all_goals
   refine calls [(0,_)] Tryz.func181 rfl Tryz.ntmps181 rfl ⟨rfl,trivial⟩ ?_
   all_goals (refine G2 ?_;refine G2 ?_;refine WL.step (j9 rfl rfl (by omega)) rfl rfl rfl ?_;refine WL.step (Fj rfl rfl (by decide) (by decide)) rfl rfl rfl (Go ?_);refine Gs [(2,_)] ?_;refine Gt ?_;exact ⟨rfl,rfl⟩)
theorem tv {s:Nat} (hs:Sz s):(256:Int) ^ s=256∨(256:Int) ^ s=65536∨(256:Int) ^ s=4294967296:=by
 rcases hs with rfl | rfl | rfl
 · exact .inl rfl
 · exact .inr (.inl rfl)
 · exact .inr (.inr rfl)
theorem pI {h:ah} (n:Int) (s:Nat) (hs:Sz s) (hr:Rt n s):ag Tryz.prog 173 ⟨[In n,In s]⟩ h fun u h'=>u=.bool true∧h'=h:=by
 obtain ⟨r1,r2⟩:=hr
 have ks:=yE (h:=h) s hs
 have hq:=tv hs
 generalize (256:Int) ^ s=q at r1 r2 ks hq
 rcases hq with rfl | rfl | rfl
 all_goals
   refine calls [(0,_),(1,_)] Tryz.func173 rfl Tryz.ntmps173 rfl ⟨rfl,rfl,trivial⟩ ?_
   all_goals (refine G2 ?_;refine G3 ?_;refine WL.call (vs:=[_]) rfl Tryz.call180 rfl (Cx s hs) rfl rfl rfl ?_;rintro _ hz ⟨rfl,_⟩;subst hz;refine Go ?_;refine aJ 1 2 ?_ TT.mk;refine ax 2 ?_;refine WC.skip ?_;refine Gn ?_;refine Gs [(0,_),(1,_)] ?_;refine G2 ?_;refine WL.call (vs:=[_]) rfl Tryz.call181 rfl (ks) rfl rfl rfl ?_;rintro _ hz ⟨rfl,_⟩;subst hz;refine WL.step (pF rfl (by omega)) rfl rfl rfl ?_;refine WL.step (jl rfl rfl (by decide) (kF (by omega) (by decide))) rfl rfl rfl ?_;first | rw [show (-256:Int).tdiv 2 = -128 from rfl] | rw [show (-65536:Int).tdiv 2 = -32768 from rfl] | rw [show (-4294967296:Int).tdiv 2 = -2147483648 from rfl])
   all_goals (refine Go ?_;refine bG 14 ?_ TT.mk;refine Gg ?_;refine WL.call (vs:=[_]) rfl Tryz.call181 rfl (ks) rfl rfl rfl ?_;rintro _ hz ⟨rfl,_⟩;subst hz;refine Gg ?_;refine Go ?_;refine Gs [(4,_)] ?_;refine Gt ?_;exact ⟨rfl,rfl⟩)
theorem Cy {h:ah} (n:Int) (s:Nat) (hs:Sz s) (hr:Rt n s) (kp:ag Tryz.prog 106 ⟨[In s]⟩ h fun u h'=>u=In (256 ^ s)∧h'=h) (kz:ag Tryz.prog 158 ⟨[In s]⟩ h fun u h'=>u=.bool true∧h'=h) :
   ag Tryz.prog 105 ⟨[In n,In s]⟩ h fun u h'=>u=.bool true∧h'=h:=by
 obtain ⟨r1,r2⟩:=hr
 have hq:=tv hs
 generalize (256:Int) ^ s=q at r1 r2 kp hq
 rcases hq with rfl | rfl | rfl
 all_goals
   refine calls [(0,_),(1,_)] Tryz.func105 rfl Tryz.ntmps105 rfl ⟨rfl,rfl,trivial⟩ ?_
   all_goals (refine G2 ?_;refine G2 ?_;refine WL.call (vs:=[_]) rfl Tryz.call158 rfl (kz) rfl rfl rfl ?_;rintro _ hz ⟨rfl,_⟩;subst hz;refine Go ?_;refine bG 7 ?_ TT.mk;refine Gg ?_;refine WL.call (vs:=[_]) rfl Tryz.call106 rfl (kp) rfl rfl rfl ?_;rintro _ hz ⟨rfl,_⟩;subst hz;refine WL.step (pF rfl (by omega)) rfl rfl rfl ?_;refine WL.step (jl rfl rfl (by decide) (kF (by omega) (by decide))) rfl rfl rfl ?_;first | rw [show (-256:Int).tdiv 2 = -128 from rfl] | rw [show (-65536:Int).tdiv 2 = -32768 from rfl] | rw [show (-4294967296:Int).tdiv 2 = -2147483648 from rfl])
   all_goals (refine Gg ?_;refine Go ?_;refine bG 15 ?_ TT.mk;refine Gg ?_;refine WL.call (vs:=[_]) rfl Tryz.call106 rfl (kp) rfl rfl rfl ?_;rintro _ hz ⟨rfl,_⟩;subst hz;refine Gg ?_;refine Go ?_;refine Gs [(4,_)] ?_;refine Gt ?_;exact ⟨rfl,rfl⟩)
theorem Cz {h:ah} (s:Nat) (hs:Sz s):ag Tryz.prog 158 ⟨[In s]⟩ h fun u h'=>u=.bool true∧h'=h:=by
 rcases hs with rfl | rfl | rfl
 all_goals
   refine calls [(0,_)] Tryz.func158 rfl Tryz.ntmps158 rfl ⟨rfl,trivial⟩ ?_
   all_goals (refine G2 ?_;refine G2 ?_;refine bG 5 ?_ TT.mk;refine Gg ?_;refine Go ?_;refine bG 9 ?_ TT.mk;refine Gg ?_;refine Go ?_;refine Gs [(2,_)] ?_;refine Gt ?_;exact ⟨rfl,rfl⟩)
theorem pJ {k:Nat} (h:k≤3):1≤(256:Int) ^ k∧(256:Int) ^ k≤16777216:=by
 have:k=0∨k=1∨k=2∨k=3:=by omega
 rcases this with rfl | rfl | rfl | rfl <;> decide
theorem Es {h:ah} (s:Nat) (hs:s≤4):ag Tryz.prog 106 ⟨[In s]⟩ h fun u h'=>u=In (256 ^ s)∧h'=h:=by
 refine calls [(0,_)] Tryz.func106 rfl Tryz.ntmps106 rfl ⟨rfl,trivial⟩ ?_
 refine G2 ?_;refine G2 ?_;refine G3 ?_;refine WC.block ?_;refine WC.bC (X:=Nat × Int) (fun x=>([(3,In x.2),(4,In (x.1:Int))]:Fr)) [(0,_)] (fun x h'=>h'=h∧x.1≤s∧x.2=256 ^ x.1) (fun x=>s - x.1) ((0,1)) ⟨rfl,rfl,rfl,trivial⟩ (by exact ⟨rfl,Nat.zero_le _,rfl⟩) ?_
 rintro ⟨k,p⟩ h9 ⟨hz,hk,hp⟩
 dsimp only at hk hp
 subst h9
 refine WC.sub [(3,_),(4,_),(0,_)] ⟨rfl,rfl,rfl,trivial⟩ ?_
 dsimp only
 refine G3 ?_
 refine aJ 1 2 (Hb.mk fun hb=>?_) (Hb.mk fun hb=>?_)
 all_goals try (
 refine ax 1 ?_
 refine WC.skip ?_
 skip)
 all_goals try (
 refine ax 2 ?_
 refine WC.exit ?_
 repeat' (with_reducible first | refine aU ?_ | refine aG rfl ?_ | refine aI ?_ | refine aL ?_ | refine aS ?_)
 refine Br.out (i:=1000) ?_
 skip)
 all_goals (refine Gn ?_;first | refine Br.ab ?_ | refine WC.seq ?_)
 all_goals (first | refine Br.ab ?_ | refine WC.block ?_)
 all_goals (first | refine Br.ab ?_ | refine WC.region ?_)
 all_goals (
  first
    | (refine Br.ab ?_)
    | (have hpl:=pJ (show k≤3 by omega)
       rw [← hp] at hpl))
 all_goals (first | refine Br.ab ?_ | refine WL.step (ak rfl) rfl rfl rfl ?_)
 all_goals (first | refine Br.ab ?_ | (refine WL.step (j9 rfl rfl (by omega)) rfl rfl rfl ?_))
 all_goals (refine Go ?_;first | refine Br.ab ?_ | refine Gs [(0,_),(3,_),(4,_)] ?_)
 all_goals (first | refine Br.ab ?_ | refine WC.region ?_)
 all_goals (refine Go ?_;first | refine Br.ab ?_ | (exact ⟨(k+1,_),⟨rfl,rfl,rfl,trivial⟩,(by exact ⟨rfl,by omega,by rw [hp];rfl⟩),(by simp;omega)⟩))
 try (refine Br.mk (i:=1000) ?_)
 refine Gn ?_;refine Gs [(3,_)] ?_;refine G2 ?_;refine Gt ?_
 exact ⟨by rw [hp,show k=s by omega],rfl⟩
theorem yF {n:Int} {k:Nat} {b:Int} (hb:b=8 * (k:Int)):n / 2 ^ b.toNat=n / 256 ^ k:=by
 have h1:b.toNat=8 * k:=by omega
 rw [h1,show (2:Int) ^ (8 * k)=256 ^ k by rw [Int.pow_mul];rfl]
theorem yG {h:ah} {v:Value} (l:List UInt8) (n:Int) (s:Nat) (hs:Sz s) (hr:Rt n s) (hv:Rd h v 1 l.length (bu l)) (hl:l.length≤100000000000000) :
   ag Tryz.prog 164 ⟨[v,In n,In s]⟩ h fun u h'=>Own h' u 5 1 (l++be n s).length (bu (l++be n s))∧Ext No h h'∧∀ q,u.ownBlock=some q→h.size≤q:=by
 obtain ⟨A,c,rfl,hc⟩:=id hv
 have yH:s≤4:=by unfold Sz at hs;omega
 have qX:1≤s:=by unfold Sz at hs;omega
 refine calls [(0,_),(1,_),(2,_)] Tryz.func164 rfl Tryz.ntmps164 rfl ⟨rfl,rfl,rfl,trivial⟩ ?_
 refine G2 ?_;refine WC.sr ?_;refine WL.ai (aw (vs:=[]) (cs:=[]) (fun _=>[]) Tryz.underlying23 rfl rfl (by kernel_rfl)) rfl rfl rfl ?_
 rintro _ h1 ⟨b1,rfl,bO,aQ,ay⟩
 refine Go ?_;refine WL.ai (aT (sz:=1) (bytes:=1) rfl Tryz.underlying23 (show Tryz.prog.info? 5=some Tryz.t5 by kernel_rfl) rfl rfl rfl rfl (by decide) rfl rfl (dJ aQ rfl (by decide)) (hv.aq ay) (by intro c hc;obtain ⟨b,_,rfl⟩:=List.mem_map.1 hc;rfl) (by simp only [maxLen];omega) (by omega)) rfl rfl rfl ?_
 rintro v2 h2 ⟨dC,aH,lu⟩
 have eN:∀ q,v2.ownBlock=some q→h.size≤q:=bR lu (by simp [Value.ownBlock];omega) ay.size
 have gm:Ext No h h2:=ay.trans' aH (fun q hq e=>by simp [Value.ownBlock] at e;omega)
 refine Go ?_;refine Gs [(1,_),(2,_),(7,_)] ?_;refine G3 ?_;refine WL.call (vs:=[_,_]) rfl Tryz.call173 rfl (pI n s hs hr) rfl rfl rfl ?_
 rintro _ hz ⟨rfl,_⟩
 subst hz
 refine Go ?_
 refine aJ 1 2 ?_ TT.mk
 all_goals (refine ax 2 ?_)
 refine WC.skip ?_;refine Gn ?_;refine Gs [(1,_),(2,_),(7,_)] ?_;refine G3 ?_;refine WL.step (j9 rfl rfl (by omega)) rfl rfl rfl (Go ?_)
 refine Gs [(1,_),(7,_),(8,_)] ?_;refine WC.block ?_;refine WC.bC (X:=Value × Int × Nat) (fun x=>([(7,x.1),(8,In x.2.1)]:Fr)) [(1,_)] (fun x h'=>x.2.2≤s∧x.2.1=8 * ((s:Int) - 1 - x.2.2)∧Own h' x.1 5 1 (l++lk n s x.2.2).length (bu (l++lk n s x.2.2))∧Ext No h h'∧∀ q,x.1.ownBlock=some q→h.size≤q) (fun x=>s - x.2.2) ((v2,_,0)) ⟨rfl,rfl,rfl,trivial⟩ (by exact ⟨Nat.zero_le _,by simp,by simpa [lk] using dC,gm,eN⟩) ?_
 rintro ⟨w,sh,k⟩ h3 ⟨hk,hsh,dE,aP,gG⟩
 dsimp only at hk hsh dE gG
 have hbl:=pH n s k
 have HH:(l++lk n s k).length=l.length+k:=by rw [List.length_append,hbl]
 refine WC.sub [(7,_),(8,_),(1,_)] ⟨rfl,rfl,rfl,trivial⟩ ?_
 dsimp only
 refine G3 ?_
 refine aJ 3 4 (Hb.mk fun hb=>?_) (Hb.mk fun hb=>?_)
 all_goals try (
 refine ax 3 ?_
 refine WC.skip ?_
 skip)
 all_goals try (
 refine ax 4 ?_
 refine WC.exit ?_
 repeat' (with_reducible first | refine aU ?_ | refine aG rfl ?_ | refine aI ?_ | refine aL ?_ | refine aS ?_)
 refine Br.out (i:=1000) ?_
 skip)
 all_goals (refine Gn ?_;first | refine Br.ab ?_ | refine WC.seq ?_)
 all_goals (first | refine Br.ab ?_ | refine WC.block ?_)
 all_goals (first | refine Br.ab ?_ | refine WC.region ?_)
 all_goals (refine Go ?_;first | refine Br.ab ?_ | (refine WL.step (Fi rfl rfl (by omega)) rfl rfl rfl ?_))
 all_goals (first | refine Br.ab ?_ | refine WL.step (mH Tryz.underlying3 Tryz.underlying5 rfl) rfl rfl rfl ?_)
 all_goals (
  first
    | (refine Br.ab ?_)
    | (refine WL.ai (aw (vs:=[_]) (cs:=[_]) (fun | [a0]=>[a0] | _=>[]) Tryz.underlying23 rfl rfl (by kernel_rfl)) rfl rfl rfl ?_
       rintro _ h4 ⟨b4,rfl,oF,bx,aW⟩))
 all_goals (
  first
    | (refine Br.ab ?_)
    | (refine WL.ai (aT (sz:=1) (bytes:=1) rfl Tryz.underlying23 (show Tryz.prog.info? 5=some Tryz.t5 by kernel_rfl) rfl rfl rfl rfl (by decide) rfl rfl (dE.ext aW (fun _ _=>aO)) (bz bx rfl) (by simp [Value.oneCell']) (by simp only [maxLen];omega) (by omega)) rfl rfl rfl ?_
       rintro v5 h5 ⟨eG,aN,yI⟩))
 all_goals (
  first
    | (refine Br.ab ?_)
    | (have hsb:n / 2 ^ sh.toNat=n / 256 ^ (s - 1 - k):=yF (by omega)
       rw [hsb,Ep rfl] at eG
       have hO:Own h5 v5 5 1 (l++lk n s (k+1)).length (bu (l++lk n s (k+1))):=by have e:l++lk n s (k+1)=(l++lk n s k)++[bI n (s - 1 - k)]:=(by simp [lk]);rw [e,bu,List.map_append,List.length_append];exact eG))
 all_goals (refine Go ?_;first | refine Br.ab ?_ | refine Gs [(1,_),(7,_),(8,_)] ?_)
 all_goals (first | refine Br.ab ?_ | refine WC.region ?_)
 all_goals (refine Go ?_;first | refine Br.ab ?_ | (exact ⟨(_,_,k+1),⟨rfl,rfl,rfl,trivial⟩,(by exact ⟨by dsimp only;omega,by dsimp only;omega,hO,(aP.trans aW).trans' aN (fun q hq e=>by have:=gG q e;omega),bR yI gG (by have:=aP.size;have:=aW.size;omega)⟩),(by simp;omega)⟩))
 try (refine Br.mk (i:=1000) ?_)
 refine Gn ?_;refine Gs [(7,_)] ?_;refine G2 ?_;refine Gt ?_
 (obtain rfl:k=s:=by omega);exact ⟨dE,aP,gG⟩
theorem yJ {n:Int} {s i:Nat} (h:i < s):bI (n+256 ^ s) i=bI n i:=by
 have h1:(n+256 ^ s) / 256 ^ i=n / 256 ^ i+256 ^ (s - i):=by
   rw [show (256:Int) ^ s=256 ^ i * 256 ^ (s - i) by rw [← Int.pow_add,show i+(s - i)=s by omega]]
   rw [Int.add_mul_ediv_left _ _ (by have:(0:Int) < 256 ^ i:=Int.pow_pos (by decide);omega)]
 obtain ⟨j,hj⟩:∃ j,s - i=j+1:=⟨s - i - 1,by omega⟩
 have h2:(256:Int) ^ (s - i)=256 ^ j * 256:=by rw [hj,Int.pow_succ]
 unfold bI
 rw [h1,h2,Int.add_mul_emod_self_right]
theorem jn {m n:Int} {s:Nat} (h:∀ i,i < s→bI m i=bI n i) (hs:1≤s):∀ k,lk m s k=lk n s k
 | 0=>rfl
 | k+1=>by rw [lk,lk,jn h hs k,h _ (by omega)]
theorem HI {m p:Int} (h:0≤m∧m≤4294967296) (hp:1≤p):m.tdiv p=m / p∧0≤m / p∧m / p≤4294967296:=by
 refine ⟨Int.tdiv_eq_ediv_of_nonneg h.1,Int.ediv_nonneg h.1 (by omega),?_⟩
 have:=Int.ediv_le_self p h.1
 omega
theorem kI {h:ah} {v:Value} (l:List UInt8) (n:Int) (s:Nat) (hs:Sz s) (hr:Rt n s) (hv:Rd h v 1 l.length (bu l)) (hl:l.length≤100000000000000) :
   ag Tryz.prog 62 ⟨[v,In n,In s]⟩ h fun u h'=>Own h' u 5 1 (l++be n s).length (bu (l++be n s))∧Ext No h h'∧∀ q,u.ownBlock=some q→h.size≤q:=by
 obtain ⟨A,c,rfl,hc⟩:=id hv
 have yH:s≤4:=by unfold Sz at hs;omega
 have qX:1≤s:=by unfold Sz at hs;omega
 have hq:=tv hs
 obtain ⟨r1,r2⟩:=id hr
 have kp:=fun h'=>Es (h:=h') s (by omega)
 have kr:=fun h'=>Cy (h:=h') n s hs hr (kp h') (Cz s hs)
 obtain ⟨m,Jr,Ck,hmb⟩:∃ m:Int,(if n < 0 then n+256 ^ s else n)=m∧(0≤m∧m≤4294967296)∧∀ i,i < s→bI m i=bI n i:=by
   refine ⟨_,rfl,?_,fun i hi=>?_⟩
   · generalize (256:Int) ^ s=q at r1 r2 hq
     split <;> rcases hq with rfl | rfl | rfl <;> omega
   · split
     · exact yJ hi
     · rfl
 rw [show be n s=be m s from (jn hmb qX s).symm]
 generalize hqq:(256:Int) ^ s=q at r1 r2 kp hq Jr
 refine calls [(0,_),(1,_),(2,_)] Tryz.func62 rfl Tryz.ntmps62 rfl ⟨rfl,rfl,rfl,trivial⟩ ?_
 refine G2 ?_;refine G2 ?_;refine WL.ai (aT (sz:=1) (bytes:=1) rfl Tryz.underlying23 (show Tryz.prog.info? 5=some Tryz.t5 by kernel_rfl) rfl rfl rfl rfl (by decide) rfl rfl (Own.nil _ _ _) hv (by intro c hc;obtain ⟨b,_,rfl⟩:=List.mem_map.1 hc;rfl) (by simp only [maxLen];omega) (by omega)) rfl rfl rfl ?_
 rintro v2 h2 ⟨dC,aH,lu⟩
 have eN:∀ q,v2.ownBlock=some q→h.size≤q:=bR lu (by simp [Value.ownBlock]) (Nat.le_refl _)
 have gm:Ext No h h2:=aH.mono (fun q hq e=>by simp [Value.ownBlock] at e)
 refine Go ?_;refine Gs [(1,_),(2,_),(7,_)] ?_;refine G3 ?_;refine WL.call (vs:=[_,_]) rfl Tryz.call105 rfl (kr _) rfl rfl rfl ?_
 rintro _ hz ⟨rfl,_⟩
 subst hz
 refine Go ?_
 refine aJ 1 2 ?_ TT.mk
 all_goals (refine ax 2 ?_)
 refine WC.skip ?_;refine Gn ?_;refine Gs [(1,_),(2,_),(7,_)] ?_;refine G3 ?_
 refine aJ 3 4 (Hb.mk fun hb=>?_) (Hb.mk fun hb=>?_)
 all_goals try (
 refine ax 3 ?_
 refine WC.region (Go ?_);refine WL.call (vs:=[_]) rfl Tryz.call106 rfl (kp _) rfl rfl rfl ?_
 rintro _ hz ⟨rfl,_⟩
 subst hz
 refine Go ?_
 skip)
 all_goals try (
 refine ax 4 ?_
 refine WC.skip ?_
 skip)
 all_goals (refine Gn ?_;refine WC.seq ?_;refine WC.sr ?_)
 all_goals (
  first | rw [if_pos (by assumption)] at Jr | rw [if_neg (by assumption)] at Jr
  rw [Jr])
 all_goals (refine WL.step (ak rfl) rfl rfl rfl (Go ?_);refine Gs [(1,_),(7,_),(8,_)] ?_;refine WC.block ?_)
 all_goals (refine WC.bC (X:=Value × Int × Nat) (fun x=>([(7,x.1),(8,In x.2.1)]:Fr)) [(1,_)] (fun x h'=>x.2.2≤s∧x.2.1=(s:Int) - 1 - x.2.2∧Own h' x.1 5 1 (l++lk m s x.2.2).length (bu (l++lk m s x.2.2))∧Ext No h h'∧∀ q,x.1.ownBlock=some q→h.size≤q) (fun x=>s - x.2.2) ((v2,_,0)) ⟨rfl,rfl,rfl,trivial⟩ (by exact ⟨Nat.zero_le _,by simp,by simpa [lk] using dC,gm,eN⟩) ?_)
 all_goals (
  rintro ⟨w,sh,k⟩ h3 ⟨hk,hsh,dE,aP,gG⟩
  dsimp only at hk hsh dE gG
  have hbl:=pH m s k
  have HH:(l++lk m s k).length=l.length+k:=by rw [List.length_append,hbl])
 all_goals (refine WC.sub [(7,_),(8,_),(1,_)] ⟨rfl,rfl,rfl,trivial⟩ ?_;dsimp only)
 all_goals (refine G3 ?_;refine aJ 5 6 (Hb.mk fun hb=>?_) (Hb.mk fun hb=>?_))
 all_goals try (
 refine ax 5 ?_
 all_goals (refine WC.skip ?_)
 skip)
 all_goals try (
 refine ax 6 ?_
 all_goals (refine WC.exit ?_;repeat' (with_reducible first | refine aU ?_ | refine aG rfl ?_ | refine aI ?_ | refine aL ?_ | refine aS ?_))
 all_goals (refine Br.out (i:=1000) ?_)
 skip)
 all_goals (refine Gn ?_;first | refine Br.ab ?_ | refine WC.seq ?_)
 all_goals (first | refine Br.ab ?_ | refine WC.block ?_)
 all_goals (first | refine Br.ab ?_ | refine WC.region ?_)
 all_goals (
  first
    | (refine Br.ab ?_)
    | (obtain ⟨j,rfl⟩:∃ j:Nat,sh=(j:Int):=⟨sh.toNat,by omega⟩
       have hpj:=pJ (show j≤3 by omega)
       have htd:=HI Ck hpj.1))
 all_goals (first | refine Br.ab ?_ | refine WL.step (ak rfl) rfl rfl rfl ?_)
 all_goals (refine Go ?_)
 all_goals (
  first
    | (refine Br.ab ?_)
    | (refine WL.call (vs:=[_]) rfl Tryz.call106 rfl (Es j (by omega)) rfl rfl rfl ?_
       rintro _ hz ⟨rfl,_⟩
       subst hz))
 all_goals (first | refine Br.ab ?_ | (refine WL.step (jl rfl rfl (by omega) (⟨by rw [htd.1];omega,by rw [htd.1];omega⟩)) rfl rfl rfl ?_))
 all_goals (first | refine Br.ab ?_ | (refine WL.step (yo rfl rfl (by decide)) rfl rfl rfl ?_))
 all_goals (first | refine Br.ab ?_ | refine WL.step (mH Tryz.underlying3 Tryz.underlying5 rfl) rfl rfl rfl ?_)
 all_goals (
  first
    | (refine Br.ab ?_)
    | (refine WL.ai (aw (vs:=[_]) (cs:=[_]) (fun | [a0]=>[a0] | _=>[]) Tryz.underlying23 rfl rfl (by kernel_rfl)) rfl rfl rfl ?_
       rintro _ h4 ⟨b4,rfl,oF,bx,aW⟩))
 all_goals (
  first
    | (refine Br.ab ?_)
    | (refine WL.ai (aT (sz:=1) (bytes:=1) rfl Tryz.underlying23 (show Tryz.prog.info? 5=some Tryz.t5 by kernel_rfl) rfl rfl rfl rfl (by decide) rfl rfl (dE.ext aW (fun _ _=>aO)) (bz bx rfl) (by simp [Value.oneCell']) (by simp only [maxLen];omega) (by omega)) rfl rfl rfl ?_
       rintro v5 h5 ⟨eG,aN,yI⟩))
 all_goals (
  first
    | (refine Br.ab ?_)
    | (have hsb:((m.tdiv (256 ^ j)).tmod 256) % 256=(m / 256 ^ (s - 1 - k)) % 256:=by rw [htd.1,Int.tmod_eq_emod_of_nonneg htd.2.1,Int.emod_emod,show j=s - 1 - k by omega]
       rw [Ep hsb] at eG
       have hO:Own h5 v5 5 1 (l++lk m s (k+1)).length (bu (l++lk m s (k+1))):=by have e:l++lk m s (k+1)=(l++lk m s k)++[bI m (s - 1 - k)]:=(by simp [lk]);rw [e,bu,List.map_append,List.length_append];exact eG))
 all_goals (refine Go ?_;first | refine Br.ab ?_ | refine Gs [(1,_),(7,_),(8,_)] ?_)
 all_goals (first | refine Br.ab ?_ | refine WC.region ?_)
 all_goals (refine Go ?_;first | refine Br.ab ?_ | (exact ⟨(_,_,k+1),⟨rfl,rfl,rfl,trivial⟩,(by exact ⟨by dsimp only;omega,by dsimp only;omega,hO,(aP.trans aW).trans' aN (fun q hq e=>by have:=gG q e;omega),bR yI gG (by have:=aP.size;have:=aW.size;omega)⟩),(by simp;omega)⟩))
 all_goals (try (refine Br.mk (i:=1000) ?_))
 all_goals (refine Gn ?_;refine Gs [(7,_)] ?_;refine G2 ?_;refine Gt ?_;(obtain rfl:k=s:=by omega);exact ⟨dE,aP,gG⟩)
end Go.Proofs.YtopgddfgefnmbaaGreatDoor
namespace Go.RK
open Go Go.MapKept Go.ChangeMaps
structure MG {κ:Type} (enc:κ→Value) (h:ah) (r m:Nat) (es ds:List (κ × Value)) (arr:Array MapEntry) (clock since c0:Nat) (seen:Array Nat):Prop where
 it:h[r]?=some (.mapIter (some m) since seen c0)
 mp:h[m]?=some (.map arr clock)
 st:Stamped arr clock
 kv:arr.toList.map (fun e=>(e.key,e.val))=es.map fun p=>(enc p.1,p.2)
 old:∀ x∈arr.toList,x.born < since
 le:since≤c0
 Ot:since≤clock
 seen:∀ x∈arr.toList,(seen.contains x.born=true ↔ ∃ p∈ds,(x.key,x.val)=(enc p.1,p.2))
 sub:∀ p∈ds,p∈es
 nd:ds.Nodup
def It {κ:Type} (enc:κ→Value) (h:ah) (r m:Nat) (es ds:List (κ × Value)):Prop:=∃ arr clock since c0 seen,MG enc h r m es ds arr clock since c0 seen
section
variable {P:Program} {f:Fr} {h h':ah} {d:Option Tmp} {ty:TypeId} {pos:String} {af:Array Edge} {g:Option (Nat × Bool)}
variable {κ:Type} {dsc:TypeDesc} {enc:κ→Value} {r m:Nat} {es ds:List (κ × Value)}
theorem It.map (i:It enc h r m es ds):Mp dsc enc h m es:=by
 obtain ⟨arr,clock,since,c0,seen,k⟩:=i
 exact ⟨arr,clock,k.mp,k.st,k.kv⟩
theorem It.sub (i:It enc h r m es ds):∀ p∈ds,p∈es:=by
 obtain ⟨arr,clock,since,c0,seen,k⟩:=i
 exact k.sub
theorem It.nd (i:It enc h r m es ds):ds.Nodup:=by
 obtain ⟨arr,clock,since,c0,seen,k⟩:=i
 exact k.nd
end
end Go.RK
namespace Go.Proofs.YtopgddfgefnmbaaGreatDoor
open Go Go.RK
theorem Fl {a b:List UInt8} (h1:¬ a < b) (h2:¬ b < a):a=b:=List.le_antisymm (List.not_lt.1 h2) (List.not_lt.1 h1)
section
variable {α β:Type}
def wI (L:List (List UInt8 × α)):Prop:=L.Pairwise fun a b=>a.1 < b.1
def tw:List (List UInt8 × α)→List UInt8→α→List (List UInt8 × α)
 | [],n,v=>[(n,v)]
 | (m,w) :: L,n,v=>if m < n then (m,w) :: tw L n v else if m=n then (n,v) :: L else (n,v) :: (m,w) :: L
theorem wI.nd {L:List (List UInt8 × α)} (h:wI L):(L.map (·.1)).Nodup:=by
 refine List.pairwise_map.2 (h.imp fun {a b} hab e=>?_)
 rw [e] at hab
 exact List.lt_irrefl _ hab
theorem yK {L:List (List UInt8 × α)} {n:List UInt8} {v:α} {p:List UInt8 × α} (h:p∈tw L n v):p=(n,v)∨p∈L:=by
 induction L with
 | nil=>simpa [tw] using h
 | cons a L ih =>
   obtain ⟨m,w⟩:=a
   unfold tw at h
   split at h
   · rcases List.mem_cons.1 h with rfl | h
     · exact .inr List.mem_cons_self
     · exact (ih h).imp id (List.mem_cons_of_mem _)
   · split at h
     · rcases List.mem_cons.1 h with rfl | h
       · exact .inl rfl
       · exact .inr (List.mem_cons_of_mem _ h)
     · rcases List.mem_cons.1 h with rfl | h
       · exact .inl rfl
       · exact .inr h
theorem wI.set {L:List (List UInt8 × α)} (h:wI L) (n:List UInt8) (v:α):wI (tw L n v):=by
 induction L with
 | nil=>simp [tw,wI]
 | cons a L ih =>
   obtain ⟨m,w⟩:=a
   obtain ⟨h1,h2⟩:=List.pairwise_cons.1 h
   unfold tw
   split
   · rename_i hlt
     refine List.pairwise_cons.2 ⟨fun p hp=>?_,ih h2⟩
     rcases yK hp with rfl | hp
     · exact hlt
     · exact h1 p hp
   · rename_i hlt
     split
     · rename_i he
       subst he
       exact List.pairwise_cons.2 ⟨h1,h2⟩
     · rename_i hne
       have hnm:n < m:=by
         rcases Decidable.em (n < m) with h | h
         · exact h
         · exact absurd (Fl hlt h) hne
       refine List.pairwise_cons.2 ⟨fun p hp=>?_,h⟩
       rcases List.mem_cons.1 hp with rfl | hp
       · exact hnm
       · exact List.lt_trans hnm (h1 p hp)
end
theorem At.tl {h:ah} {b o:Nat} {x:Value} {xs:List Value} (a:At h b o (x :: xs)):At h b (o+1) xs:=fun j v hj=>by
 have:=a (j+1) v (by simpa using hj)
 rwa [show o+(j+1)=o+1+j by omega] at this
section
variable {α:Type} {F:α→List Value} {sz:Nat} (hF:∀ a,(F a).length=sz)
include hF
end
theorem JT {k:Int} (h0:0≤k) (h1:k≤255):By (UInt8.ofNat k.toNat)=.int .u8 k:=by
 show Value.int .u8 ((UInt8.ofNat k.toNat).toNat:Int)=.int .u8 k
 rw [UInt8.toNat_ofNat']
 congr 1
 omega
theorem HJ {n:Int} (h:0≤n∧n≤4294967295):Rt n 4:=by
 unfold Rt
 rw [show (256:Int) ^ 4=4294967296 from rfl]
 omega
def dU (k:Int) (l:List UInt8):List UInt8:=[UInt8.ofNat k.toNat]++be (4+(l.length:Int)) 4++l
theorem gn (l m:List UInt8):bu (l++m)=bu l++bu m:=List.map_append ..
theorem pK {k:Int} (hk:0≤k∧k≤255):bu [UInt8.ofNat k.toNat]=[.int .u8 k]:=congrArg (fun z=>[z]) (JT hk.1 hk.2)
theorem vv {h:ah} {v:Value} (k:Int) (hk:0 < k∧k≤255) (l:List UInt8) (hv:Rd h v 1 l.length (bu l)) (hl:l.length≤1000000000) :
   ag Tryz.prog 115 ⟨[.agg ⟨[.int .u8 k,v]⟩]⟩ h fun u h'=>Own h' u 5 1 (dU k l).length (bu (dU k l))∧Ext No h h':=by
 obtain ⟨A,c,rfl,_⟩:=id hv
 refine calls [(0,_)] Tryz.func115 rfl Tryz.ntmps115 rfl ⟨rfl,trivial⟩ ?_
 refine WC.sr ?_;refine WL.ai (aB rfl) rfl rfl rfl ?_
 rintro _ h1 ⟨b1,rfl,bO,aQ,ay⟩
 refine Go ?_;refine G2 ?_;refine G3 ?_;refine Ld ?_;refine Go ?_;refine Gs [(1,_),(3,_),(6,_)] ?_
 refine aJ 1 2 ?_ TT.mk
 all_goals (refine ax 1 ?_)
 refine WC.region (Go ?_);refine Ld ?_;refine WL.ai (aw (vs:=[_]) (cs:=[_]) (fun | [a0]=>[a0] | _=>[]) Tryz.underlying23 rfl rfl (by kernel_rfl)) rfl rfl rfl ?_
 rintro _ h2 ⟨b2,rfl,eS,bH,aH⟩
 have bX:=aH.obj aQ aO
 have gm:=ay.trans aH
 have qS:Rd h2 (.slice (some ⟨b2,0,none⟩) 1 1) 1 ([UInt8.ofNat k.toNat]:List UInt8).length (bu [UInt8.ofNat k.toNat]):=by rw [pK (by omega)];exact bz bH rfl
 refine Go ?_;refine Gn ?_;refine WC.seq ?_;refine WC.bW (fun h'=>Ext No h2 h') 9 10 rfl dk ?_
 refine WH.tk 0 rfl (fun hq hC=>ak rfl) rfl rfl rfl ?_
 refine WH.tk 1 rfl (fun hq hC=>ad rfl Tryz.underlying53 rfl Tryz.sizeOf23) rfl rfl rfl ?_
 refine WH.tk 2 rfl (fun hq hC=>aA Tryz.isAgg23 rfl (by first | exact hC.cell (by first | exact aa bX rfl | assumption) aO)) rfl rfl rfl ?_
 refine WH.tk 3 rfl (fun hq hC=>cu rfl Tryz.underlying23 rfl) rfl rfl rfl ?_
 refine WH.tk 4 rfl (fun hq hC=>ft rfl rfl (by omega)) rfl rfl rfl ?_
 refine WH.tk 6 rfl (fun hq hC=>ad rfl Tryz.underlying53 rfl Tryz.sizeOf23) rfl rfl rfl ?_
 refine WH.tk 7 rfl (fun hq hC=>aA Tryz.isAgg23 rfl (by first | exact hC.cell (by first | exact aa bX rfl | assumption) aO)) rfl rfl rfl ?_
 refine WH.one 5 (by kernel_rfl) ?_
 refine aE.call (vs:=[_,_,_]) rfl rfl Tryz.call164 rfl (yG [UInt8.ofNat k.toNat] (4+(l.length:Int)) 4 (.inr (.inr rfl)) (HJ ⟨by omega,by omega⟩) qS (by simp)) rfl rfl rfl ?_ (fun _=>by kernel_rfl)
 rintro v5 h5 ⟨eG,aN,gZ⟩
 refine ⟨fun _=>aN,?_⟩
 have hbl:([UInt8.ofNat k.toNat]++be (4+(l.length:Int)) 4).length=5:=by simp [bm]
 refine WH.one 8 (by kernel_rfl) ?_
 refine aE.run rfl (aT (sz:=1) (bytes:=1) rfl Tryz.underlying23 (show Tryz.prog.info? 5=some Tryz.t5 by kernel_rfl) rfl rfl rfl rfl (by decide) rfl rfl eG (hv.aq (gm.trans aN)) (by intro c hc;obtain ⟨b,_,rfl⟩:=List.mem_map.1 hc;rfl) (by simp only [maxLen];omega) (by omega)) rfl rfl rfl ?_ (fun _=>by kernel_rfl)
 rintro v8 h8 ⟨iI,bD,pM⟩
 refine ⟨fun _=>aN.trans' bD (fun q hq e=>by have:=gZ q e;omega),?_⟩
 have kJ:=aN.trans' bD (fun q hq e=>by have:=gZ q e;omega)
 refine WH.one 9 (by kernel_rfl) ?_
 refine aE.run rfl (bK.r (aR rfl)) rfl rfl rfl ?_ (fun _=>by kernel_rfl)
 rintro _ hz ⟨rfl,_⟩
 subst hz
 refine ⟨fun _=>kJ,?_⟩
 refine WH.done (by kernel_rfl) ?_
 refine Gn ?_;refine Gs [(2,_)] ?_;refine Gt ?_
 exact ⟨by unfold dU;rw [List.length_append (bs:=l),gn _ l];exact iI,gm.trans kJ⟩
theorem CA {h:ah} {v:Value} (k:Int) (hk:0 < k∧k≤255) (l:List UInt8) (hv:Rd h v 1 l.length (bu l)) (hl:l.length≤1000000000) :
   ag Tryz.prog 30 ⟨[.agg ⟨[.int .u8 k,v]⟩]⟩ h fun u h'=>Own h' u 5 1 (dU k l).length (bu (dU k l))∧Ext No h h':=by
 obtain ⟨A,c,rfl,_⟩:=id hv
 refine calls [(0,_)] Tryz.func30 rfl Tryz.ntmps30 rfl ⟨rfl,trivial⟩ ?_
 refine WC.sr ?_;refine WL.ai (aB rfl) rfl rfl rfl ?_
 rintro _ h1 ⟨b1,rfl,bO,aQ,ay⟩
 refine Go ?_;refine G2 ?_;refine G3 ?_;refine Ld ?_;refine Go ?_;refine Gs [(1,_),(3,_),(6,_)] ?_
 refine aJ 1 2 ?_ TT.mk
 all_goals (refine ax 1 ?_)
 refine WC.region (Go ?_);refine Ld ?_;refine WL.ai (aw (vs:=[_]) (cs:=[_]) (fun | [a0]=>[a0] | _=>[]) Tryz.underlying23 rfl rfl (by kernel_rfl)) rfl rfl rfl ?_
 rintro _ h2 ⟨b2,rfl,eS,bH,aH⟩
 refine WL.ai (aT (sz:=1) (bytes:=1) rfl Tryz.underlying23 (show Tryz.prog.info? 5=some Tryz.t5 by kernel_rfl) rfl rfl rfl rfl (by decide) rfl rfl (Own.nil _ 5 1) (bz (len:=1) (sz:=1) (cs:=[.int .u8 k]) bH rfl) (by simp [Value.oneCell']) (by simp only [maxLen];omega) (by omega)) rfl rfl rfl ?_
 rintro v3 h3 ⟨dE,aP,Cl⟩
 have jT:Ext No h h3:=(ay.trans aH).trans (aP.mono fun _ _ e=>by simp [Value.ownBlock] at e)
 have cm:=(aH.trans (aP.mono fun _ _ e=>by simp [Value.ownBlock] at e)).obj aQ aO
 have MH:Rd h3 v3 1 ([UInt8.ofNat k.toNat]:List UInt8).length (bu [UInt8.ofNat k.toNat]):=by
  rw [pK ⟨Int.le_of_lt hk.1,hk.2⟩]
  exact dE.rd
 clear dE Cl
 refine Go ?_;refine Gn ?_;refine WC.seq ?_;refine WC.bW (fun h'=>Ext No h3 h') 9 10 rfl dk ?_
 refine WH.tk 0 rfl (fun hq hC=>ak rfl) rfl rfl rfl ?_
 refine WH.tk 1 rfl (fun hq hC=>ad rfl Tryz.underlying53 rfl Tryz.sizeOf23) rfl rfl rfl ?_
 refine WH.tk 2 rfl (fun hq hC=>aA Tryz.isAgg23 rfl (by first | exact hC.cell (by first | exact aa cm rfl | assumption) aO)) rfl rfl rfl ?_
 refine WH.tk 3 rfl (fun hq hC=>cu rfl Tryz.underlying23 rfl) rfl rfl rfl ?_
 refine WH.tk 4 rfl (fun hq hC=>ft rfl rfl (by omega)) rfl rfl rfl ?_
 refine WH.tk 6 rfl (fun hq hC=>ad rfl Tryz.underlying53 rfl Tryz.sizeOf23) rfl rfl rfl ?_
 refine WH.tk 7 rfl (fun hq hC=>aA Tryz.isAgg23 rfl (by first | exact hC.cell (by first | exact aa cm rfl | assumption) aO)) rfl rfl rfl ?_
 refine WH.one 5 (by kernel_rfl) ?_
 refine aE.call (vs:=[_,_,_]) rfl rfl Tryz.call62 rfl (kI [UInt8.ofNat k.toNat] ((l.length:Int)+4) 4 (.inr (.inr rfl)) (HJ ⟨by omega,by omega⟩) MH (by simp)) rfl rfl rfl ?_ (fun _=>by kernel_rfl)
 rintro v5 h5 ⟨eG,aN,gZ⟩
 rw [Int.add_comm] at eG
 refine ⟨fun _=>aN,?_⟩
 have hbl:([UInt8.ofNat k.toNat]++be (4+(l.length:Int)) 4).length=5:=by simp [bm]
 refine WH.one 8 (by kernel_rfl) ?_
 refine aE.run rfl (aT (sz:=1) (bytes:=1) rfl Tryz.underlying23 (show Tryz.prog.info? 5=some Tryz.t5 by kernel_rfl) rfl rfl rfl rfl (by decide) rfl rfl eG (hv.aq (jT.trans aN)) (by intro c hc;obtain ⟨b,_,rfl⟩:=List.mem_map.1 hc;rfl) (by simp only [maxLen];omega) (by omega)) rfl rfl rfl ?_ (fun _=>by kernel_rfl)
 rintro v8 h8 ⟨iI,bD,pM⟩
 refine ⟨fun _=>aN.trans' bD (fun q hq e=>by have:=gZ q e;omega),?_⟩
 have kJ:=aN.trans' bD (fun q hq e=>by have:=gZ q e;omega)
 refine WH.one 9 (by kernel_rfl) ?_
 refine aE.run rfl (bK.r (aR rfl)) rfl rfl rfl ?_ (fun _=>by kernel_rfl)
 rintro _ hz ⟨rfl,_⟩
 subst hz
 refine ⟨fun _=>kJ,?_⟩
 refine WH.done (by kernel_rfl) ?_
 refine Gn ?_;refine Gs [(2,_)] ?_;refine Gt ?_
 exact ⟨by unfold dU;rw [List.length_append (bs:=l),gn _ l];exact iI,jT.trans kJ⟩
end Go.Proofs.YtopgddfgefnmbaaGreatDoor
namespace Go.Proofs
open Go.Shelf
def Tryz.mh : Go.Shelf.Ren := ⟨fun | 156 => 273 | 165 => 301 | 166 => 302 | 169 => 278 | 240 => 303 | 241 => 313 | 276 => 314 | 277 => 321 | n => n, fun | 31 => 249 | 9 => 9 | 3 => 3 | 4 => 4 | 0 => 0 | 20 => 20 | 72 => 344 | 76 => 363 | 70 => 342 | 37 => 23 | 75 => 165 | 127 => 365 | 164 => 215 | 5 => 5 | 80 => 200 | n => n, fun | n => n⟩
theorem Tryz.CB : Go.Proofs.Lays.n156 Tryz.prog Tryz.mh := {
  mixed := by kernel_rfl
  f156 := Tryz.func273.trans (congrArg some (by kernel_rfl))
  f165 := Tryz.func301.trans (congrArg some (by kernel_rfl))
  f166 := Tryz.func302.trans (congrArg some (by kernel_rfl))
  f169 := Tryz.func278.trans (congrArg some (by kernel_rfl))
  f240 := Tryz.func303.trans (congrArg some (by kernel_rfl))
  f241 := Tryz.func313.trans (congrArg some (by kernel_rfl))
  f276 := Tryz.func314.trans (congrArg some (by kernel_rfl))
  f277 := Tryz.func321.trans (congrArg some (by kernel_rfl))
  t0 := Tryz.underlying0
  a0 := Tryz.isAgg0
  z0 := Tryz.sizeOf0
  v0 := Tryz.zeroValue0
  t3 := Tryz.underlying3
  a3 := Tryz.isAgg3
  z3 := Tryz.sizeOf3
  v3 := Tryz.zeroValue3
  t4 := Tryz.underlying4
  a4 := Tryz.isAgg4
  z4 := Tryz.sizeOf4
  v4 := Tryz.zeroValue4
  t9 := Tryz.underlying9
  a9 := Tryz.isAgg9
  z9 := Tryz.sizeOf9
  v9 := Tryz.zeroValue9
  t20 := Tryz.underlying20
  a20 := Tryz.isAgg20
  z20 := Tryz.sizeOf20
  v20 := Tryz.zeroValue20
  t31 := Tryz.underlying249
  a31 := Tryz.isAgg249
  z31 := Tryz.sizeOf249
  v31 := Tryz.zeroValue249
  t37 := Tryz.underlying23
  a37 := Tryz.isAgg23
  z37 := Tryz.sizeOf23
  v37 := Tryz.zeroValue23
  t70 := Tryz.underlying342
  a70 := Tryz.isAgg342
  z70 := Tryz.sizeOf342
  v70 := Tryz.zeroValue342
  t72 := Tryz.underlying344
  a72 := Tryz.isAgg344
  z72 := Tryz.sizeOf344
  v72 := Tryz.zeroValue344
  t75 := Tryz.underlying165
  a75 := Tryz.isAgg165
  z75 := Tryz.sizeOf165
  v75 := Tryz.zeroValue165
  t76 := Tryz.underlying363
  a76 := Tryz.isAgg363
  z76 := Tryz.sizeOf363
  v76 := Tryz.zeroValue363
  t127 := Tryz.underlying365
  a127 := Tryz.isAgg365
  z127 := Tryz.sizeOf365
  v127 := Tryz.zeroValue365
  t164 := Tryz.underlying215
  a164 := Tryz.isAgg215
  z164 := Tryz.sizeOf215
  v164 := Tryz.zeroValue215 }
theorem Tryz.kL : Builder.Extra Tryz.prog Tryz.mh := {
  sizeBuilder := by kernel_rfl
  liesBuilder := by kernel_rfl
  t5 := Tryz.underlying5
  a5 := Tryz.isAgg5
  z5 := Tryz.sizeOf5
  v5 := Tryz.zeroValue5
  infoByte := by kernel_rfl
  cellsByte := by kernel_rfl
  sizeByte := by kernel_rfl
  neB5 := by decide }
open Go.RowKit in
theorem Tryz.strings_Join (bk o c : Nat) (xs : List ByteArray) (sep : ByteArray) (w : World) (hcells : ∀ (j : Nat) x, xs[j]? = some x → w.cell? ⟨bk, o + j, none⟩ = some (.string x)) (hbk : bk < w.heap.size) (hN : xs.length ≤ 140737488355328) (hcap : xs.length ≤ c) (hlen : (Lib.join (xs.map (·.data.toList)) sep.data.toList).length ≤ 140737488355328) :
    Calls Tryz.prog 273 #[.slice (some ⟨bk, o, none⟩) xs.length c, .string sep] w fun e w' => e = .returned (.string ⟨(Lib.join (xs.map (·.data.toList)) sep.data.toList).toArray⟩) ∧ Below w.heap.size w w' := Any.strings_Join Tryz.CB Tryz.kL bk o c xs sep w hcells hbk hN hcap hlen
def Tryz.rq : Go.Shelf.Ren := ⟨fun | 137 => 231 | 217 => 268 | 266 => 299 | n => n, fun | 9 => 9 | 5 => 5 | 3 => 3 | n => n, fun | n => n⟩
theorem Tryz.CC : Go.Proofs.Lays.n137 Tryz.prog Tryz.rq := {
  mixed := by kernel_rfl
  f137 := Tryz.func231.trans (congrArg some (by kernel_rfl))
  f217 := Tryz.func268.trans (congrArg some (by kernel_rfl))
  f266 := Tryz.func299.trans (congrArg some (by kernel_rfl))
  t3 := Tryz.underlying3
  a3 := Tryz.isAgg3
  z3 := Tryz.sizeOf3
  v3 := Tryz.zeroValue3
  t5 := Tryz.underlying5
  a5 := Tryz.isAgg5
  z5 := Tryz.sizeOf5
  v5 := Tryz.zeroValue5
  t9 := Tryz.underlying9
  a9 := Tryz.isAgg9
  z9 := Tryz.sizeOf9
  v9 := Tryz.zeroValue9 }
open Go.RowKit in
theorem Tryz.strings_IndexByte (s : ByteArray) (c : Int) (w : World) :
    Calls Tryz.prog 231 #[.string s, .int .u8 c] w fun e w' => e = .returned (.int .i64 (Lib.indexByte s.data.toList c.toNat.toUInt8)) ∧ w' = w := Any.strings_IndexByte Tryz.CC s c w
def Tryz.rr : Go.Shelf.Ren := ⟨fun | 217 => 268 | 266 => 299 | n => n, fun | 9 => 9 | 5 => 5 | 3 => 3 | n => n, fun | n => n⟩
theorem Tryz.CD : Go.Proofs.Lays.n217 Tryz.prog Tryz.rr := {
  mixed := by kernel_rfl
  f217 := Tryz.func268.trans (congrArg some (by kernel_rfl))
  f266 := Tryz.func299.trans (congrArg some (by kernel_rfl))
  t3 := Tryz.underlying3
  a3 := Tryz.isAgg3
  z3 := Tryz.sizeOf3
  v3 := Tryz.zeroValue3
  t5 := Tryz.underlying5
  a5 := Tryz.isAgg5
  z5 := Tryz.sizeOf5
  v5 := Tryz.zeroValue5
  t9 := Tryz.underlying9
  a9 := Tryz.isAgg9
  z9 := Tryz.sizeOf9
  v9 := Tryz.zeroValue9 }
open Go.RowKit Go.Lib in
theorem Tryz.stringslite_IndexByte (s : ByteArray) (c : Int) (w : World) :
    Calls Tryz.prog 268 #[.string s, .int .u8 c] w fun e w' => e = .returned (.int .i64 (Lib.indexByte s.data.toList c.toNat.toUInt8)) ∧ w' = w := Any.stringslite_IndexByte Tryz.CD s c w
def Tryz.ru : Go.Shelf.Ren := ⟨fun | 187 => 126 | 255 => 177 | n => n, fun | 37 => 23 | 5 => 5 | 3 => 3 | n => n, fun | n => n⟩
theorem Tryz.CE : Go.Proofs.Lays.n187 Tryz.prog Tryz.ru := {
  mixed := by kernel_rfl
  f187 := Tryz.func126.trans (congrArg some (by kernel_rfl))
  f255 := Tryz.func177.trans (congrArg some (by kernel_rfl))
  t3 := Tryz.underlying3
  a3 := Tryz.isAgg3
  z3 := Tryz.sizeOf3
  v3 := Tryz.zeroValue3
  t5 := Tryz.underlying5
  a5 := Tryz.isAgg5
  z5 := Tryz.sizeOf5
  v5 := Tryz.zeroValue5
  t37 := Tryz.underlying23
  a37 := Tryz.isAgg23
  z37 := Tryz.sizeOf23
  v37 := Tryz.zeroValue23 }
theorem Tryz.bytes_IndexByte (b o n c : Nat) (xs : List Int) (cv : Int) (w : World) (hx : xs.length = n) (hc : ∀ i, i < n → w.cell? ⟨b, o + i, none⟩ = some (.int .u8 (xs.getD i 0))) :
    Calls Tryz.prog 126 #[.slice (some ⟨b, o, none⟩) n c, .int .u8 cv] w fun e w' => e = .returned (.int .i64 (Lib.indexByte (Lib.bytesOf xs) cv.toNat.toUInt8)) ∧ w' = w := Any.bytes_IndexByte Tryz.CE b o n c xs cv w hx hc
end Go.Proofs
namespace Go.Proofs.YtopgddfgefnmbaaGreatDoor
open Go Go.RK
abbrev ints (l:List Int):List Value:=l.map In
def idxOf:List Int→Int→Int
 | [],_ => -1
 | a :: l,x=>if a=x then 0 else if idxOf l x < 0 then -1 else idxOf l x+1
theorem iU (l:List Int) (x:Int):(idxOf l x = -1∧x ∉ l)∨∃ k:Nat,idxOf l x=k∧l[k]?=some x∧x ∉ l.take k:=by
 induction l with
 | nil=>exact .inl ⟨rfl,by simp⟩
 | cons a l ih =>
   unfold idxOf
   by_cases h:a=x
   · exact .inr ⟨0,by simp [h],by simp [h],by simp⟩
   · rw [if_neg h]
     rcases ih with ⟨h1,h2⟩ | ⟨k,h1,h2,h3⟩
     · exact .inl ⟨by rw [h1];rfl,by simp [h2,Ne.symm h]⟩
     · exact .inr ⟨k+1,by rw [h1,if_neg (by omega)];omega,by simpa using h2,by simp [h3,Ne.symm h]⟩
theorem rv {l:List Int} {x:Int} {k:Nat} (h1:l[k]?=some x) (h2:x ∉ l.take k):idxOf l x=k:=by
 rcases iU l x with ⟨_,h⟩ | ⟨j,h,h3,h4⟩
 · exact absurd (List.mem_of_getElem? h1) h
 · rw [h]
   rcases Nat.lt_trichotomy j k with e | e | e
   · exact absurd (List.mem_of_getElem? (show (l.take k)[j]?=some x by rw [List.getElem?_take,if_pos e];exact h3)) h2
   · rw [e]
   · exact absurd (List.mem_of_getElem? (show (l.take j)[k]?=some x by rw [List.getElem?_take,if_pos e];exact h1)) h4
theorem ry {l:List Int} {x:Int} (h:x ∉ l):idxOf l x = -1:=by
 rcases iU l x with ⟨e,_⟩ | ⟨j,_,h3,_⟩
 · exact e
 · exact absurd (List.mem_of_getElem? h3) h
theorem oa {l:List Int} {x y:Int} {k:Nat} (h:x ∉ l.take k) (hk:l[k]?=some y) (hne:¬ x=y):x ∉ l.take (k+1):=by
 rw [List.take_add_one,hk]
 simp [h,hne]
theorem ic {l:List Int} {k:Nat} {y:Int} (hk:l[k]?=some y):(ints l)[k]?=some (In y):=by simp [hk]
theorem wJ {h:ah} {A:Option Addr} {c:Nat} (l:List Int) (x:Int) (hr:Rd h (.slice A l.length c) 1 l.length (ints l)) (hm:l.length≤maxLen) :
   ag Tryz.prog 310 ⟨[.slice A l.length c,In x]⟩ h fun u h'=>u=In (idxOf l x)∧h'=h:=by
 unfold maxLen at hm
 refine calls [(0,_),(1,_)] Tryz.func310 rfl Tryz.ntmps310 rfl ⟨rfl,rfl,trivial⟩ ?_
 refine G2 ?_;refine G3 ?_;refine WC.block ?_;refine WC.bC (X:=Nat) (fun x=>([(8,In (x:Int))]:Fr)) [(0,_),(1,_),(7,_)] (fun k h'=>h'=h∧k≤l.length∧x ∉ l.take k) (fun k=>l.length - k) (0) ⟨rfl,rfl,rfl,rfl,trivial⟩ (by exact ⟨rfl,Nat.zero_le _,by simp⟩) ?_
 rintro k _ ⟨rfl,hk,hn⟩
 refine WC.sub [(8,_),(0,_),(1,_),(7,_)] ⟨rfl,rfl,rfl,rfl,trivial⟩ ?_;refine G2 ?_;refine WC.seq ?_
 refine aJ 1 2 (Hb.mk fun hb=>?_) (Hb.mk fun hb=>?_)
 all_goals try (
 refine ax 1 ?_
 refine WC.skip ?_
 skip)
 all_goals try (
 refine ax 2 ?_
 refine WC.exit ?_
 repeat' (with_reducible first | refine aU ?_ | refine aG rfl ?_ | refine aI ?_ | refine aL ?_ | refine aS ?_)
 refine Br.out (i:=1000) ?_
 skip)
 all_goals (refine Gn ?_;first | refine Br.ab ?_ | refine WC.seq ?_)
 all_goals (first | refine Br.ab ?_ | refine WC.block ?_)
 all_goals (first | refine Br.ab ?_ | refine WC.sr ?_)
 all_goals (refine Go ?_;first | refine Br.ab ?_ | refine WC.sr ?_)
 all_goals (refine Go ?_)
 all_goals (
  first
    | (refine Br.ab ?_)
    | (obtain ⟨b,o,hA,hbL,hat⟩:=Rd.at_ hr (by omega)
       obtain ⟨y,hy⟩:∃ y,l[k]?=some y:=⟨_,List.getElem?_eq_getElem (by omega)⟩
       have hc:=hat.get (p:=o+k * 1) k (ic hy) (by omega)))
 all_goals (first | refine Br.ab ?_ | (refine WL.step (aF Tryz.underlying39 Tryz.sizeOf3 rfl rfl rfl (by omega) (by first | rfl | assumption)) rfl rfl rfl ?_))
 all_goals (first | refine Br.ab ?_ | refine Ld ?_)
 all_goals (refine Go ?_;first | refine Br.ab ?_ | refine Gs [(0,_),(1,_),(5,_),(7,_),(8,_),(16,_)] ?_)
 all_goals (first | refine Br.ab ?_ | (refine aJ 3 4 (Hb.mk fun hb=>?_) (Hb.mk fun hb=>?_)))
 all_goals try (
 refine ax 3 ?_
 refine G2 ?_;refine Gs [(4,_)] ?_;refine Gt ?_
 first | exact ⟨by rw [ry (by rw [List.take_of_length_le (by omega)] at hn;exact hn)],rfl⟩ | exact ⟨by rw [rv (k:=k) (by rw [hy,hb]) hn],rfl⟩
 skip)
 all_goals try (
 refine ax 4 ?_
 refine WC.skip ?_
 skip)
 all_goals (refine Gn ?_;first | refine Br.ab ?_ | refine WC.region ?_)
 all_goals (refine Go ?_;first | refine Br.ab ?_ | (exact ⟨k+1,⟨rfl,rfl,rfl,rfl,trivial⟩,(by exact ⟨rfl,by omega,oa hn hy (by assumption)⟩),(by omega)⟩))
 try (refine Br.mk (i:=1000) ?_)
 refine Gn ?_;refine Gs [] ?_;refine G2 ?_;refine Gt ?_
 first | exact ⟨by rw [ry (by rw [List.take_of_length_le (by omega)] at hn;exact hn)],rfl⟩ | exact ⟨by rw [rv (k:=k) (by rw [hy,hb]) hn],rfl⟩
theorem gJ {h:ah} {A B:Option Addr} {c d:Nat} (l m:List Int) (hr:Rd h (.slice A l.length c) 1 l.length (ints l)) (hs:Rd h (.slice B m.length d) 1 m.length (ints m)) (hm:l.length≤maxLen) :
   ag Tryz.prog 188 ⟨[.slice A l.length c,.slice B m.length d]⟩ h fun u h'=>u=.bool (decide (l=m))∧h'=h:=by
 unfold maxLen at hm
 refine calls [(0,_),(1,_)] Tryz.func188 rfl Tryz.ntmps188 rfl ⟨rfl,rfl,trivial⟩ ?_
 refine G2 ?_;refine G3 ?_;refine Gs [(0,_),(1,_),(10,_)] ?_
 refine aJ 1 2 (Hb.mk fun hb=>?_) (Hb.mk fun hb=>?_)
 all_goals try (
 refine ax 1 ?_
 refine G2 ?_;refine Gt ?_
 first | exact ⟨by rw [decide_eq_false (fun e=>by subst e;omega)],rfl⟩ | exact ⟨by rw [decide_eq_false (fun e=>by subst e;rw [hy] at hz;injection hz with hz;omega)],rfl⟩ | exact ⟨by rw [decide_eq_true (by rw [List.take_of_length_le (by omega),List.take_of_length_le (by omega)] at hn;exact hn)],rfl⟩
 skip)
 all_goals (refine ax 2 ?_)
 refine WC.skip ?_;refine Gn ?_;refine G3 ?_;refine WC.block ?_;refine WC.bC (X:=Nat) (fun x=>([(13,In (x:Int))]:Fr)) [(0,_),(1,_),(12,_)] (fun k h'=>h'=h∧k≤l.length∧l.take k=m.take k) (fun k=>l.length - k) (0) ⟨rfl,rfl,rfl,rfl,trivial⟩ (by exact ⟨rfl,Nat.zero_le _,by simp⟩) ?_
 rintro k _ ⟨rfl,hk,hn⟩
 refine WC.sub [(13,_),(0,_),(1,_),(12,_)] ⟨rfl,rfl,rfl,rfl,trivial⟩ ?_;refine G2 ?_;refine WC.seq ?_
 refine aJ 3 4 (Hb.mk fun hb=>?_) (Hb.mk fun hb=>?_)
 all_goals try (
 refine ax 3 ?_
 refine WC.skip ?_
 skip)
 all_goals try (
 refine ax 4 ?_
 refine WC.exit ?_
 repeat' (with_reducible first | refine aU ?_ | refine aG rfl ?_ | refine aI ?_ | refine aL ?_ | refine aS ?_)
 refine Br.out (i:=1000) ?_
 skip)
 all_goals (refine Gn ?_;first | refine Br.ab ?_ | refine WC.seq ?_)
 all_goals (first | refine Br.ab ?_ | refine WC.block ?_)
 all_goals (first | refine Br.ab ?_ | refine WC.sr ?_)
 all_goals (refine Go ?_;first | refine Br.ab ?_ | refine WC.seq ?_)
 all_goals (
  first
    | (refine Br.ab ?_)
    | (obtain ⟨b,o,hA,hbL,hat⟩:=Rd.at_ hr (by omega)
       obtain ⟨b2,o2,hB,bH,yL⟩:=Rd.at_ hs (by omega)
       obtain ⟨y,hy⟩:∃ y,l[k]?=some y:=⟨_,List.getElem?_eq_getElem (by omega)⟩
       obtain ⟨z,hz⟩:∃ z,m[k]?=some z:=⟨_,List.getElem?_eq_getElem (by omega)⟩
       have hc:=hat.get (p:=o+k * 1) k (ic hy) (by omega)
       have mJ:=yL.get (p:=o2+k * 1) k (ic hz) (by omega)))
 all_goals (first | refine Br.ab ?_ | (refine WC.fo dk (by kernel_rfl) ?_))
 all_goals (first | refine Br.ab ?_ | refine WQ.aK (ak rfl) rfl rfl rfl ?_)
 all_goals (first | refine Br.ab ?_ | refine WQ.aK (ak rfl) rfl rfl rfl ?_)
 all_goals (first | refine Br.ab ?_ | (refine WQ.aK (aF Tryz.underlying39 Tryz.sizeOf3 rfl rfl rfl (by omega) (by first | rfl | assumption)) rfl rfl rfl ?_))
 all_goals (first | refine Br.ab ?_ | (refine WQ.aK (aA Tryz.isAgg3 rfl (by first | assumption | exact aa (by assumption) rfl)) rfl rfl rfl ?_))
 all_goals (first | refine Br.ab ?_ | refine WQ.aK (ak rfl) rfl rfl rfl ?_)
 all_goals (first | refine Br.ab ?_ | refine WQ.aK (ak rfl) rfl rfl rfl ?_)
 all_goals (first | refine Br.ab ?_ | (refine WQ.aK (aF Tryz.underlying39 Tryz.sizeOf3 rfl rfl rfl (by omega) (by first | rfl | assumption)) rfl rfl rfl ?_))
 all_goals (first | refine Br.ab ?_ | (refine WQ.aK (aA Tryz.isAgg3 rfl (by first | assumption | exact aa (by assumption) rfl)) rfl rfl rfl ?_))
 all_goals (first | refine Br.ab ?_ | refine WQ.aK (jQ rfl rfl) rfl rfl rfl ?_)
 all_goals (first | refine Br.ab ?_ | refine WQ.nil ?_)
 all_goals (refine Gn ?_;first | refine Br.ab ?_ | refine Gs [(0,_),(1,_),(12,_),(13,_),(24,_)] ?_)
 all_goals (first | refine Br.ab ?_ | (refine aJ 5 6 (Hb.mk fun hb=>?_) (Hb.mk fun hb=>?_)))
 all_goals try (
 refine ax 5 ?_
 refine G2 ?_;refine Gs [(4,_)] ?_;refine Gt ?_
 first | exact ⟨by rw [decide_eq_false (fun e=>by subst e;omega)],rfl⟩ | exact ⟨by rw [decide_eq_false (fun e=>by subst e;rw [hy] at hz;injection hz with hz;omega)],rfl⟩ | exact ⟨by rw [decide_eq_true (by rw [List.take_of_length_le (by omega),List.take_of_length_le (by omega)] at hn;exact hn)],rfl⟩
 skip)
 all_goals try (
 refine ax 6 ?_
 refine WC.skip ?_
 skip)
 all_goals (refine Gn ?_;first | refine Br.ab ?_ | refine WC.region ?_)
 all_goals (refine Go ?_;first | refine Br.ab ?_ | (exact ⟨k+1,⟨rfl,rfl,rfl,rfl,trivial⟩,(by exact ⟨rfl,by omega,by rw [List.take_add_one,List.take_add_one,hn,hy,hz,show y=z by omega]⟩),(by omega)⟩))
 try (refine Br.mk (i:=1000) ?_)
 refine Gn ?_;refine Gs [] ?_;refine G2 ?_;refine Gt ?_
 first | exact ⟨by rw [decide_eq_false (fun e=>by subst e;omega)],rfl⟩ | exact ⟨by rw [decide_eq_false (fun e=>by subst e;rw [hy] at hz;injection hz with hz;omega)],rfl⟩ | exact ⟨by rw [decide_eq_true (by rw [List.take_of_length_le (by omega),List.take_of_length_le (by omega)] at hn;exact hn)],rfl⟩
theorem ig {h:ah} {A:Option Addr} {c:Nat} (l:List Int) (hr:Rd h (.slice A l.length c) 1 l.length (ints l)) (hm:l.length * 8≤reachBytes) :
   ag Tryz.prog 206 ⟨[.slice A l.length c]⟩ h fun u h'=>Own h' u 3 1 l.length (ints l)∧Ext No h h'∧(∀ k,u.ownBlock=some k→h.size≤k):=by
 unfold reachBytes at hm
 cases A with
 | none =>
   have h0:l=[]:=by
     cases l with
     | nil=>rfl
     | cons a l=>obtain ⟨b,o,e,_⟩:=Rd.at_ hr (by simp);cases e
   subst h0
   refine calls [(0,_)] Tryz.func206 rfl Tryz.ntmps206 rfl ⟨rfl,trivial⟩ ?_
   refine G2 ?_;refine G3 ?_;refine WL.step (cV Tryz.underlying39 rfl rfl) rfl rfl rfl ?_;refine Gn ?_
   refine aJ 1 2 ?_ TT.mk
   all_goals (refine ax 1 ?_)
   refine G2 ?_;refine Gt ?_
   exact ⟨Own.nil _ _ _,.refl _ _,by simp [Value.ownBlock]⟩
 | some a =>
   refine calls [(0,_)] Tryz.func206 rfl Tryz.ntmps206 rfl ⟨rfl,trivial⟩ ?_
   refine G2 ?_;refine G3 ?_;refine WL.step (cV Tryz.underlying39 rfl rfl) rfl rfl rfl ?_;refine Gn ?_
   refine aJ 1 2 ?_ TT.mk
   all_goals (refine ax 2 ?_)
   refine WC.skip ?_;refine Gn ?_;refine WC.sr ?_;refine WL.ai (aw (vs:=[]) (cs:=[]) (fun _=>[]) Tryz.underlying39 rfl rfl (by kernel_rfl)) rfl rfl rfl ?_
   rintro _ h1 ⟨b1,rfl,bO,aQ,ay⟩
   refine Go ?_
   have qT:=hr.aq ay
   refine WL.ai (aT (sz:=1) (bytes:=8) rfl Tryz.underlying39 (show Tryz.prog.info? 3=some Tryz.t3 by kernel_rfl) rfl rfl rfl rfl (by decide) rfl rfl (dJ aQ rfl (by simp [maxLen])) qT (by simp [Value.oneCell']) (by simp only [maxLen];omega) (by omega)) rfl rfl rfl ?_
   rintro v2 h2 ⟨dC,aH,lu⟩
   refine Go ?_;refine Gs [(2,_)] ?_;refine Gt ?_
   exact ⟨by simpa using dC,ay.trans' aH (fun k hk e=>by simp [Value.ownBlock] at e;omega),bR lu (fun k hk=>by simp [Value.ownBlock] at hk;omega) ay.size⟩
section
variable {α:Type} (p:α→Bool)
def jU:List α→Int
 | [] => -1
 | a :: l=>if p a then 0 else if jU l < 0 then -1 else jU l+1
theorem jV (l:List α):(jU p l = -1∧∀ x∈l,p x=false)∨∃ (k:Nat) (x:α),jU p l=k∧l[k]?=some x∧p x=true∧∀ y∈l.take k,p y=false:=by
 induction l with
 | nil=>exact .inl ⟨rfl,by simp⟩
 | cons a l ih =>
   unfold jU
   cases h:p a
   · rw [if_neg (by simp)]
     rcases ih with ⟨h1,h2⟩ | ⟨k,x,h1,h2,h3,h4⟩
     · exact .inl ⟨by rw [h1];rfl,by simpa [h] using h2⟩
     · exact .inr ⟨k+1,x,by rw [h1,if_neg (by omega)];omega,by simpa using h2,h3,by simpa [h] using h4⟩
   · exact .inr ⟨0,a,by simp,by simp,h,by simp⟩
variable {p}
theorem di {l:List α} {k:Nat} {x:α} (h1:l[k]?=some x) (hx:p x=true) (h2:∀ y∈l.take k,p y=false):jU p l=k:=by
 rcases jV p l with ⟨_,h⟩ | ⟨j,y,h,h3,h4,h5⟩
 · rw [h x (List.mem_of_getElem? h1)] at hx;cases hx
 · rw [h]
   rcases Nat.lt_trichotomy j k with e | e | e
   · rw [h2 y (List.mem_of_getElem? (show (l.take k)[j]?=some y by rw [List.getElem?_take,if_pos e];exact h3))] at h4;cases h4
   · rw [e]
   · rw [h5 x (List.mem_of_getElem? (show (l.take j)[k]?=some x by rw [List.getElem?_take,if_pos e];exact h1))] at hx;cases hx
theorem cD {l:List α} (h:∀ x∈l,p x=false):jU p l = -1:=by
 rcases jV p l with ⟨e,_⟩ | ⟨j,y,_,h3,h4,_⟩
 · exact e
 · rw [h y (List.mem_of_getElem? h3)] at h4;cases h4
theorem ee (l:List α):decide (0≤jU p l)=l.any p:=by
 rcases jV p l with ⟨e,h⟩ | ⟨j,y,e,h3,h4,_⟩
 · rw [e,(List.any_eq_false.2 (fun x hx=>by rw [h x hx];simp):l.any p=false)]
   rfl
 · rw [e,(List.any_eq_true.2 ⟨y,List.mem_of_getElem? h3,h4⟩:l.any p=true)]
   exact decide_eq_true (by omega)
theorem dq {l:List α} {y:α} {k:Nat} (h:∀ x∈l.take k,p x=false) (hk:l[k]?=some y) (hy:p y=false):∀ x∈l.take (k+1),p x=false:=by
 intro x hx
 rw [List.take_add_one,hk] at hx
 simp only [Option.toList_some,List.mem_append,List.mem_singleton] at hx
 rcases hx with hx | rfl
 · exact h x hx
 · exact hy
end
theorem gz {h:ah} {A:Option Addr} {c:Nat} (l:List Int) (p:Int→Bool) {fk:Nat} {fs us:List Value} (hcf:∀ (args:Array Value) (w:World),(callFunc fk args).run Tryz.prog w=.ok (.enter fk args) w) (hr:Rd h (.slice A l.length c) 1 l.length (l.map In)) (hm:l.length≤maxLen)
   (hp:∀ x∈l,ag Tryz.prog fk ⟨fs++[In x]++us⟩ h fun u h'=>u=.bool (p x)∧h'=h) :
   ag Tryz.prog 229 ⟨[.slice A l.length c,.func (.func fk) ⟨fs⟩ ⟨us⟩]⟩ h fun u h'=>u=In (jU p l)∧h'=h:=by
 unfold maxLen at hm
 refine calls [(0,_),(1,_)] Tryz.func229 rfl Tryz.ntmps229 rfl ⟨rfl,rfl,trivial⟩ ?_
 refine G2 ?_;refine G3 ?_;refine WC.block ?_;refine WC.bC (X:=Nat) (fun x=>([(8,In (x:Int))]:Fr)) [(0,_),(1,_),(7,_)] (fun k h'=>h'=h∧k≤l.length∧∀ x∈l.take k,p x=false) (fun k=>l.length - k) (0) ⟨rfl,rfl,rfl,rfl,trivial⟩ (by exact ⟨rfl,Nat.zero_le _,by simp⟩) ?_
 rintro k _ ⟨rfl,hk,hn⟩
 refine WC.sub [(8,_),(0,_),(1,_),(7,_)] ⟨rfl,rfl,rfl,rfl,trivial⟩ ?_;refine G2 ?_;refine WC.seq ?_
 refine aJ 1 2 (Hb.mk fun hb=>?_) (Hb.mk fun hb=>?_)
 all_goals try (
 refine ax 1 ?_
 refine WC.skip ?_
 skip)
 all_goals try (
 refine ax 2 ?_
 refine WC.exit ?_
 repeat' (with_reducible first | refine aU ?_ | refine aG rfl ?_ | refine aI ?_ | refine aL ?_ | refine aS ?_)
 refine Br.out (i:=1000) ?_
 skip)
 all_goals (refine Gn ?_;first | refine Br.ab ?_ | refine WC.seq ?_)
 all_goals (first | refine Br.ab ?_ | refine WC.block ?_)
 all_goals (first | refine Br.ab ?_ | refine WC.sr ?_)
 all_goals (refine Go ?_;first | refine Br.ab ?_ | refine WC.sr ?_)
 all_goals (refine Go ?_)
 all_goals (
  first
    | (refine Br.ab ?_)
    | (obtain ⟨b,o,hA,hbL,hat⟩:=Rd.at_ hr (by omega)
       obtain ⟨y,hy⟩:∃ y,l[k]?=some y:=⟨_,List.getElem?_eq_getElem (by omega)⟩
       have hc:=hat.get (p:=o+k * 1) (v:=In y) k (by rw [List.getElem?_map,hy];exact rfl) (by omega)))
 all_goals (first | refine Br.ab ?_ | (refine WL.step (aF Tryz.underlying39 Tryz.sizeOf3 rfl rfl rfl (by omega) (by first | rfl | assumption)) rfl rfl rfl ?_))
 all_goals (first | refine Br.ab ?_ | refine Ld ?_)
 all_goals (
  first
    | (refine Br.ab ?_)
    | (refine WL.dT (vs:=[_]) rfl rfl hcf rfl (hp y (List.mem_of_getElem? hy)) rfl rfl rfl ?_
       rintro _ hz ⟨rfl,_⟩
       subst hz))
 all_goals (first | refine Br.ab ?_ | cases hpy:p y)
 all_goals (refine Gn ?_;first | refine Br.ab ?_ | refine Gs [(0,_),(1,_),(5,_),(7,_),(8,_),(16,_)] ?_)
 all_goals (first | refine Br.ab ?_ | refine aJ 3 4 ?_ TT.mk)
 all_goals try (
 refine ax 3 ?_
 refine G2 ?_;refine Gs [(4,_)] ?_;refine Gt ?_
 first | exact ⟨by rw [cD (by rw [List.take_of_length_le (by omega)] at hn;exact hn)],rfl⟩ | exact ⟨by rw [di hy hpy hn],rfl⟩
 skip)
 all_goals try (
 refine ax 4 ?_
 refine WC.skip ?_
 skip)
 all_goals (refine Gn ?_;first | refine Br.ab ?_ | refine WC.region ?_)
 all_goals (refine Go ?_;first | refine Br.ab ?_ | (exact ⟨k+1,⟨rfl,rfl,rfl,rfl,trivial⟩,(by exact ⟨rfl,by omega,dq hn hy hpy⟩),(by omega)⟩))
 try (refine Br.mk (i:=1000) ?_)
 refine Gn ?_;refine Gs [] ?_;refine G2 ?_;refine Gt ?_
 first | exact ⟨by rw [cD (by rw [List.take_of_length_le (by omega)] at hn;exact hn)],rfl⟩ | exact ⟨by rw [di hy hpy hn],rfl⟩
end Go.Proofs.YtopgddfgefnmbaaGreatDoor
