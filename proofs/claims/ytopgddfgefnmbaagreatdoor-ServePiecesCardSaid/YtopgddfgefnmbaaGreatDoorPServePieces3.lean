/-
  SEVERAL TEXTS IN ONE: FltE, Ev, EntO, BkO, BkS, BkR, BkC, EncW, EnR, K27, Sx2, Dx1, Dx2, Dx3, Dx4, Sx3, Sx4, Dx5, Mpk, Dx6.
-/
import Derived.Test.YtopgddfgefnmbaaGreatDoorPServePieces2
import Derived.WideLaws
set_option maxHeartbeats 8000000
set_option maxRecDepth 100000
namespace Go.Proofs.YtopgddfgefnmbaaGreatDoor
open Go Go.RK
def jN (s c x:List UInt8):List bj:=[⟨83,s⟩,⟨86,s⟩,⟨67,c⟩,⟨77,x⟩]
theorem EU {h:ah} (s c x:List UInt8):ag Tryz.prog 89 ⟨[St s,St c,St x]⟩ h fun u h'=>Own h' u 194 2 4 ((jN s c x).flatMap bj.cells)∧Ext No h h'∧∀ q,u.ownBlock=some q→h.size≤q:=by
 refine calls [(0,_),(1,_),(2,_)] Tryz.func89 rfl Tryz.ntmps89 rfl ⟨rfl,rfl,rfl,trivial⟩ ?_
 refine G2 ?_;refine G2 ?_;refine WL.step (aF (vs:=[_,_,_,_]) (cs:=[_,_,_,_]) (fun | [a0,a1,a2,a3]=>[a0,a1,a2,a3] | _=>[]) rfl rfl (by kernel_rfl)) rfl rfl rfl ?_
 refine WL.aj (an (fun w=>Tryz.zeroValue192 w)) rfl rfl rfl ?_
 rintro _ h1 ⟨b7,rfl,xG,ca,az⟩
 refine WL.ax (al Tryz.sizeOf192 rfl rfl rfl ca rfl (by simp [Value.oneCell'])) rfl rfl ?_
 rintro _ h2 ⟨Hj,aI⟩
 refine Gn ?_;refine Gs [(7,_)] ?_;refine G2 ?_;refine WC.seq ?_;refine WC.sr ?_;refine WL.aj (au (vs:=[_,_,_,_]) (cs:=[_,_,_,_]) (fun | [a0,a1,a2,a3]=>[a0,a1,a2,a3] | _=>[]) Tryz.underlying23 rfl rfl (by kernel_rfl)) rfl rfl rfl ?_
 rintro _ h3 ⟨MH,rfl,Hk,dx,aQ⟩
 refine WL.aj (gV Tryz.underlying23 Tryz.underlying5 rfl (by assumption)) rfl rfl rfl ?_
 rintro _ h4 ⟨rfl,⟨z4,bC⟩,aW⟩
 have ia:=az.trans' aI (fun q hq e=>by omega)
 have s2:=ia.size
 have JG:=aW.obj (aQ.obj Hj aO) (fun e=>by have:=ai Hj;omega)
 have oH:=(ia.trans aQ).trans' aW (fun q hq e=>by omega)
 refine Go ?_;refine WC.block ?_;refine WC.bD (X:=Nat × Value) (fun x=>([(19,In (x.1:Int)),(8,x.2)]:Fr)) [(7,_),(17,_),(18,_)] (fun y h'=>y.1≤4∧Own h' y.2 194 2 y.1 (((jN s c x).take y.1).flatMap bj.cells)∧Ext No h4 h'∧∀ q,y.2.ownBlock=some q→h4.size≤q) (fun y=>4 - y.1) ((0,.slice none 0 0)) ⟨rfl,rfl,rfl,rfl,rfl,trivial⟩ (by exact ⟨by decide,Own.nil _ _ _,.refl _ _,by simp [Value.ownBlock]⟩) ?_
 rintro ⟨k,w⟩ h5 ⟨hk,eF,aM,fO⟩
 dsimp only at hk eF fO
 refine WC.sub [(8,_),(19,_),(7,_),(17,_),(18,_)] ⟨rfl,rfl,rfl,rfl,rfl,trivial⟩ ?_
 dsimp only
 refine G2 ?_;refine WC.seq ?_
 refine aH 1 2 (Hb.mk fun hb=>?_) (Hb.mk fun hb=>?_)
 all_goals try (
 refine aw 1 ?_
 refine WC.skip ?_
 skip)
 all_goals try (
 refine aw 2 ?_
 refine WC.exit ?_
 repeat' (with_reducible first | refine aU ?_ | refine aD rfl ?_ | refine aJ ?_ | refine aL ?_ | refine aS ?_)
 refine Br.out (i:=1000) ?_
 skip)
 all_goals (refine Gn ?_;first | refine Br.ab ?_ | refine WC.seq ?_)
 all_goals (first | refine Br.ab ?_ | refine WC.block ?_)
 all_goals (first | refine Br.ab ?_ | refine WC.sr ?_)
 all_goals (
  first
    | (refine Br.ab ?_)
    | (obtain ⟨y,hy⟩:∃ y,(jN s c x)[k]?=some y:=⟨_,List.getElem?_eq_getElem (by show k < 4;omega)⟩
       have hcode:([.int .u8 83,.int .u8 86,.int .u8 67,.int .u8 77]:List Value)[k]?=some (.int .u8 y.k):=by have:=congrArg (Option.map fun f:bj=>Value.int .u8 f.k) hy;rw [← List.getElem?_map] at this;exact this
       have htext:([St s,St s,St c,St x]:List Value)[k]?=some (St y.t):=by have:=congrArg (Option.map fun f:bj=>St f.t) hy;rw [← List.getElem?_map] at this;exact this
       have JH:=aM.obj bC aO
       have yO:=aM.obj JG aO))
 all_goals (first | refine Br.ab ?_ | refine WL.step (ak rfl) rfl rfl rfl ?_)
 all_goals (first | refine Br.ab ?_ | (refine WL.step (aE Tryz.underlying23 Tryz.sizeOf5 rfl rfl rfl (by omega) (by first | rfl | assumption)) rfl rfl rfl ?_))
 all_goals (first | refine Br.ab ?_ | (refine WL.ld rfl (by first | exact (At.av JH).get k hcode (by omega) | assumption) rfl rfl rfl ?_))
 all_goals (refine Go ?_;first | refine Br.ab ?_ | refine Gs [(7,_),(8,_),(9,_),(10,_),(17,_),(18,_),(19,_)] ?_)
 all_goals (first | refine Br.ab ?_ | refine WC.region ?_)
 all_goals (refine Go ?_;first | refine Br.ab ?_ | (refine WL.step (rR Tryz.underlying192 Tryz.sizeOf9 rfl rfl rfl (by omega)) rfl rfl rfl ?_))
 all_goals (first | refine Br.ab ?_ | (refine WL.ld rfl (by first | exact (At.av yO).get k htext (by omega) | assumption) rfl rfl rfl ?_))
 all_goals (first | refine Br.ab ?_ | (refine WL.step (aF (vs:=[_,_]) (cs:=[_,_]) (fun | [a0,a1]=>[a0,a1] | _=>[]) rfl rfl (by kernel_rfl)) rfl rfl rfl ?_))
 all_goals (
  first
    | (refine Br.ab ?_)
    | (refine WL.aj (au (vs:=[_]) (cs:=[_,_]) (fun | [.agg ⟨[a0,a1]⟩]=>[a0,a1] | _=>[]) Tryz.underlying138 rfl rfl (by kernel_rfl)) rfl rfl rfl ?_
       rintro _ h6 ⟨b6,rfl,qQ,bX,aN⟩))
 all_goals (
  first
    | (refine Br.ab ?_)
    | (refine WL.aj (aT (sz:=2) (bytes:=24) rfl Tryz.underlying138 (show Tryz.prog.info? 194=some Tryz.t194 by kernel_rfl) rfl rfl rfl rfl (by decide) rfl rfl (eF.ext aN (fun _ _=>aO)) (bx bX rfl) (by simp [Value.oneCell']) (by simp only [maxLen];omega) (by omega)) rfl rfl rfl ?_
       rintro v7 h7 ⟨mV,ba,DD⟩))
 all_goals (refine Go ?_;first | refine Br.ab ?_ | refine Gs [(7,_),(8,_),(17,_),(18,_),(19,_)] ?_)
 all_goals (first | refine Br.ab ?_ | refine WC.region ?_)
 all_goals (refine Go ?_;first | refine Br.ab ?_ | (exact ⟨(k+1,_),⟨rfl,rfl,rfl,rfl,rfl,trivial⟩,(by exact ⟨by omega,by rw [List.take_add_one,hy,List.flatMap_append];simpa [bj.cells] using mV,(aM.trans aN).trans' ba (fun q hq e=>by have:=fO q e;omega),bU DD fO (by have:=aM.size;have:=aN.size;omega)⟩),(by simp;omega)⟩))
 try (refine Br.mk (i:=1000) ?_)
 refine Gn ?_;refine Gs [(8,_)] ?_;refine G2 ?_;refine Gt ?_
 have MI:k=4:=by omega
 subst MI
 exact ⟨eF,oH.trans aM,fun q hq=>by have:=fO q hq;have:=oH.size;omega⟩
abbrev jE:Value:=.slice none 0 0
def eB (v:Value):List Value:=[.int .u8 69,.int .u8 0,St [],St [],St [],In 0,In 0,jE,jE,jE,v]
theorem bO {h:ah} {T:TypeId} {sz n q:Nat} {v:Value} {xs:List Value} (ho:Own h v T sz n xs) (hq:v.ownBlock=some q):∃ cur,h[q]?=some (.cells cur T (0,0)):=by
 obtain ⟨_,⟨e1,_⟩ | ⟨g,cap,cur,e1,hg,_⟩⟩:=ho
 · rw [e1] at hq;cases hq
 · rw [e1] at hq
   have:g=q:=by simpa [Value.ownBlock] using hq
   exact ⟨cur,this▸hg⟩
theorem vw {h:ah} (c x:List UInt8):ag Tryz.prog 157 ⟨[St c,St x]⟩ h fun u h'=>∃ v,u=.agg ⟨eB v⟩∧Own h' v 194 2 4 ((jN ([69,82,82,79,82]:List UInt8) c x).flatMap bj.cells)∧Ext No h h'∧∀ q,v.ownBlock=some q→h.size≤q:=by
 have kt:∀ h',ag Tryz.prog 228 ⟨[St ([69,82,82,79,82]:List UInt8),St c,St x]⟩ h' fun u h''=>∃ v,u=.agg ⟨eB v⟩∧Own h'' v 194 2 4 ((jN ([69,82,82,79,82]:List UInt8) c x).flatMap bj.cells)∧Ext No h' h''∧∀ q,v.ownBlock=some q→h'.size≤q:=fun h'=>by
   refine calls [(0,_),(1,_),(2,_)] Tryz.func228 rfl Tryz.ntmps228 rfl ⟨rfl,rfl,rfl,trivial⟩ ?_
   refine WC.sr ?_;refine WL.aj (an (fun w=>Tryz.zeroValue140 w)) rfl rfl rfl ?_
   rintro _ h1 ⟨b1,rfl,bR,aR,az⟩
   refine Gn ?_;refine G2 ?_;refine WL.call (vs:=[_,_,_]) rfl Tryz.call89 rfl (EU ([69,82,82,79,82]:List UInt8) c x) rfl rfl rfl ?_
   rintro v2 h2 ⟨dc,aI,eI⟩
   obtain ⟨A2,c2,rfl,_⟩:=dc.slice
   refine WL.step (aF (vs:=[_,_]) (cs:=[_,_,_,_,_,_,_,_,_,_,_]) (fun | [a0,gY]=>[a0,(.int .u8 0),(St []),(St []),(St []),(.int .i64 0),(.int .i64 0),(.slice none 0 0),(.slice none 0 0),(.slice none 0 0),gY] | _=>[]) rfl rfl (by kernel_rfl)) rfl rfl rfl ?_
   refine WL.ax (al Tryz.sizeOf140 rfl rfl rfl (aI.obj aR aO) rfl (by simp [Value.oneCell'])) rfl rfl ?_
   rintro _ h3 ⟨bq,aQ⟩
   refine Gn ?_;refine Gs [(6,_)] ?_;refine WC.ret ?_
   repeat' (with_reducible first | refine aZ ?_ | refine aV ?_)
   refine cm _ ⟨⟨_,rfl,bB Tryz.isAgg140 Tryz.sizeOf140 bq rfl⟩,trivial⟩ ?_
   exact ⟨_,rfl,dc.ext aQ (fun q hq e=>by obtain ⟨_,z⟩:=bO dc hq;rw [e,aI.obj aR aO] at z;simp at z),(az.trans aI).trans' aQ (fun q hq e=>by omega),fun q hq=>by have:=eI q hq;have:=az.size;omega⟩
 refine calls [(0,_),(1,_)] Tryz.func157 rfl Tryz.ntmps157 rfl ⟨rfl,rfl,trivial⟩ ?_
 refine WC.sr ?_;refine WL.aj (an (fun w=>Tryz.zeroValue140 w)) rfl rfl rfl ?_
 rintro _ h1 ⟨b1,rfl,bR,aR,az⟩
 refine Gn ?_;refine G2 ?_;refine WL.call (vs:=[_,_,_]) rfl Tryz.call228 rfl (kt _) rfl rfl rfl ?_
 rintro _ h2 ⟨v2,rfl,dc,aI,eI⟩
 obtain ⟨A2,c2,rfl,_⟩:=dc.slice
 refine WL.ax (al Tryz.sizeOf140 rfl rfl rfl (aI.obj aR aO) rfl (by simp [eB,Value.oneCell'])) rfl rfl ?_
 rintro _ h3 ⟨bq,aQ⟩
 refine Gn ?_;refine Gs [(4,_)] ?_;refine WC.ret ?_
 repeat' (with_reducible first | refine aZ ?_ | refine aV ?_)
 refine cm _ ⟨⟨_,rfl,bB Tryz.isAgg140 Tryz.sizeOf140 bq rfl⟩,trivial⟩ ?_
 exact ⟨_,rfl,dc.ext aQ (fun q hq e=>by obtain ⟨_,z⟩:=bO dc hq;rw [e,aI.obj aR aO] at z;simp at z),(az.trans aI).trans' aQ (fun q hq e=>by omega),fun q hq=>by have:=eI q hq;have:=az.size;omega⟩
theorem ka {α : Type} (p : α → Bool) (l : List α) : (!l.any fun x => !p x) = l.all p := by
 induction l with
 | nil => rfl
 | cons a l ih => rw [List.any_cons, List.all_cons, ← ih]; cases p a <;> simp
theorem rS {h : ah} {b : Nat} {t : TypeId} (x : cA) (p : cA → Bool) {fk : Nat} (hcf : ∀ (args : Array Value) (w : World), (callFunc fk args).run Tryz.prog w = .ok (.enter fk args) w) (hb : h[b]? = some (.cells ⟨[.func (.func fk) ⟨[]⟩ ⟨[]⟩]⟩ t (0, 0)))
   (hp : ∀ h', Ext No h h' → ag Tryz.prog fk ⟨[.agg ⟨cA.cells x⟩]⟩ h' fun u h'' => u = .bool (p x) ∧ Ext No h' h'') :
   ag Tryz.prog 233 ⟨[.agg ⟨cA.cells x⟩, .pointer (some ⟨b, 0, none⟩)]⟩ h fun u h' => u = .bool (!p x) ∧ Ext No h h' := by
 refine calls [(0, _), (1, _)] Tryz.func233 rfl Tryz.ntmps233 rfl ⟨rfl, rfl, trivial⟩ ?_
 refine WC.sr ?_; refine WL.aj (aG rfl) rfl rfl rfl ?_
 rintro _ h1 ⟨b1, rfl, bR, aR, az⟩
 refine Go ?_; refine WC.sr ?_; refine WL.ld rfl (by first | exact aa (az.obj hb aO) rfl | assumption) rfl rfl rfl ?_
 refine WL.step (ay Tryz.isAgg212 Tryz.sizeOf212 rfl rfl (by exact At.av aR)) rfl rfl rfl ?_
 refine WL.fC (vs := [_]) rfl rfl hcf rfl (hp _ az) rfl rfl rfl ?_
 rintro _ h2 ⟨rfl, aI⟩
 refine Go ?_; refine Gs [(3, _)] ?_; refine Gt ?_
 exact ⟨rfl, az.trans aI⟩
theorem tN {h : ah} {v : Value} (l : List cA) (p : cA → Bool) (hr : Rd h v 7 l.length (l.flatMap cA.cells)) (hl : l.length ≤ 65535) {fk : Nat} (hcf : ∀ (args : Array Value) (w : World), (callFunc fk args).run Tryz.prog w = .ok (.enter fk args) w)
   (hp : ∀ x ∈ l, ∀ h', Ext No h h' → ag Tryz.prog fk ⟨[.agg ⟨cA.cells x⟩]⟩ h' fun u h'' => u = .bool (p x) ∧ Ext No h' h'') :
   ag Tryz.prog 192 ⟨[v, .func (.func fk) ⟨[]⟩ ⟨[]⟩]⟩ h fun u h' => u = .bool (l.all p) ∧ Ext No h h' := by
 have hcon : ∀ {h' : ah} {b : Nat} {t : TypeId}, Ext No h h' → h'[b]? = some (.cells ⟨[.func (.func fk) ⟨[]⟩ ⟨[]⟩]⟩ t (0, 0)) → ag Tryz.prog 232 ⟨[v, .func (.func 233) ⟨[]⟩ ⟨[.pointer (some ⟨b, 0, none⟩)]⟩]⟩ h' fun u h'' => u = .bool (l.any fun x => !p x) ∧ Ext No h' h'' := by
   intro h' b t hx hb
   refine calls [(0, _), (1, _)] Tryz.func232 rfl Tryz.ntmps232 rfl ⟨rfl, rfl, trivial⟩ ?_
   refine G2 ?_; refine G2 ?_; refine WL.call (vs := [_, _]) rfl Tryz.call269 rfl (oe l (fun x => !p x) Tryz.call233 (fs := []) (us := [.pointer (some ⟨b, 0, none⟩)]) (hr.aq hx) (by unfold maxLen; omega) (fun x hxl h2 aI => rS x p hcf (aI.obj hb aO) (fun h3 aQ => hp x hxl h3 ((hx.trans aI).trans aQ)))) rfl rfl rfl ?_
   rintro _ h1 ⟨rfl, az⟩
   refine WL.step (dv rfl rfl) rfl rfl rfl (Go ?_); refine Gs [(4, _)] ?_; refine Gt ?_
   exact ⟨by rw [dT], az⟩
 obtain ⟨A, c, rfl, _⟩ := id hr
 refine calls [(0, _), (1, _)] Tryz.func192 rfl Tryz.ntmps192 rfl ⟨rfl, rfl, trivial⟩ ?_
 refine WC.sr ?_; refine WL.aj (aG rfl) rfl rfl rfl ?_
 rintro _ h1 ⟨b1, rfl, bR, aR, az⟩
 refine Go ?_; refine G2 ?_
 refine bK 8 ?_ TT.mk
 refine Gg ?_; refine WL.step (eH (vs := []) (us := [_]) rfl rfl) rfl rfl rfl ?_; refine WL.call (vs := [_, _]) rfl Tryz.call232 rfl (hcon az aR) rfl rfl rfl ?_
 rintro _ h2 ⟨rfl, aI⟩
 refine Gg ?_; refine Go ?_; refine Gs [(4, _)] ?_; refine Gt ?_
 exact ⟨by rw [← ka], az.trans aI⟩
theorem rT {h : ah} {b : Nat} {t : TypeId} (x : bj) (p : bj → Bool) {fk : Nat} (hcf : ∀ (args : Array Value) (w : World), (callFunc fk args).run Tryz.prog w = .ok (.enter fk args) w) (hb : h[b]? = some (.cells ⟨[.func (.func fk) ⟨[]⟩ ⟨[]⟩]⟩ t (0, 0)))
   (hp : ∀ h', Ext No h h' → ag Tryz.prog fk ⟨[.agg ⟨bj.cells x⟩]⟩ h' fun u h'' => u = .bool (p x) ∧ Ext No h' h'') :
   ag Tryz.prog 236 ⟨[.agg ⟨bj.cells x⟩, .pointer (some ⟨b, 0, none⟩)]⟩ h fun u h' => u = .bool (!p x) ∧ Ext No h h' := by
 refine calls [(0, _), (1, _)] Tryz.func236 rfl Tryz.ntmps236 rfl ⟨rfl, rfl, trivial⟩ ?_
 refine WC.sr ?_; refine WL.aj (aG rfl) rfl rfl rfl ?_
 rintro _ h1 ⟨b1, rfl, bR, aR, az⟩
 refine Go ?_; refine WC.sr ?_; refine WL.ld rfl (by first | exact aa (az.obj hb aO) rfl | assumption) rfl rfl rfl ?_
 refine WL.step (ay Tryz.isAgg194 Tryz.sizeOf194 rfl rfl (by exact At.av aR)) rfl rfl rfl ?_
 refine WL.fC (vs := [_]) rfl rfl hcf rfl (hp _ az) rfl rfl rfl ?_
 rintro _ h2 ⟨rfl, aI⟩
 refine Go ?_; refine Gs [(3, _)] ?_; refine Gt ?_
 exact ⟨rfl, az.trans aI⟩
theorem tP {h : ah} {v : Value} (l : List bj) (p : bj → Bool) (hr : Rd h v 2 l.length (l.flatMap bj.cells)) (hl : l.length ≤ 65535) {fk : Nat} (hcf : ∀ (args : Array Value) (w : World), (callFunc fk args).run Tryz.prog w = .ok (.enter fk args) w)
   (hp : ∀ x ∈ l, ∀ h', Ext No h h' → ag Tryz.prog fk ⟨[.agg ⟨bj.cells x⟩]⟩ h' fun u h'' => u = .bool (p x) ∧ Ext No h' h'') :
   ag Tryz.prog 194 ⟨[v, .func (.func fk) ⟨[]⟩ ⟨[]⟩]⟩ h fun u h' => u = .bool (l.all p) ∧ Ext No h h' := by
 have hcon : ∀ {h' : ah} {b : Nat} {t : TypeId}, Ext No h h' → h'[b]? = some (.cells ⟨[.func (.func fk) ⟨[]⟩ ⟨[]⟩]⟩ t (0, 0)) → ag Tryz.prog 235 ⟨[v, .func (.func 236) ⟨[]⟩ ⟨[.pointer (some ⟨b, 0, none⟩)]⟩]⟩ h' fun u h'' => u = .bool (l.any fun x => !p x) ∧ Ext No h' h'' := by
   intro h' b t hx hb
   refine calls [(0, _), (1, _)] Tryz.func235 rfl Tryz.ntmps235 rfl ⟨rfl, rfl, trivial⟩ ?_
   refine G2 ?_; refine G2 ?_; refine WL.call (vs := [_, _]) rfl Tryz.call272 rfl (og l (fun x => !p x) Tryz.call236 (fs := []) (us := [.pointer (some ⟨b, 0, none⟩)]) (hr.aq hx) (by unfold maxLen; omega) (fun x hxl h2 aI => rT x p hcf (aI.obj hb aO) (fun h3 aQ => hp x hxl h3 ((hx.trans aI).trans aQ)))) rfl rfl rfl ?_
   rintro _ h1 ⟨rfl, az⟩
   refine WL.step (dv rfl rfl) rfl rfl rfl (Go ?_); refine Gs [(4, _)] ?_; refine Gt ?_
   exact ⟨by rw [dT], az⟩
 obtain ⟨A, c, rfl, _⟩ := id hr
 refine calls [(0, _), (1, _)] Tryz.func194 rfl Tryz.ntmps194 rfl ⟨rfl, rfl, trivial⟩ ?_
 refine WC.sr ?_; refine WL.aj (aG rfl) rfl rfl rfl ?_
 rintro _ h1 ⟨b1, rfl, bR, aR, az⟩
 refine Go ?_; refine G2 ?_
 refine bK 8 ?_ TT.mk
 refine Gg ?_; refine WL.step (eH (vs := []) (us := [_]) rfl rfl) rfl rfl rfl ?_; refine WL.call (vs := [_, _]) rfl Tryz.call235 rfl (hcon az aR) rfl rfl rfl ?_
 rintro _ h2 ⟨rfl, aI⟩
 refine Gg ?_; refine Go ?_; refine Gs [(4, _)] ?_; refine Gt ?_
 exact ⟨by rw [← ka], az.trans aI⟩
theorem rU {h : ah} {b : Nat} {t : TypeId} (x : aX) (p : aX → Bool) {fk : Nat} (hcf : ∀ (args : Array Value) (w : World), (callFunc fk args).run Tryz.prog w = .ok (.enter fk args) w) (hb : h[b]? = some (.cells ⟨[.func (.func fk) ⟨[]⟩ ⟨[]⟩]⟩ t (0, 0)))
   (hp : ∀ h', Ext No h h' → ag Tryz.prog fk ⟨[.agg ⟨aX.cells x⟩]⟩ h' fun u h'' => u = .bool (p x) ∧ Ext No h' h'') :
   ag Tryz.prog 237 ⟨[.agg ⟨aX.cells x⟩, .pointer (some ⟨b, 0, none⟩)]⟩ h fun u h' => u = .bool (!p x) ∧ Ext No h h' := by
 refine calls [(0, _), (1, _)] Tryz.func237 rfl Tryz.ntmps237 rfl ⟨rfl, rfl, trivial⟩ ?_
 refine WC.sr ?_; refine WL.aj (aG rfl) rfl rfl rfl ?_
 rintro _ h1 ⟨b1, rfl, bR, aR, az⟩
 refine Go ?_; refine WC.sr ?_; refine WL.ld rfl (by first | exact aa (az.obj hb aO) rfl | assumption) rfl rfl rfl ?_
 refine WL.step (ay Tryz.isAgg85 Tryz.sizeOf85 rfl rfl (by exact At.av aR)) rfl rfl rfl ?_
 refine WL.fC (vs := [_]) rfl rfl hcf rfl (hp _ az) rfl rfl rfl ?_
 rintro _ h2 ⟨rfl, aI⟩
 refine Go ?_; refine Gs [(3, _)] ?_; refine Gt ?_
 exact ⟨rfl, az.trans aI⟩
theorem tQ {h : ah} {v : Value} (l : List aX) (p : aX → Bool) (hr : Rd h v 2 l.length (l.flatMap aX.cells)) (hl : l.length ≤ 65535) {fk : Nat} (hcf : ∀ (args : Array Value) (w : World), (callFunc fk args).run Tryz.prog w = .ok (.enter fk args) w)
   (hp : ∀ x ∈ l, ∀ h', Ext No h h' → ag Tryz.prog fk ⟨[.agg ⟨aX.cells x⟩]⟩ h' fun u h'' => u = .bool (p x) ∧ Ext No h' h'') :
   ag Tryz.prog 196 ⟨[v, .func (.func fk) ⟨[]⟩ ⟨[]⟩]⟩ h fun u h' => u = .bool (l.all p) ∧ Ext No h h' := by
 have hcon : ∀ {h' : ah} {b : Nat} {t : TypeId}, Ext No h h' → h'[b]? = some (.cells ⟨[.func (.func fk) ⟨[]⟩ ⟨[]⟩]⟩ t (0, 0)) → ag Tryz.prog 46 ⟨[v, .func (.func 237) ⟨[]⟩ ⟨[.pointer (some ⟨b, 0, none⟩)]⟩]⟩ h' fun u h'' => u = .bool (l.any fun x => !p x) ∧ Ext No h' h'' := by
   intro h' b t hx hb
   refine calls [(0, _), (1, _)] Tryz.func46 rfl Tryz.ntmps46 rfl ⟨rfl, rfl, trivial⟩ ?_
   refine G2 ?_; refine G2 ?_; refine WL.call (vs := [_, _]) rfl Tryz.call83 rfl (jq l (fun x => !p x) Tryz.call237 (fs := []) (us := [.pointer (some ⟨b, 0, none⟩)]) (hr.aq hx) (by unfold maxLen; omega) (fun x hxl h2 aI => rU x p hcf (aI.obj hb aO) (fun h3 aQ => hp x hxl h3 ((hx.trans aI).trans aQ)))) rfl rfl rfl ?_
   rintro _ h1 ⟨rfl, az⟩
   refine WL.step (dv rfl rfl) rfl rfl rfl (Go ?_); refine Gs [(4, _)] ?_; refine Gt ?_
   exact ⟨by rw [dT], az⟩
 obtain ⟨A, c, rfl, _⟩ := id hr
 refine calls [(0, _), (1, _)] Tryz.func196 rfl Tryz.ntmps196 rfl ⟨rfl, rfl, trivial⟩ ?_
 refine WC.sr ?_; refine WL.aj (aG rfl) rfl rfl rfl ?_
 rintro _ h1 ⟨b1, rfl, bR, aR, az⟩
 refine Go ?_; refine G2 ?_
 refine bK 8 ?_ TT.mk
 refine Gg ?_; refine WL.step (eH (vs := []) (us := [_]) rfl rfl) rfl rfl rfl ?_; refine WL.call (vs := [_, _]) rfl Tryz.call46 rfl (hcon az aR) rfl rfl rfl ?_
 rintro _ h2 ⟨rfl, aI⟩
 refine Gg ?_; refine Go ?_; refine Gs [(4, _)] ?_; refine Gt ?_
 exact ⟨by rw [← ka], az.trans aI⟩
theorem vx {h : ah} {v : Value} (l : List aX) (p : aX → Bool) {fk : Nat} {fs us : List Value} (hcf : ∀ (args : Array Value) (w : World), (callFunc fk args).run Tryz.prog w = .ok (.enter fk args) w) (hr : Rd h v 2 l.length (l.flatMap aX.cells)) (hm : l.length ≤ maxLen)
   (hp : ∀ x ∈ l, ∀ h', Ext No h h' → ag Tryz.prog fk ⟨fs ++ [.agg ⟨aX.cells x⟩] ++ us⟩ h' fun u h'' => u = .bool (p x) ∧ Ext No h' h'') :
   ag Tryz.prog 46 ⟨[v, .func (.func fk) ⟨fs⟩ ⟨us⟩]⟩ h fun u h' => u = .bool (l.any p) ∧ Ext No h h' := by
 refine calls [(0, _), (1, _)] Tryz.func46 rfl Tryz.ntmps46 rfl ⟨rfl, rfl, trivial⟩ ?_
 refine G2 ?_; refine G2 ?_; refine WL.call (vs := [_, _]) rfl Tryz.call83 rfl (jq l p hcf hr hm hp) rfl rfl rfl ?_
 rintro _ h1 ⟨rfl, az⟩
 refine WL.step (dv rfl rfl) rfl rfl rfl (Go ?_); refine Gs [(4, _)] ?_; refine Gt ?_
 exact ⟨by rw [dT], az⟩
theorem Cc {h : ah} {v : Value} (l : List eO) (p : eO → Bool) {fk : Nat} {fs us : List Value} (hcf : ∀ (args : Array Value) (w : World), (callFunc fk args).run Tryz.prog w = .ok (.enter fk args) w) (hr : Rd h v 3 l.length (l.flatMap eO.cells)) (hm : l.length ≤ maxLen)
   (hp : ∀ x ∈ l, ∀ h', Ext No h h' → ag Tryz.prog fk ⟨fs ++ [.agg ⟨eO.cells x⟩] ++ us⟩ h' fun u h'' => u = .bool (p x) ∧ Ext No h' h'') :
   ag Tryz.prog 270 ⟨[v, .func (.func fk) ⟨fs⟩ ⟨us⟩]⟩ h fun u h' => u = .bool (l.any p) ∧ Ext No h h' := by
 refine calls [(0, _), (1, _)] Tryz.func270 rfl Tryz.ntmps270 rfl ⟨rfl, rfl, trivial⟩ ?_
 refine G2 ?_; refine G2 ?_; refine WL.call (vs := [_, _]) rfl Tryz.call300 rfl (od l p hcf hr hm hp) rfl rfl rfl ?_
 rintro _ h1 ⟨rfl, az⟩
 refine WL.step (dv rfl rfl) rfl rfl rfl (Go ?_); refine Gs [(4, _)] ?_; refine Gt ?_
 exact ⟨by rw [dT], az⟩
def eO.okB (b : eO) : Bool := decide (b.lo ≤ b.n) && decide (b.n ≤ b.hi)
theorem yP {h : ah} (b : eO) : ag Tryz.prog 271 ⟨[.agg ⟨b.cells⟩]⟩ h fun u h' => u = .bool (!b.okB) ∧ Ext No h h' := by
 obtain ⟨n, lo, hi⟩ := b
 dsimp only [eO.cells, eO.okB]
 refine calls [(0, _)] Tryz.func271 rfl Tryz.ntmps271 rfl ⟨rfl, trivial⟩ ?_
 refine WC.sr ?_; refine WL.aj (aG rfl) rfl rfl rfl ?_
 rintro _ h3 ⟨b3, rfl, gl, bq, aQ⟩
 refine Go ?_; refine G2 ?_; refine Ld ?_; refine Go ?_; refine Ld ?_; refine Go ?_
 refine bK 8 (Hb.mk fun hb => ?_) (Hb.mk fun hb => ?_)
 all_goals (refine Gg ?_; first | refine WL.pass rfl rfl rfl ?_ | refine Ld ?_)
 all_goals (refine Gg ?_; first | refine WL.pass rfl rfl rfl ?_ | refine Ld ?_)
 all_goals (refine Gg ?_; refine Go ?_; refine Gs [(2, _)] ?_; refine Gt ?_)
 all_goals (
  refine ⟨congrArg Value.bool ?_, aQ⟩
  by_cases q1 : lo ≤ n
  all_goals by_cases q2 : n ≤ hi
  all_goals first | (simp [q1, q2]; done) | (simp [q1, q2]; omega) | (exfalso; omega))
theorem Hl {h : ah} {v : Value} (l : List eO) (hr : Rd h v 3 l.length (l.flatMap eO.cells)) (hm : l.length ≤ maxLen) : ag Tryz.prog 234 ⟨[v]⟩ h fun u h' => u = .bool (l.all eO.okB) ∧ Ext No h h' := by
 refine calls [(0, _)] Tryz.func234 rfl Tryz.ntmps234 rfl ⟨rfl, trivial⟩ ?_
 refine G2 ?_; refine G2 ?_; refine WL.call (vs := [_, _]) rfl Tryz.call270 rfl (Cc l (fun b => !b.okB) Tryz.call271 (fs := []) (us := []) hr hm (fun x hx h' hx' => yP x)) rfl rfl rfl ?_
 rintro _ h1 ⟨rfl, az⟩
 refine Go ?_; refine Gs [(2, _)] ?_; refine Gt ?_
 exact ⟨by rw [← ka], az⟩
instance (c : cA) : Decidable c.okB := by unfold cA.okB; exact inferInstance
instance (c : bj) : Decidable c.okB := by unfold bj.okB; exact inferInstance
instance (c : aX) : Decidable c.okB := by unfold aX.okB; exact inferInstance
theorem tR {h : ah} (c : cA) : ag Tryz.prog 193 ⟨[.agg ⟨c.cells⟩]⟩ h fun u h' => u = .bool (decide c.okB) ∧ Ext No h h' := by
 obtain ⟨nm, t, a, o, s, m, f⟩ := c
 dsimp only [cA.cells]
 refine calls [(0, _)] Tryz.func193 rfl Tryz.ntmps193 rfl ⟨rfl, trivial⟩ ?_
 refine WC.sr ?_; refine WL.aj (aG rfl) rfl rfl rfl ?_
 rintro _ g1 ⟨b1, rfl, bR, aR, az⟩
 refine Go ?_; refine G2 ?_; refine Ld ?_; refine WL.call (vs := [_]) rfl Tryz.call187 rfl (fq nm) rfl rfl rfl ?_
 rintro _ hz ⟨rfl, _⟩
 subst hz
 refine Go ?_
 refine bK 6 (Hb.mk fun hb => ?_) (Hb.mk fun hb => ?_)
 all_goals (refine Gg ?_; first | refine WL.pass rfl rfl rfl ?_ | refine Ld ?_)
 all_goals (first | refine WL.pass rfl rfl rfl ?_ | (refine WL.step (aF (vs := [_, _, _]) (cs := [_, _, _]) (fun | [a0, a1, a2] => [a0, a1, a2] | _ => []) rfl rfl (by kernel_rfl)) rfl rfl rfl ?_))
 all_goals (refine Gg ?_; first | refine WL.pass rfl rfl rfl ?_ | refine Ld ?_)
 all_goals (first | refine WL.pass rfl rfl rfl ?_ | (refine WL.step (aF (vs := [_, _, _]) (cs := [_, _, _]) (fun | [a0, a1, a2] => [a0, a1, a2] | _ => []) rfl rfl (by kernel_rfl)) rfl rfl rfl ?_))
 all_goals (refine Gg ?_; first | refine WL.pass rfl rfl rfl ?_ | refine Ld ?_)
 all_goals (first | refine WL.pass rfl rfl rfl ?_ | (refine WL.step (aF (vs := [_, _, _]) (cs := [_, _, _]) (fun | [a0, a1, a2] => [a0, a1, a2] | _ => []) rfl rfl (by kernel_rfl)) rfl rfl rfl ?_))
 all_goals (refine Gg ?_; first | refine WL.pass rfl rfl rfl ?_ | refine Ld ?_)
 all_goals (first | refine WL.pass rfl rfl rfl ?_ | (refine WL.step (aF (vs := [_, _, _]) (cs := [_, _, _]) (fun | [a0, a1, a2] => [a0, a1, a2] | _ => []) rfl rfl (by kernel_rfl)) rfl rfl rfl ?_))
 all_goals (refine Gg ?_; first | refine WL.pass rfl rfl rfl ?_ | refine Ld ?_)
 all_goals (first | refine WL.pass rfl rfl rfl ?_ | (refine WL.step (aF (vs := [_, _, _]) (cs := [_, _, _]) (fun | [a0, a1, a2] => [a0, a1, a2] | _ => []) rfl rfl (by kernel_rfl)) rfl rfl rfl ?_))
 all_goals (refine Gg ?_; first | refine WL.pass rfl rfl rfl ?_ | refine Ld ?_)
 all_goals (first | refine WL.pass rfl rfl rfl ?_ | (refine WL.step (aF (vs := [_, _, _]) (cs := [_, _, _]) (fun | [a0, a1, a2] => [a0, a1, a2] | _ => []) rfl rfl (by kernel_rfl)) rfl rfl rfl ?_))
 all_goals (
  first
    | (refine WL.pass rfl rfl rfl ?_)
    | (refine WL.aj (au (vs := [_, _, _, _, _, _]) (cs := [_, _, _, _, _, _, _, _, _, _, _, _, _, _, _, _, _, _]) (fun | [.agg ⟨[a0, a1, a2]⟩, .agg ⟨[a3, a4, a5]⟩, .agg ⟨[a6, a7, a8]⟩, .agg ⟨[a9, gY, yq]⟩, .agg ⟨[a12, Ex, Ey]⟩, .agg ⟨[Ez, G5, G6]⟩] => [a0, a1, a2, a3, a4, a5, a6, a7, a8, a9, gY, yq, a12, Ex, Ey, Ez, G5, G6] | _ => []) Tryz.underlying337 rfl rfl (by kernel_rfl)) rfl rfl rfl ?_
       rintro _ g2 ⟨b2, rfl, gg, bH, aI⟩))
 all_goals (
  first
    | (refine WL.pass rfl rfl rfl ?_)
    | (refine WL.call (vs := [_]) rfl Tryz.call234 rfl (Hl [⟨t, 0, 4294967295⟩, ⟨a, 0, 65535⟩, ⟨o, 0, 4294967295⟩, ⟨s, -32768, 32767⟩, ⟨m, -2147483648, 2147483647⟩, ⟨f, 0, 65535⟩] (bx bH rfl) (by simp [maxLen])) rfl rfl rfl ?_
       rintro _ g3 ⟨rfl, aQ⟩))
 all_goals (refine Go ?_; refine Gs [(2, _)] ?_; refine Gt ?_)
 all_goals (
  first
   | (refine ⟨congrArg Value.bool ?_, (az.trans aI).trans aQ⟩
      simp [cA.okB, eO.okB, *]; done)
   | (refine ⟨congrArg Value.bool ?_, az⟩
      simp [cA.okB, *]; done))
theorem wI {h : ah} (c : bj) : ag Tryz.prog 195 ⟨[.agg ⟨c.cells⟩]⟩ h fun u h' => u = .bool (decide c.okB) ∧ Ext No h h' := by
 obtain ⟨k, t⟩ := c
 dsimp only [bj.cells]
 refine calls [(0, _)] Tryz.func195 rfl Tryz.ntmps195 rfl ⟨rfl, trivial⟩ ?_
 refine WC.sr ?_; refine WL.aj (aG rfl) rfl rfl rfl ?_
 rintro _ g1 ⟨b1, rfl, bR, aR, az⟩
 refine Go ?_; refine G2 ?_; refine Ld ?_; refine Go ?_
 refine bK 6 (Hb.mk fun hb => ?_) (Hb.mk fun hb => ?_)
 all_goals (refine Gg ?_; first | refine WL.pass rfl rfl rfl ?_ | refine Ld ?_)
 all_goals (
  first
    | (refine WL.pass rfl rfl rfl ?_)
    | (refine WL.call (vs := [_]) rfl Tryz.call187 rfl (fq t) rfl rfl rfl ?_
       rintro _ hz ⟨rfl, _⟩
       subst hz))
 all_goals (refine Go ?_; refine Gs [(2, _)] ?_; refine Gt ?_; refine ⟨congrArg Value.bool ?_, az⟩; simp [bj.okB, *])
theorem yQ {h h0 : ah} (c : aX) (hk : c.ok h0) (hl : c.bytes.length ≤ 1048576) : ag Tryz.prog 197 ⟨[.agg ⟨c.cells⟩]⟩ h fun u h' => u = .bool (decide c.okB) ∧ Ext No h h' := by
 obtain ⟨nl, v, bs⟩ := c
 obtain ⟨A, cc, e, _⟩ := hk.1
 simp only at e hl
 subst e
 dsimp only [aX.cells]
 cases nl
 all_goals
   refine calls [(0, _)] Tryz.func197 rfl Tryz.ntmps197 rfl ⟨rfl, trivial⟩ ?_
   all_goals (refine WC.sr ?_; refine WL.aj (aG rfl) rfl rfl rfl ?_; rintro _ g1 ⟨b1, rfl, bR, aR, az⟩; refine Go ?_; refine G2 ?_; refine Ld ?_; refine Go ?_; refine bK 5 ?_ TT.mk; refine Gg ?_; first | refine WL.pass rfl rfl rfl ?_ | refine Ld ?_)
   all_goals (refine Gg ?_; refine Go ?_; first | refine bK 12 ?_ TT.mk | (refine bK 12 (Hb.mk fun hb => ?_) (Hb.mk fun hb => ?_)))
   all_goals (refine Gg ?_; first | refine WL.pass rfl rfl rfl ?_ | refine Ld ?_)
   all_goals (refine Gg ?_; refine Go ?_; refine Gs [(2, _)] ?_; refine Gt ?_)
   all_goals (
    refine ⟨congrArg Value.bool ?_, az⟩
    first
     | exact (decide_eq_true (p := aX.okB _) ⟨fun z => (by show bs.length = 0; omega), hl⟩).symm
     | exact (decide_eq_true (p := aX.okB _) ⟨(fun z => by cases z), hl⟩).symm
     | exact (decide_eq_false (p := aX.okB _) (fun z => (by have : bs.length = 0 := z.1 rfl; omega))).symm
     | exact decide_eq_decide.2 ⟨fun z => ⟨fun z => (by show bs.length = 0; omega), hl⟩, fun z => (by omega)⟩
     | exact decide_eq_decide.2 ⟨fun z => ⟨(fun z => by cases z), hl⟩, fun z => (by omega)⟩)
def kX (n : Int) : Bool := decide (0 ≤ n) && decide (n ≤ 4294967295)
theorem pX {h : ah} (n : Int) : ag Tryz.prog 199 ⟨[In n]⟩ h fun u h' => u = .bool (kX n) ∧ h' = h := by
 unfold kX
 refine calls [(0, _)] Tryz.func199 rfl Tryz.ntmps199 rfl ⟨rfl, trivial⟩ ?_
 refine G2 ?_; refine G2 ?_
 refine bK 5 (Hb.mk fun hb => ?_) (Hb.mk fun hb => ?_)
 all_goals (refine Gg ?_; refine Go ?_; refine Gs [(2, _)] ?_; refine Gt ?_)
 all_goals (
  refine ⟨congrArg Value.bool ?_, rfl⟩
  by_cases q1 : 0 ≤ n
  all_goals by_cases q2 : n ≤ 4294967295
  all_goals first | (simp [q1, q2]; done) | (simp [q1, q2]; omega) | (exfalso; omega))
theorem tS {h : ah} {v : Value} (l : List Int) (hr : Rd h v 1 l.length (ints l)) (hl : l.length ≤ 65535) :
   ag Tryz.prog 198 ⟨[v, .func (.func 199) ⟨[]⟩ ⟨[]⟩]⟩ h fun u h' => u = .bool (l.all kX) ∧ Ext No h h' := by
 have hf : ∀ {h : ah} {b : Nat} {t : TypeId} (x : Int), x ∈ l → h[b]? = some (.cells ⟨[.func (.func 199) ⟨[]⟩ ⟨[]⟩]⟩ t (0, 0)) → ag Tryz.prog 238 ⟨[In x, .pointer (some ⟨b, 0, none⟩)]⟩ h fun u h' => u = .bool (!kX x) ∧ h' = h := by
   intro h b t x hx hb
   refine calls [(0, _), (1, _)] Tryz.func238 rfl Tryz.ntmps238 rfl ⟨rfl, rfl, trivial⟩ ?_
   refine G2 ?_; refine WC.sr ?_; refine Ld ?_; refine Go ?_; refine WL.fC (vs := [_]) rfl rfl Tryz.call199 rfl (pX x) rfl rfl rfl ?_
   rintro _ hz ⟨rfl, _⟩
   subst hz
   refine Go ?_; refine Gs [(3, _)] ?_; refine Gt ?_
   exact ⟨rfl, rfl⟩
 obtain ⟨A, c, rfl, _⟩ := id hr
 have hcon : ∀ {h' : ah} {b : Nat} {t : TypeId}, Ext No h h' → h'[b]? = some (.cells ⟨[.func (.func 199) ⟨[]⟩ ⟨[]⟩]⟩ t (0, 0)) → ag Tryz.prog 182 ⟨[.slice A l.length c, .func (.func 238) ⟨[]⟩ ⟨[.pointer (some ⟨b, 0, none⟩)]⟩]⟩ h' fun u h'' => u = .bool (l.any fun x => !kX x) ∧ h'' = h' := by
   intro h' b t hx hb
   refine calls [(0, _), (1, _)] Tryz.func182 rfl Tryz.ntmps182 rfl ⟨rfl, rfl, trivial⟩ ?_
   refine G2 ?_; refine G2 ?_; refine WL.call (vs := [_, _]) rfl Tryz.call229 rfl (jo l (fun x => !kX x) Tryz.call238 (fs := []) (us := [.pointer (some ⟨b, 0, none⟩)]) (hr.aq hx) (by unfold maxLen; omega) (fun x hxl => hf x hxl hb)) rfl rfl rfl ?_
   rintro _ hz ⟨rfl, _⟩
   subst hz
   refine WL.step (dv rfl rfl) rfl rfl rfl (Go ?_); refine Gs [(4, _)] ?_; refine Gt ?_
   exact ⟨by rw [dT], rfl⟩
 refine calls [(0, _), (1, _)] Tryz.func198 rfl Tryz.ntmps198 rfl ⟨rfl, rfl, trivial⟩ ?_
 refine WC.sr ?_; refine WL.aj (aG rfl) rfl rfl rfl ?_
 rintro _ h1 ⟨b1, rfl, bR, aR, az⟩
 refine Go ?_; refine G2 ?_
 refine bK 8 ?_ TT.mk
 refine Gg ?_; refine WL.step (eH (vs := []) (us := [_]) rfl rfl) rfl rfl rfl ?_; refine WL.call (vs := [_, _]) rfl Tryz.call182 rfl (hcon az aR) rfl rfl rfl ?_
 rintro _ hz ⟨rfl, _⟩
 subst hz
 refine Gg ?_; refine Go ?_; refine Gs [(4, _)] ?_; refine Gt ?_
 exact ⟨by rw [← ka], az⟩
abbrev JI:=Int × Int × Unit
def yR:JI→List Value:=fun p=>[In p.1]++([In p.2.1]++[])
abbrev MJ (h:ah) (v:Value) (l:List JI):Prop:=Rd h v 2 l.length (l.flatMap yR)∧l.length * 16≤reachBytes
abbrev I0:=Bool × List UInt8 × Int × Unit
def yS:I0→List Value:=fun p=>[.bool p.1]++([St p.2.1]++([In p.2.2.1]++[]))
abbrev Hm (h:ah) (v:Value) (l:List I0):Prop:=Rd h v 3 l.length (l.flatMap yS)∧l.length≤maxLen
structure En where
 kind:Int
 hide:Bool
 src:List UInt8
 dst:List UInt8
 vg:Value
 good:List I0
 vb:Value
 bad:List I0
 vc:Value
 ops:List JI
 vr:Value
 reply:List UInt8
def En.cells (e:En):List Value:=[In e.kind,.bool e.hide,St e.src,St e.dst,e.vg,e.vb,e.vc,e.vr]
structure En.ok (h:ah) (e:En):Prop where
 good:Hm h e.vg e.good
 bad:Hm h e.vb e.bad
 ops:MJ h e.vc e.ops
 reply:Rd h e.vr 1 e.reply.length (bA e.reply)∧e.reply.length≤reachBytes
theorem En.ok.one {h:ah} {e:En} (k:e.ok h):∀ v∈e.cells,v.oneCell'=true:=by
 obtain ⟨A1,c1,e1,_⟩:=k.1.1
 obtain ⟨A2,c2,e2,_⟩:=k.2.1
 obtain ⟨A3,c3,e3,_⟩:=k.3.1
 obtain ⟨A4,c4,e4,_⟩:=k.4.1
 simp [En.cells,Value.oneCell',e1,e2,e3,e4]
structure Bk.wf (b:Bk):Prop where
 kind:0≤b.kind∧b.kind≤255
 status:0≤b.status∧b.status≤255
 codes:∀ f∈b.fields,0≤f.k∧f.k≤255
theorem yT {h:ah} {v w:Value} (l m:List cA) (hr:Rd h v 7 l.length (l.flatMap cA.cells)) (hs:Rd h w 7 m.length (m.flatMap cA.cells)) (hml:l.length≤maxLen) (hmm:m.length≤maxLen) :
   ag Tryz.prog 239 ⟨[v,w]⟩ h fun u h'=>u=.bool (decide (l=m))∧h'=h:=by
 obtain ⟨A,c,rfl,_⟩:=id hr
 obtain ⟨B,d,rfl,_⟩:=id hs
 unfold maxLen at hml hmm
 refine calls [(0,_),(1,_)] Tryz.func239 rfl Tryz.ntmps239 rfl ⟨rfl,rfl,trivial⟩ ?_
 refine G2 ?_;refine G3 ?_;refine Gs [(0,_),(1,_),(10,_)] ?_
 refine aH 1 2 (Hb.mk fun hb=>?_) (Hb.mk fun hb=>?_)
 all_goals try (
 refine aw 1 ?_
 refine G2 ?_;refine Gt ?_
 first
  | exact ⟨by rw [decide_eq_false (fun e=>by subst e;omega)],rfl⟩
  | exact ⟨by rw [decide_eq_false (fun e=>hyz (by subst e;rw [hy] at hz;exact Option.some.inj hz))],rfl⟩
  | exact ⟨by rw [decide_eq_true (by rw [List.take_of_length_le (by omega),List.take_of_length_le (by omega)] at hn;exact hn)],rfl⟩
 skip)
 all_goals (refine aw 2 ?_)
 refine WC.skip ?_;refine Gn ?_;refine G3 ?_;refine WC.block ?_;refine WC.bD (X:=Nat) (fun x=>([(13,In (x:Int))]:Fr)) [(0,_),(1,_),(12,_)] (fun k h'=>h'=h∧k≤l.length∧l.length=m.length∧l.take k=m.take k) (fun k=>l.length - k) (0) ⟨rfl,rfl,rfl,rfl,trivial⟩ (by exact ⟨rfl,Nat.zero_le _,by omega,by simp⟩) ?_
 rintro k h9 ⟨hz,hk,hlm,hn⟩
 subst h9
 refine WC.sub [(13,_),(0,_),(1,_),(12,_)] ⟨rfl,rfl,rfl,rfl,trivial⟩ ?_;refine G2 ?_;refine WC.seq ?_
 refine aH 3 4 (Hb.mk fun hb=>?_) (Hb.mk fun hb=>?_)
 all_goals try (
 refine aw 3 ?_
 refine WC.skip ?_
 skip)
 all_goals try (
 refine aw 4 ?_
 refine WC.exit ?_
 repeat' (with_reducible first | refine aU ?_ | refine aD rfl ?_ | refine aJ ?_ | refine aL ?_ | refine aS ?_)
 refine Br.out (i:=1000) ?_
 skip)
 all_goals (refine Gn ?_;first | refine Br.ab ?_ | refine WC.seq ?_)
 all_goals (first | refine Br.ab ?_ | refine WC.block ?_)
 all_goals (first | refine Br.ab ?_ | refine WC.sr ?_)
 all_goals (
  first
    | (refine Br.ab ?_)
    | (obtain ⟨bL,oL,hA,hbL,hat⟩:=Rd.at_ hr (by omega)
       obtain ⟨bM,oM,hB,hbM,hbt⟩:=Rd.at_ hs (by omega)
       obtain ⟨y,hy⟩:∃ y,l[k]?=some y:=⟨_,List.getElem?_eq_getElem (by omega)⟩
       obtain ⟨z,hz⟩:∃ z,m[k]?=some z:=⟨_,List.getElem?_eq_getElem (by omega)⟩
       have vi:At h bL (oL+k * 7) (cA.cells y):=At.elem cA.len hat hy
       have DB:At h bM (oM+k * 7) (cA.cells z):=At.elem cA.len hbt hz
       by_cases hyz:y=z))
 all_goals (first | refine Br.ab ?_ | refine WL.step (ak rfl) rfl rfl rfl ?_)
 all_goals (refine Go ?_;first | refine Br.ab ?_ | refine WC.seq ?_)
 all_goals (first | refine Br.ab ?_ | (refine WC.fU dm (by kernel_rfl) ?_))
 all_goals (first | refine Br.ab ?_ | refine WQ.aK (ak rfl) rfl rfl rfl ?_)
 all_goals (first | refine Br.ab ?_ | refine WQ.aK (ak rfl) rfl rfl rfl ?_)
 all_goals (first | refine Br.ab ?_ | (refine WQ.aK (aE Tryz.underlying137 Tryz.sizeOf212 rfl rfl rfl (by omega) (by first | rfl | assumption)) rfl rfl rfl ?_))
 all_goals (first | refine Br.ab ?_ | (refine WQ.aK (ay Tryz.isAgg212 Tryz.sizeOf212 rfl rfl (by assumption)) rfl rfl rfl ?_))
 all_goals (first | refine Br.ab ?_ | refine WQ.aK (ak rfl) rfl rfl rfl ?_)
 all_goals (first | refine Br.ab ?_ | refine WQ.aK (ak rfl) rfl rfl rfl ?_)
 all_goals (first | refine Br.ab ?_ | (refine WQ.aK (aE Tryz.underlying137 Tryz.sizeOf212 rfl rfl rfl (by omega) (by first | rfl | assumption)) rfl rfl rfl ?_))
 all_goals (first | refine Br.ab ?_ | (refine WQ.aK (ay Tryz.isAgg212 Tryz.sizeOf212 rfl rfl (by assumption)) rfl rfl rfl ?_))
 all_goals (first | refine Br.ab ?_ | (first | (refine WQ.aK (bN.jT (congrArg (·.rB) hyz) (mq (us:=y.rB) (vs:=z.rB) ([.s,.i .i64,.i .i64,.i .i64,.i .i64,.i .i64,.i .i64]) (by kernel_rfl) rfl rfl rfl rfl)) rfl rfl rfl ?_) | (refine WQ.aK (bN.jS (fun e=>hyz ((cA.inj _ _).1 e)) (mq (us:=y.rB) (vs:=z.rB) ([.s,.i .i64,.i .i64,.i .i64,.i .i64,.i .i64,.i .i64]) (by kernel_rfl) rfl rfl rfl rfl)) rfl rfl rfl ?_)))
 all_goals (first | refine Br.ab ?_ | refine WQ.nil ?_)
 all_goals (refine Gn ?_;first | refine Br.ab ?_ | refine Gs [(0,_),(1,_),(12,_),(13,_),(24,_)] ?_)
 all_goals (first | refine Br.ab ?_ | refine aH 5 6 ?_ TT.mk)
 all_goals try (
 refine aw 5 ?_
 refine G2 ?_;refine Gs [(4,_)] ?_;refine Gt ?_
 first
  | exact ⟨by rw [decide_eq_false (fun e=>by subst e;omega)],rfl⟩
  | exact ⟨by rw [decide_eq_false (fun e=>hyz (by subst e;rw [hy] at hz;exact Option.some.inj hz))],rfl⟩
  | exact ⟨by rw [decide_eq_true (by rw [List.take_of_length_le (by omega),List.take_of_length_le (by omega)] at hn;exact hn)],rfl⟩
 skip)
 all_goals try (
 refine aw 6 ?_
 refine WC.skip ?_
 skip)
 all_goals (refine Gn ?_;first | refine Br.ab ?_ | refine WC.region ?_)
 all_goals (refine Go ?_;first | refine Br.ab ?_ | (exact ⟨k+1,⟨rfl,rfl,rfl,rfl,trivial⟩,(by exact ⟨rfl,by omega,hlm,by rw [List.take_add_one,List.take_add_one,hn,hy,hz,hyz]⟩),(by omega)⟩))
 try (refine Br.mk (i:=1000) ?_)
 refine Gn ?_;refine Gs [] ?_;refine G2 ?_;refine Gt ?_
 first
  | exact ⟨by rw [decide_eq_false (fun e=>by subst e;omega)],rfl⟩
  | exact ⟨by rw [decide_eq_false (fun e=>hyz (by subst e;rw [hy] at hz;exact Option.some.inj hz))],rfl⟩
  | exact ⟨by rw [decide_eq_true (by rw [List.take_of_length_le (by omega),List.take_of_length_le (by omega)] at hn;exact hn)],rfl⟩
theorem yU {h:ah} {v w:Value} (l m:List bj) (hr:Rd h v 2 l.length (l.flatMap bj.cells)) (hs:Rd h w 2 m.length (m.flatMap bj.cells)) (hml:l.length≤maxLen) (hmm:m.length≤maxLen) :
   ag Tryz.prog 240 ⟨[v,w]⟩ h fun u h'=>u=.bool (decide (l=m))∧h'=h:=by
 obtain ⟨A,c,rfl,_⟩:=id hr
 obtain ⟨B,d,rfl,_⟩:=id hs
 unfold maxLen at hml hmm
 refine calls [(0,_),(1,_)] Tryz.func240 rfl Tryz.ntmps240 rfl ⟨rfl,rfl,trivial⟩ ?_
 refine G2 ?_;refine G3 ?_;refine Gs [(0,_),(1,_),(10,_)] ?_
 refine aH 1 2 (Hb.mk fun hb=>?_) (Hb.mk fun hb=>?_)
 all_goals try (
 refine aw 1 ?_
 refine G2 ?_;refine Gt ?_
 first
  | exact ⟨by rw [decide_eq_false (fun e=>by subst e;omega)],rfl⟩
  | exact ⟨by rw [decide_eq_false (fun e=>hyz (by subst e;rw [hy] at hz;exact Option.some.inj hz))],rfl⟩
  | exact ⟨by rw [decide_eq_true (by rw [List.take_of_length_le (by omega),List.take_of_length_le (by omega)] at hn;exact hn)],rfl⟩
 skip)
 all_goals (refine aw 2 ?_)
 refine WC.skip ?_;refine Gn ?_;refine G3 ?_;refine WC.block ?_;refine WC.bD (X:=Nat) (fun x=>([(13,In (x:Int))]:Fr)) [(0,_),(1,_),(12,_)] (fun k h'=>h'=h∧k≤l.length∧l.length=m.length∧l.take k=m.take k) (fun k=>l.length - k) (0) ⟨rfl,rfl,rfl,rfl,trivial⟩ (by exact ⟨rfl,Nat.zero_le _,by omega,by simp⟩) ?_
 rintro k h9 ⟨hz,hk,hlm,hn⟩
 subst h9
 refine WC.sub [(13,_),(0,_),(1,_),(12,_)] ⟨rfl,rfl,rfl,rfl,trivial⟩ ?_;refine G2 ?_;refine WC.seq ?_
 refine aH 3 4 (Hb.mk fun hb=>?_) (Hb.mk fun hb=>?_)
 all_goals try (
 refine aw 3 ?_
 refine WC.skip ?_
 skip)
 all_goals try (
 refine aw 4 ?_
 refine WC.exit ?_
 repeat' (with_reducible first | refine aU ?_ | refine aD rfl ?_ | refine aJ ?_ | refine aL ?_ | refine aS ?_)
 refine Br.out (i:=1000) ?_
 skip)
 all_goals (refine Gn ?_;first | refine Br.ab ?_ | refine WC.seq ?_)
 all_goals (first | refine Br.ab ?_ | refine WC.block ?_)
 all_goals (first | refine Br.ab ?_ | refine WC.sr ?_)
 all_goals (
  first
    | (refine Br.ab ?_)
    | (obtain ⟨bL,oL,hA,hbL,hat⟩:=Rd.at_ hr (by omega)
       obtain ⟨bM,oM,hB,hbM,hbt⟩:=Rd.at_ hs (by omega)
       obtain ⟨y,hy⟩:∃ y,l[k]?=some y:=⟨_,List.getElem?_eq_getElem (by omega)⟩
       obtain ⟨z,hz⟩:∃ z,m[k]?=some z:=⟨_,List.getElem?_eq_getElem (by omega)⟩
       have vi:At h bL (oL+k * 2) (bj.cells y):=At.elem bj.len hat hy
       have DB:At h bM (oM+k * 2) (bj.cells z):=At.elem bj.len hbt hz
       by_cases hyz:y=z))
 all_goals (first | refine Br.ab ?_ | refine WL.step (ak rfl) rfl rfl rfl ?_)
 all_goals (refine Go ?_;first | refine Br.ab ?_ | refine WC.seq ?_)
 all_goals (first | refine Br.ab ?_ | (refine WC.fU dm (by kernel_rfl) ?_))
 all_goals (first | refine Br.ab ?_ | refine WQ.aK (ak rfl) rfl rfl rfl ?_)
 all_goals (first | refine Br.ab ?_ | refine WQ.aK (ak rfl) rfl rfl rfl ?_)
 all_goals (first | refine Br.ab ?_ | (refine WQ.aK (aE Tryz.underlying138 Tryz.sizeOf194 rfl rfl rfl (by omega) (by first | rfl | assumption)) rfl rfl rfl ?_))
 all_goals (first | refine Br.ab ?_ | (refine WQ.aK (ay Tryz.isAgg194 Tryz.sizeOf194 rfl rfl (by assumption)) rfl rfl rfl ?_))
 all_goals (first | refine Br.ab ?_ | refine WQ.aK (ak rfl) rfl rfl rfl ?_)
 all_goals (first | refine Br.ab ?_ | refine WQ.aK (ak rfl) rfl rfl rfl ?_)
 all_goals (first | refine Br.ab ?_ | (refine WQ.aK (aE Tryz.underlying138 Tryz.sizeOf194 rfl rfl rfl (by omega) (by first | rfl | assumption)) rfl rfl rfl ?_))
 all_goals (first | refine Br.ab ?_ | (refine WQ.aK (ay Tryz.isAgg194 Tryz.sizeOf194 rfl rfl (by assumption)) rfl rfl rfl ?_))
 all_goals (first | refine Br.ab ?_ | (first | (refine WQ.aK (bN.jT (congrArg (·.rB) hyz) (mq (us:=y.rB) (vs:=z.rB) ([.i .u8,.s]) (by kernel_rfl) rfl rfl rfl rfl)) rfl rfl rfl ?_) | (refine WQ.aK (bN.jS (fun e=>hyz ((bj.inj _ _).1 e)) (mq (us:=y.rB) (vs:=z.rB) ([.i .u8,.s]) (by kernel_rfl) rfl rfl rfl rfl)) rfl rfl rfl ?_)))
 all_goals (first | refine Br.ab ?_ | refine WQ.nil ?_)
 all_goals (refine Gn ?_;first | refine Br.ab ?_ | refine Gs [(0,_),(1,_),(12,_),(13,_),(24,_)] ?_)
 all_goals (first | refine Br.ab ?_ | refine aH 5 6 ?_ TT.mk)
 all_goals try (
 refine aw 5 ?_
 refine G2 ?_;refine Gs [(4,_)] ?_;refine Gt ?_
 first
  | exact ⟨by rw [decide_eq_false (fun e=>by subst e;omega)],rfl⟩
  | exact ⟨by rw [decide_eq_false (fun e=>hyz (by subst e;rw [hy] at hz;exact Option.some.inj hz))],rfl⟩
  | exact ⟨by rw [decide_eq_true (by rw [List.take_of_length_le (by omega),List.take_of_length_le (by omega)] at hn;exact hn)],rfl⟩
 skip)
 all_goals try (
 refine aw 6 ?_
 refine WC.skip ?_
 skip)
 all_goals (refine Gn ?_;first | refine Br.ab ?_ | refine WC.region ?_)
 all_goals (refine Go ?_;first | refine Br.ab ?_ | (exact ⟨k+1,⟨rfl,rfl,rfl,rfl,trivial⟩,(by exact ⟨rfl,by omega,hlm,by rw [List.take_add_one,List.take_add_one,hn,hy,hz,hyz]⟩),(by omega)⟩))
 try (refine Br.mk (i:=1000) ?_)
 refine Gn ?_;refine Gs [] ?_;refine G2 ?_;refine Gt ?_
 first
  | exact ⟨by rw [decide_eq_false (fun e=>by subst e;omega)],rfl⟩
  | exact ⟨by rw [decide_eq_false (fun e=>hyz (by subst e;rw [hy] at hz;exact Option.some.inj hz))],rfl⟩
  | exact ⟨by rw [decide_eq_true (by rw [List.take_of_length_le (by omega),List.take_of_length_le (by omega)] at hn;exact hn)],rfl⟩
theorem EV {h:ah} (a b:aX) (ha:a.ok h) (hb:b.ok h) :
   ag Tryz.prog 241 ⟨[.agg ⟨a.cells⟩,.agg ⟨b.cells⟩]⟩ h fun u h'=>u=.bool (decide (a.pl=b.pl))∧Ext No h h':=by
 obtain ⟨n1,v1,l1⟩:=a
 obtain ⟨n2,v2,l2⟩:=b
 obtain ⟨ha,_⟩:=ha
 obtain ⟨hb,_⟩:=hb
 simp only at ha hb
 obtain ⟨A,c,rfl,_⟩:=id ha
 obtain ⟨B,d,rfl,_⟩:=id hb
 dsimp only [aX.cells]
 cases n1
 all_goals cases n2
 all_goals
   refine calls [(0,_),(1,_)] Tryz.func241 rfl Tryz.ntmps241 rfl ⟨rfl,rfl,trivial⟩ ?_
   all_goals (refine WC.sr ?_;refine WL.aj (aG rfl) rfl rfl rfl ?_;rintro _ h1 ⟨b1,rfl,bR,aR,az⟩;refine WL.aj (aG rfl) rfl rfl rfl ?_;rintro _ h2 ⟨b2,rfl,gg,bH,aI⟩;have rv:=aI.obj aR aO;have hx:=az.trans aI;refine Go ?_;refine G2 ?_;refine Ld ?_;refine Go ?_;refine Ld ?_;first | (refine WL.step (bN.fv (by rfl) (ml Tryz.underlying4 rfl rfl)) rfl rfl rfl ?_) | (refine WL.step (bN.fy (by decide) (ml Tryz.underlying4 rfl rfl)) rfl rfl rfl ?_))
   all_goals (refine Go ?_;refine bK 10 ?_ TT.mk;refine Gg ?_;first | refine WL.pass rfl rfl rfl ?_ | refine Ld ?_)
   all_goals (refine Gg ?_;first | refine WL.pass rfl rfl rfl ?_ | refine Ld ?_)
   all_goals (
    first
      | (refine WL.pass rfl rfl rfl ?_)
      | (refine WL.call (vs:=[_,_]) rfl Tryz.call12 rfl (lQ l1 l2 (ha.aq hx) (hb.aq hx)) rfl rfl rfl ?_
         rintro _ hz ⟨rfl,_⟩
         subst hz))
   all_goals (refine Go ?_;refine Gs [(4,_)] ?_;refine Gt ?_;exact ⟨by simp [aX.pl],hx⟩)
theorem tT {h:ah} {v w:Value} (l m:List aX) (hl:cF h v l) (hm:cF h w m) :
   ag Tryz.prog 189 ⟨[v,w,.func (.func 241) ⟨[]⟩ ⟨[]⟩]⟩ h fun u h'=>u=.bool (decide (l.map aX.pl=m.map aX.pl))∧Ext No h h':=by
 obtain ⟨hr,⟨hlm,A,c,rfl,_⟩,ho⟩:=hl
 obtain ⟨hs,⟨hmm,B,d,rfl,_⟩,hp⟩:=hm
 unfold reachBytes at hlm hmm
 refine calls [(0,_),(1,_),(2,_)] Tryz.func189 rfl Tryz.ntmps189 rfl ⟨rfl,rfl,rfl,trivial⟩ ?_
 refine G2 ?_;refine G3 ?_;refine Gs [(0,_),(1,_),(2,_),(14,_)] ?_
 refine aH 1 2 (Hb.mk fun hb=>?_) (Hb.mk fun hb=>?_)
 all_goals try (
 refine aw 1 ?_
 refine G2 ?_;refine Gs [(6,_)] ?_;refine Gt ?_
 first
  | exact ⟨by rw [decide_eq_false (fun e=>by have:=congrArg List.length e;simp only [List.length_map] at this;omega)],.refl _ _⟩
  | exact ⟨by rw [decide_eq_false (gX hy hz hyz)],nR.trans aN⟩
  | exact ⟨by rw [decide_eq_true (by rw [List.take_of_length_le (by omega),List.take_of_length_le (by omega)] at hn;exact hn)],az⟩
 skip)
 all_goals (refine aw 2 ?_)
 refine WC.skip ?_;refine Gn ?_;refine G3 ?_;refine WC.block ?_;refine WC.bD (X:=Nat) (fun x=>([(17,In (x:Int))]:Fr)) [(1,_),(2,_),(15,_),(16,_)] (fun k h'=>Ext No h h'∧k≤l.length∧l.length=m.length∧(l.take k).map aX.pl=(m.take k).map aX.pl) (fun k=>l.length - k) (0) ⟨rfl,rfl,rfl,rfl,rfl,trivial⟩ (by exact ⟨.refl _ _,Nat.zero_le _,by omega,by simp⟩) ?_
 rintro k h1 ⟨az,hk,hlen,hn⟩
 refine WC.sub [(17,_),(1,_),(2,_),(15,_),(16,_)] ⟨rfl,rfl,rfl,rfl,rfl,trivial⟩ ?_;refine G2 ?_;refine WC.seq ?_
 refine aH 3 4 (Hb.mk fun hb=>?_) (Hb.mk fun hb=>?_)
 all_goals try (
 refine aw 3 ?_
 refine WC.skip ?_
 skip)
 all_goals try (
 refine aw 4 ?_
 refine WC.exit ?_
 repeat' (with_reducible first | refine aU ?_ | refine aD rfl ?_ | refine aJ ?_ | refine aL ?_ | refine aS ?_)
 refine Br.out (i:=1000) ?_
 skip)
 all_goals (refine Gn ?_;first | refine Br.ab ?_ | refine WC.seq ?_)
 all_goals (first | refine Br.ab ?_ | refine WC.block ?_)
 all_goals (first | refine Br.ab ?_ | refine WC.sr ?_)
 all_goals (
  first
    | (refine Br.ab ?_)
    | (obtain ⟨bL,oL,hA,hbL,hat⟩:=Rd.at_ (hr.aq az) (by omega)
       obtain ⟨bM,oM,hB,hbM,hbt⟩:=Rd.at_ (hs.aq az) (by omega)
       obtain ⟨y,hy⟩:∃ y,l[k]?=some y:=⟨_,List.getElem?_eq_getElem (by omega)⟩
       obtain ⟨z,hz⟩:∃ y,m[k]?=some y:=⟨_,List.getElem?_eq_getElem (by omega)⟩
       have hyo:=ho y (List.mem_of_getElem? hy)
       have hzo:=hp z (List.mem_of_getElem? hz)
       have vi:At h1 bL (oL+k * 2) y.cells:=At.elem aX.len hat hy
       have DB:At h1 bM (oM+k * 2) z.cells:=At.elem aX.len hbt hz
       have EW:∀ v∈y.cells,v.oneCell'=true:=by obtain ⟨A1,c1,e1,_⟩:=hyo.1;simp [aX.cells,Value.oneCell',e1]
       have Cb:∀ v∈z.cells,v.oneCell'=true:=by obtain ⟨A1,c1,e1,_⟩:=hzo.1;simp [aX.cells,Value.oneCell',e1]))
 all_goals (first | refine Br.ab ?_ | refine WL.step (ak rfl) rfl rfl rfl ?_)
 all_goals (first | refine Br.ab ?_ | (refine WL.step (aE Tryz.underlying40 Tryz.sizeOf85 rfl rfl rfl (by omega) (by first | rfl | assumption)) rfl rfl rfl ?_))
 all_goals (first | refine Br.ab ?_ | (refine WL.step (ay Tryz.isAgg85 Tryz.sizeOf85 rfl rfl (by assumption)) rfl rfl rfl ?_))
 all_goals (
  first
    | (refine Br.ab ?_)
    | (refine WL.aj (an (fun w=>Tryz.zeroValue85 w)) rfl rfl rfl ?_
       rintro _ h2 ⟨b2,rfl,gg,bH,aI⟩))
 all_goals (refine Go ?_)
 all_goals (
  first
    | (refine Br.ab ?_)
    | (refine WL.ax (al Tryz.sizeOf85 rfl rfl rfl (by assumption) rfl EW) rfl rfl ?_
       rintro _ h3 ⟨bq,aQ⟩))
 all_goals (first | refine Br.ab ?_ | (have gw:Ext No h1 h3:=aI.trans' aQ (fun q hq e=>by omega)))
 all_goals (refine Gn ?_;first | refine Br.ab ?_ | refine Gs [(1,_),(2,_),(7,_),(8,_),(15,_),(16,_),(17,_)] ?_)
 all_goals (first | refine Br.ab ?_ | refine WC.sr ?_)
 all_goals (refine Go ?_;first | refine Br.ab ?_ | (refine WL.step (aE Tryz.underlying40 Tryz.sizeOf85 rfl rfl rfl (by omega) (by first | rfl | assumption)) rfl rfl rfl ?_))
 all_goals (first | refine Br.ab ?_ | (refine WL.step (ay Tryz.isAgg85 Tryz.sizeOf85 rfl rfl (by exact DB.ext gw aO)) rfl rfl rfl ?_))
 all_goals (
  first
    | (refine Br.ab ?_)
    | (refine WL.aj (an (fun w=>Tryz.zeroValue85 w)) rfl rfl rfl ?_
       rintro _ h4 ⟨b4,rfl,oG,bC,aW⟩))
 all_goals (
  first
    | (refine Br.ab ?_)
    | (refine WL.ax (al Tryz.sizeOf85 rfl rfl rfl (by assumption) rfl Cb) rfl rfl ?_
       rintro _ h5 ⟨bV,aM⟩))
 all_goals (
  first
    | (refine Br.ab ?_)
    | (have yV:Ext No h3 h5:=aW.trans' aM (fun q hq e=>by omega)
       have tU:=yV.obj bq aO
       have nR:=az.trans (gw.trans yV)))
 all_goals (refine Gn ?_;first | refine Br.ab ?_ | refine Gs [(1,_),(2,_),(8,_),(9,_),(15,_),(16,_),(17,_)] ?_)
 all_goals (first | refine Br.ab ?_ | refine WC.sr ?_)
 all_goals (refine Go ?_;first | refine Br.ab ?_ | (refine WL.step (ay Tryz.isAgg85 Tryz.sizeOf85 rfl rfl (by exact At.av tU)) rfl rfl rfl ?_))
 all_goals (first | refine Br.ab ?_ | (refine WL.step (ay Tryz.isAgg85 Tryz.sizeOf85 rfl rfl (by exact At.av bV)) rfl rfl rfl ?_))
 all_goals (
  first
    | (refine Br.ab ?_)
    | (refine WL.fC (vs:=[_,_]) rfl rfl Tryz.call241 rfl (EV y z (hyo.aq nR) (hzo.aq nR)) rfl rfl rfl ?_
       rintro _ h6 ⟨rfl,aN⟩))
 all_goals (
  first
    | (refine Br.ab ?_)
    | (by_cases hyz:y.pl=z.pl
       all_goals first | rw [decide_eq_true hyz] | rw [decide_eq_false hyz]))
 all_goals (refine Go ?_;first | refine Br.ab ?_ | refine Gs [(1,_),(2,_),(15,_),(16,_),(17,_),(30,_)] ?_)
 all_goals (first | refine Br.ab ?_ | refine aH 5 6 ?_ TT.mk)
 all_goals try (
 refine aw 5 ?_
 refine G2 ?_;refine Gs [(6,_)] ?_;refine Gt ?_
 first
  | exact ⟨by rw [decide_eq_false (fun e=>by have:=congrArg List.length e;simp only [List.length_map] at this;omega)],.refl _ _⟩
  | exact ⟨by rw [decide_eq_false (gX hy hz hyz)],nR.trans aN⟩
  | exact ⟨by rw [decide_eq_true (by rw [List.take_of_length_le (by omega),List.take_of_length_le (by omega)] at hn;exact hn)],az⟩
 skip)
 all_goals try (
 refine aw 6 ?_
 refine WC.skip ?_
 skip)
 all_goals (refine Gn ?_;first | refine Br.ab ?_ | refine WC.region ?_)
 all_goals (refine Go ?_;first | refine Br.ab ?_ | (exact ⟨k+1,⟨rfl,rfl,rfl,rfl,rfl,trivial⟩,(by exact ⟨nR.trans aN,by omega,hlen,map_take hn hy hz hyz⟩),(by omega)⟩))
 try (refine Br.mk (i:=1000) ?_)
 refine Gn ?_;refine Gs [] ?_;refine G2 ?_;refine Gt ?_
 first
  | exact ⟨by rw [decide_eq_false (fun e=>by have:=congrArg List.length e;simp only [List.length_map] at this;omega)],.refl _ _⟩
  | exact ⟨by rw [decide_eq_false (gX hy hz hyz)],nR.trans aN⟩
  | exact ⟨by rw [decide_eq_true (by rw [List.take_of_length_le (by omega),List.take_of_length_le (by omega)] at hn;exact hn)],az⟩
theorem _root_.Go.RK.ag.dec {P:Program} {k:FuncId} {args:Array Value} {h:ah} {p:Prop} [Decidable p] {K:ah→Prop} (hc:ag P k args h fun u h'=>u=.bool (decide p)∧K h') :
   ag P k args h fun u h'=>((u=.bool true∧p)∨(u=.bool false∧¬p))∧K h':=hc.mono fun v h' q=>by
 by_cases e:p
 · exact ⟨.inl ⟨by rw [q.1,decide_eq_true e],e⟩,q.2⟩
 · exact ⟨.inr ⟨by rw [q.1,decide_eq_false e],e⟩,q.2⟩
theorem _root_.Go.RK.ag.bl {P:Program} {k:FuncId} {args:Array Value} {h:ah} {b:Bool} {K:ah→Prop} (hc:ag P k args h fun u h'=>u=.bool b∧K h') :
   ag P k args h fun u h'=>((u=.bool true∧b=true)∨(u=.bool false∧b=false))∧K h':=hc.mono fun v h' q=>by
 cases b
 · exact ⟨.inr ⟨q.1,rfl⟩,q.2⟩
 · exact ⟨.inl ⟨q.1,rfl⟩,q.2⟩
theorem tV {h:ah} (a b:Bk) (ha:a.ok h) (hb:b.ok h) :
   ag Tryz.prog 201 ⟨[.agg ⟨a.cells⟩,.agg ⟨b.cells⟩]⟩ h fun u h'=>(∃ x,u=.bool x∧(x=true ↔ a.pl=b.pl))∧Ext No h h':=by
 obtain ⟨k1,s1,t1,n1,v1,x1,y1,Lm,l1,Oz,c1,OA,r1,Ln,f1⟩:=a
 obtain ⟨k2,s2,t2,n2,v2,x2,y2,Lo,l2,OB,c2,OC,r2,Lp,f2⟩:=b
 obtain ⟨⟨ao,hlo⟩,⟨ac,hlc⟩,ar,af,hlf⟩:=ha
 obtain ⟨⟨bo,hmo⟩,⟨bc,hmc⟩,br,bf,hmf⟩:=hb
 simp only at ao ac ar af bo bc br bf hlo hlc hlf hmo hmc hmf
 obtain ⟨Ao,co,rfl,_⟩:=id ao
 obtain ⟨Bo,do_,rfl,_⟩:=id bo
 dsimp only [Bk.cells]
 have hpc:(k1=k2∧s1=s2∧x1=x2∧y1=y2)∨k1 ≠ k2∨(k1=k2∧s1 ≠ s2)∨(k1=k2∧s1=s2∧x1 ≠ x2)∨(k1=k2∧s1=s2∧x1=x2∧y1 ≠ y2):=by omega
 by_cases ht:t1=t2∧n1=n2∧v1=v2
 all_goals try obtain ⟨rfl,rfl,rfl⟩:=ht
 all_goals rcases hpc with ⟨rfl,rfl,rfl,rfl⟩ | q | ⟨rfl,q⟩ | ⟨rfl,rfl,q⟩ | ⟨rfl,rfl,rfl,q⟩
 all_goals
   refine calls [(0,_),(1,_)] Tryz.func201 rfl Tryz.ntmps201 rfl ⟨rfl,rfl,trivial⟩ ?_
   all_goals (refine WC.sr ?_;refine WL.aj (aG rfl) rfl rfl rfl ?_;rintro _ h1 ⟨b1,rfl,bR,aR,az⟩;refine WL.aj (aG rfl) rfl rfl rfl ?_;rintro _ h2 ⟨b2,rfl,gg,bH,aI⟩;have rv:=aI.obj aR aO;have hx:=az.trans aI;refine Go ?_;refine G2 ?_;refine Ld ?_;refine Go ?_;refine Ld ?_;refine Go ?_;refine Ld ?_;refine WL.step (aF (vs:=[_,_,_]) (cs:=[_,_,_]) (fun | [a0,a1,a2]=>[a0,a1,a2] | _=>[]) rfl rfl (by kernel_rfl)) rfl rfl rfl (Go ?_);refine Ld ?_;refine Go ?_;refine Ld ?_;refine Go ?_;refine Ld ?_;refine WL.step (aF (vs:=[_,_,_]) (cs:=[_,_,_]) (fun | [a0,a1,a2]=>[a0,a1,a2] | _=>[]) rfl rfl (by kernel_rfl)) rfl rfl rfl ?_;first | (refine WL.step (bN.fv rfl (pN (us:=[t1,n1,v1]) (vs:=[t1,n1,v1]) Tryz.underlying251 (show Tryz.prog.info? 9=some Tryz.t9 by kernel_rfl) Tryz.underlying9 (by kernel_rfl) (by kernel_rfl) (by kernel_rfl) rfl rfl rfl rfl)) rfl rfl rfl ?_) | (refine WL.step (bN.fy (fun e=>ht (by simpa using e)) (pN (us:=[t1,n1,v1]) (vs:=[t2,n2,v2]) Tryz.underlying251 (show Tryz.prog.info? 9=some Tryz.t9 by kernel_rfl) Tryz.underlying9 (by kernel_rfl) (by kernel_rfl) (by kernel_rfl) rfl rfl rfl rfl)) rfl rfl rfl ?_))
   all_goals (refine Go ?_;refine Gs [(2,_),(3,_),(5,_)] ?_;refine G2 ?_;refine Ld ?_;refine Go ?_;refine Ld ?_;refine Go ?_;refine bK 28 ?_ TT.mk;refine Gg ?_;first | refine WL.pass rfl rfl rfl ?_ | refine Ld ?_)
   all_goals (refine Gg ?_;first | refine WL.pass rfl rfl rfl ?_ | refine Ld ?_)
   all_goals (refine Gg ?_;refine Go ?_;refine bK 35 ?_ TT.mk;refine Gg ?_;first | refine WL.pass rfl rfl rfl ?_ | refine Ld ?_)
   all_goals (refine Gg ?_;first | refine WL.pass rfl rfl rfl ?_ | refine Ld ?_)
   all_goals (refine Gg ?_;refine Go ?_;refine bK 42 ?_ TT.mk;refine Gg ?_;first | refine WL.pass rfl rfl rfl ?_ | refine Ld ?_)
   all_goals (refine Gg ?_;first | refine WL.pass rfl rfl rfl ?_ | refine Ld ?_)
   all_goals (refine Gg ?_;refine Go ?_;refine Gs [(2,_),(3,_),(5,_),(6,_)] ?_;refine G2 ?_;refine Ld ?_;refine Go ?_;refine Ld ?_;refine WL.call (vs:=[_,_]) rfl Tryz.call188 rfl ((iT l1 l2 (ao.aq hx) (bo.aq hx) hlo).dec) rfl rfl rfl ?_;rintro _ _ ⟨⟨rfl,ho⟩ | ⟨rfl,ho⟩,rfl⟩)
   all_goals (refine Go ?_;refine bK 54 ?_ TT.mk;refine Gg ?_;first | refine WL.pass rfl rfl rfl ?_ | refine Ld ?_)
   all_goals (refine Gg ?_;first | refine WL.pass rfl rfl rfl ?_ | refine Ld ?_)
   all_goals (
    first
      | (refine WL.pass rfl rfl rfl ?_)
      | (refine WL.call (vs:=[_,_]) rfl Tryz.call239 rfl ((yT c1 c2 (ac.aq hx) (bc.aq hx) hlc hmc).dec) rfl rfl rfl ?_
         rintro _ _ ⟨⟨rfl,hc⟩ | ⟨rfl,hc⟩,rfl⟩))
   all_goals (refine Go ?_;refine bK 61 ?_ TT.mk;refine Gg ?_;first | refine WL.pass rfl rfl rfl ?_ | refine Ld ?_)
   all_goals (refine Gg ?_;first | refine WL.pass rfl rfl rfl ?_ | refine Ld ?_)
   all_goals (
    first
      | (refine WL.pass rfl rfl rfl ?_)
      | (refine WL.call (vs:=[_,_]) rfl Tryz.call240 rfl ((yU f1 f2 (af.aq hx) (bf.aq hx) hlf hmf).dec) rfl rfl rfl ?_
         rintro _ _ ⟨⟨rfl,hf⟩ | ⟨rfl,hf⟩,rfl⟩))
   all_goals (refine Go ?_;refine Gs [(2,_),(3,_),(5,_),(6,_),(7,_)] ?_;refine G2 ?_;refine bK 69 ?_ TT.mk;refine Gg ?_;refine Go ?_;refine bK 72 ?_ TT.mk;refine Gg ?_;refine Go ?_;refine bK 75 ?_ TT.mk;refine Gg ?_;first | refine WL.pass rfl rfl rfl ?_ | refine Ld ?_)
   all_goals (refine Gg ?_;first | refine WL.pass rfl rfl rfl ?_ | refine Ld ?_)
   all_goals (
    first
      | (refine WL.pass rfl rfl rfl ?_)
      | (refine WL.call (vs:=[_,_,_]) rfl Tryz.call189 rfl (tT _ _ (ar.aq hx) (br.aq hx)) rfl rfl rfl ?_
         rintro _ h3 ⟨rfl,aQ⟩))
   all_goals (refine Go ?_;refine Gs [(4,_)] ?_;refine Gt ?_)
   all_goals (
    first
     | (refine ⟨⟨false,rfl,⟨fun z=>(by cases z),fun z=>?_⟩⟩,hx⟩
        exfalso
        simp only [Bk.pl,Prod.mk.injEq] at z
        obtain ⟨z1,z2,z3,z4,z5,z6,z7,z8,z9,OD,MK⟩:=z
        first | exact ht ⟨z3,z4,z5⟩ | exact q z1 | exact q z2 | exact q z6 | exact q z7 | exact ho z8 | exact hc z9 | exact hf MK)
     | (refine ⟨⟨_,rfl,?_⟩,hx.trans aQ⟩
        simp [Bk.pl,ho,hc,hf]))
def kY (k : Int) : Prop := k = 82 ∨ k = 83 ∨ k = 75 ∨ k = 90 ∨ k = 49 ∨ k = 50 ∨ k = 51 ∨ k = 110 ∨ k = 115 ∨ k = 73 ∨ k = 67 ∨ k = 68 ∨ k = 84 ∨ k = 116 ∨ k = 69 ∨ k = 78
theorem oJ (k : UInt8) : pO.contains k = true ↔ kY (k.toNat : Int) := by
 simp only [pO, List.contains_cons, List.contains_nil, Bool.or_eq_true, beq_iff_eq, ← UInt8.toNat_inj, kY, Bool.or_false]
 simp
 omega
theorem wJ {h : ah} (k : Int) (h0 : 0 ≤ k ∧ k ≤ 255) : ag Tryz.prog 191 ⟨[.int .u8 k]⟩ h fun u h' => (∃ x, u = .bool x ∧ (x = true ↔ kY k)) ∧ Ext No h h' := by
 obtain ⟨c, rfl⟩ : ∃ c : UInt8, k = (c.toNat : Int) := ⟨UInt8.ofNat k.toNat, by rw [UInt8.toNat_ofNat']; omega⟩
 have e1 := Lib.contains_iff_indexByte [82, 83, 75, 90, 49, 50, 51, 110, 115, 73, 67, 68, 84, 116, 69, 78] c
 refine calls [(0, _)] Tryz.func191 rfl Tryz.ntmps191 rfl ⟨rfl, trivial⟩ ?_
 refine G2 ?_; refine WC.sr ?_; refine WL.aj (au (vs := [_, _, _, _, _, _, _, _, _, _, _, _, _, _, _, _]) (cs := [_, _, _, _, _, _, _, _, _, _, _, _, _, _, _, _]) (fun | [a0, a1, a2, a3, a4, a5, a6, a7, a8, a9, gY, yq, a12, Ex, Ey, Ez] => [a0, a1, a2, a3, a4, a5, a6, a7, a8, a9, gY, yq, a12, Ex, Ey, Ez] | _ => []) Tryz.underlying23 rfl rfl (by kernel_rfl)) rfl rfl rfl ?_
 rintro _ h1 ⟨b1, rfl, bR, aR, az⟩
 refine WL.aj (gV Tryz.underlying23 Tryz.underlying5 rfl (by assumption)) rfl rfl rfl ?_
 rintro _ h2 ⟨rfl, ⟨z2, bH⟩, aI⟩
 refine Go ?_; refine WL.call (vs := [_, _]) rfl Tryz.call126 rfl (dz [82, 83, 75, 90, 49, 50, 51, 110, 115, 73, 67, 68, 84, 116, 69, 78] c (bx bH rfl) (by simp)) rfl rfl rfl ?_
 rintro _ hz ⟨rfl, _⟩
 subst hz
 refine WL.step (dv rfl rfl) rfl rfl rfl (Go ?_); refine Gs [(2, _)] ?_; refine Gt ?_
 exact ⟨⟨_, rfl, by rw [← e1]; exact oJ c⟩, az.trans' aI (fun q hq e => by omega)⟩
theorem pY {h : ah} (s : List UInt8) (hm : s.length ≤ 1000000) : ag Tryz.prog 104 ⟨[St s]⟩ h fun u h' => u = .bool (aY s) ∧ h' = h := by
 have hci : aY s = true ↔ ∀ c ∈ s, c ≠ 0 := by
   unfold aY
   rw [Bool.not_eq_true', ← Bool.not_eq_true, List.contains_iff_mem]
   exact ⟨fun z c hc e => z (e ▸ hc), fun z hc => z 0 hc rfl⟩
 refine calls [(0, _)] Tryz.func104 rfl Tryz.ntmps104 rfl ⟨rfl, trivial⟩ ?_
 refine G2 ?_; refine G3 ?_; refine WC.block ?_; refine WC.bD (X := Nat) (fun x => ([(3, In (x : Int))] : Fr)) [(0, _)] (fun k h' => h = h' ∧ k ≤ s.length ∧ ∀ c ∈ s.take k, c ≠ 0) (fun k => s.length - k) (0) ⟨rfl, rfl, trivial⟩ (by exact ⟨rfl, Nat.zero_le _, fun c hc => by cases hc⟩) ?_
 rintro k h2 ⟨e, hk, hn⟩
 subst e
 refine WC.sub [(3, _), (0, _)] ⟨rfl, rfl, trivial⟩ ?_; refine G3 ?_
 refine aH 1 2 (Hb.mk fun hb => ?_) (Hb.mk fun hb => ?_)
 all_goals try (
 refine aw 1 ?_
 refine WC.skip ?_
 skip)
 all_goals try (
 refine aw 2 ?_
 refine WC.exit ?_
 repeat' (with_reducible first | refine aU ?_ | refine aD rfl ?_ | refine aJ ?_ | refine aL ?_ | refine aS ?_)
 refine Br.out (i := 1000) ?_
 skip)
 all_goals (refine Gn ?_; first | refine Br.ab ?_ | refine Gs [(0, _), (3, _)] ?_)
 all_goals (first | refine Br.ab ?_ | refine WC.seq ?_)
 all_goals (first | refine Br.ab ?_ | refine WC.block ?_)
 all_goals (first | refine Br.ab ?_ | refine WC.seq ?_)
 all_goals (first | refine Br.ab ?_ | (obtain ⟨y, hy⟩ : ∃ y, s[k]? = some y := ⟨_, List.getElem?_eq_getElem (by omega)⟩))
 all_goals (first | refine Br.ab ?_ | refine WC.region ?_)
 all_goals (refine Go ?_; first | refine Br.ab ?_ | (refine WL.step (cP Tryz.underlying9 rfl rfl (by omega) (by assumption)) rfl rfl rfl ?_))
 all_goals (refine Go ?_; first | refine Br.ab ?_ | (refine aH 3 4 (Hb.mk fun hb => ?_) (Hb.mk fun hb => ?_)))
 all_goals try (
 refine aw 3 ?_
 refine G2 ?_; refine Gs [(2, _)] ?_; refine Gt ?_
 first
  | (refine ⟨congrArg Value.bool ?_, rfl⟩; symm; rw [hci]; rw [List.take_of_length_le (by omega)] at hn; exact hn)
  | (refine ⟨congrArg Value.bool ?_, rfl⟩; cases hq : aY s; rfl; exact absurd (UInt8.toNat_inj.1 (by simpa using hb)) (hci.1 hq _ (List.mem_of_getElem? hy)))
 skip)
 all_goals try (
 refine aw 4 ?_
 refine WC.skip ?_
 skip)
 all_goals (refine Gn ?_; first | refine Br.ab ?_ | refine Gs [(0, _), (3, _)] ?_)
 all_goals (first | refine Br.ab ?_ | refine WC.region ?_)
 all_goals (refine Go ?_; first | refine Br.ab ?_ | (exact ⟨k + 1, ⟨rfl, rfl, trivial⟩, (by exact ⟨rfl, by omega, fun c hc => by rw [List.take_add_one, hy] at hc; simp only [Option.toList_some, List.mem_append, List.mem_singleton] at hc; rcases hc with hc | rfl; exact hn c hc; exact (fun e => by subst e; simp at *)⟩), (by omega)⟩))
 try (refine Br.mk (i := 1000) ?_)
 refine Gn ?_; refine Gs [] ?_; refine G2 ?_; refine Gt ?_
 first
  | (refine ⟨congrArg Value.bool ?_, rfl⟩; symm; rw [hci]; rw [List.take_of_length_le (by omega)] at hn; exact hn)
  | (refine ⟨congrArg Value.bool ?_, rfl⟩; cases hq : aY s; rfl; exact absurd (UInt8.toNat_inj.1 (by simpa using hb)) (hci.1 hq _ (List.mem_of_getElem? hy)))
theorem rV {α : Type} {p : α → Prop} {l : List α} {k : Nat} {y : α} (hy : l[k]? = some y) (hn : ∀ c ∈ l.take k, p c) (hp : p y) : ∀ c ∈ l.take (k + 1), p c := fun c hc => by
 rw [List.take_add_one, hy] at hc
 simp only [Option.toList_some, List.mem_append, List.mem_singleton] at hc
 rcases hc with hc | rfl
 · exact hn c hc
 · exact hp
theorem yW {h : ah} {v : Value} (l : List aX) (hl : cF h v l) (hm : l.length ≤ 65535) (ht : ∀ c ∈ l, c.bytes.length ≤ 1048576) :
   ag Tryz.prog 109 ⟨[v]⟩ h fun u h' => u = .bool (decide (∀ c ∈ l, c.okB)) ∧ h' = h := by
 obtain ⟨hr, ⟨_, A, c, rfl, _⟩, ho⟩ := hl
 refine calls [(0, _)] Tryz.func109 rfl Tryz.ntmps109 rfl ⟨rfl, trivial⟩ ?_
 refine G2 ?_; refine G3 ?_
 refine aH 1 2 ?_ TT.mk
 all_goals (refine aw 2 ?_)
 refine WC.skip ?_; refine Gn ?_; refine Gs [(0, _)] ?_; refine G3 ?_; refine WC.block ?_; refine WC.bD (X := Nat) (fun x => ([(3, In (x : Int))] : Fr)) [(0, _)] (fun k h' => h' = h ∧ k ≤ l.length ∧ ∀ c ∈ l.take k, c.okB) (fun k => l.length - k) (0) ⟨rfl, rfl, trivial⟩ (by exact ⟨rfl, Nat.zero_le _, by simp⟩) ?_
 rintro k h1 ⟨hz, hk, hn⟩
 subst h1
 refine WC.sub [(3, _), (0, _)] ⟨rfl, rfl, trivial⟩ ?_; refine G3 ?_
 refine aH 3 4 (Hb.mk fun hb => ?_) (Hb.mk fun hb => ?_)
 all_goals try (
 refine aw 3 ?_
 refine WC.skip ?_
 skip)
 all_goals try (
 refine aw 4 ?_
 refine WC.exit ?_
 repeat' (with_reducible first | refine aU ?_ | refine aD rfl ?_ | refine aJ ?_ | refine aL ?_ | refine aS ?_)
 refine Br.out (i := 1000) ?_
 skip)
 all_goals (refine Gn ?_; first | refine Br.ab ?_ | refine Gs [(0, _), (3, _)] ?_)
 all_goals (first | refine Br.ab ?_ | refine WC.seq ?_)
 all_goals (first | refine Br.ab ?_ | refine WC.block ?_)
 all_goals (first | refine Br.ab ?_ | refine WC.sr ?_)
 all_goals (
  first
    | (refine Br.ab ?_)
    | (obtain ⟨bL, oL, hA, hbL, hat⟩ := Rd.at_ hr (by omega)
       obtain ⟨y, hy⟩ : ∃ y, l[k]? = some y := ⟨_, List.getElem?_eq_getElem (by omega)⟩
       have hyl := ht y (List.mem_of_getElem? hy)
       have hyo := (ho y (List.mem_of_getElem? hy)).1
       have vi : At h bL (oL + k * 2) y.cells := At.elem aX.len hat hy
       obtain ⟨yn, yv, yb⟩ := y
       dsimp only [aX.cells] at vi hyl hyo
       obtain ⟨yA, yc, rfl, _⟩ := id hyo
       cases yn
       all_goals by_cases c2 : yb.length = 0))
 all_goals (first | refine Br.ab ?_ | refine WL.step (ak rfl) rfl rfl rfl ?_)
 all_goals (refine Go ?_; first | refine Br.ab ?_ | (refine WL.step (aE Tryz.underlying40 Tryz.sizeOf85 rfl rfl rfl (by omega) (by first | rfl | assumption)) rfl rfl rfl ?_))
 all_goals (refine Go ?_; first | refine Br.ab ?_ | (refine WL.ld rfl (by first | exact vi.get 0 rfl rfl | assumption) rfl rfl rfl ?_))
 all_goals (refine Go ?_; first | refine Br.ab ?_ | refine bK 18 ?_ TT.mk)
 all_goals (refine Gg ?_; first | refine Br.ab ?_ | (first | (refine WL.pass rfl rfl rfl ?_) | (refine WL.step (aE Tryz.underlying40 Tryz.sizeOf85 rfl rfl rfl (by omega) (by first | rfl | assumption)) rfl rfl rfl ?_)))
 all_goals (refine Gg ?_; first | refine Br.ab ?_ | (first | (refine WL.pass rfl rfl rfl ?_) | (refine WL.ld rfl (by first | exact vi.get 1 rfl rfl | assumption) rfl rfl rfl ?_)))
 all_goals (refine Gg ?_; refine Go ?_; first | refine Br.ab ?_ | refine bK 27 ?_ TT.mk)
 all_goals (refine Gg ?_; first | refine Br.ab ?_ | (first | (refine WL.pass rfl rfl rfl ?_) | (refine WL.step (aE Tryz.underlying40 Tryz.sizeOf85 rfl rfl rfl (by omega) (by first | rfl | assumption)) rfl rfl rfl ?_)))
 all_goals (refine Gg ?_; first | refine Br.ab ?_ | (first | (refine WL.pass rfl rfl rfl ?_) | (refine WL.ld rfl (by first | exact vi.get 1 rfl rfl | assumption) rfl rfl rfl ?_)))
 all_goals (refine Gg ?_; refine Go ?_; first | refine Br.ab ?_ | refine Gs [(0, _), (3, _), (35, _)] ?_)
 all_goals (first | refine Br.ab ?_ | refine aH 5 6 ?_ TT.mk)
 all_goals try (
 refine aw 5 ?_
 refine G2 ?_; refine Gt ?_
 first
  | exact ⟨congrArg Value.bool (decide_eq_true (by rw [List.take_of_length_le (by omega)] at hn; exact hn)).symm, rfl⟩
  | (refine ⟨congrArg Value.bool (decide_eq_false (fun z => ?_)).symm, rfl⟩
     obtain ⟨d1, d2⟩ := z _ (List.mem_of_getElem? hy)
     first | exact c2 (d1 rfl) | (exfalso; omega))
 skip)
 all_goals try (
 refine aw 6 ?_
 all_goals (refine WC.skip ?_)
 skip)
 all_goals (refine Gn ?_; first | refine Br.ab ?_ | refine WC.region ?_)
 all_goals (refine Go ?_; first | refine Br.ab ?_ | (exact ⟨k + 1, ⟨rfl, rfl, trivial⟩, (by exact ⟨rfl, by omega, rV hy hn ⟨(fun z => by first | exact c2 | cases z), hyl⟩⟩), (by omega)⟩))
 try (refine Br.mk (i := 1000) ?_)
 refine Gn ?_; refine Gs [] ?_; refine G2 ?_; refine Gt ?_
 first
  | exact ⟨congrArg Value.bool (decide_eq_true (by rw [List.take_of_length_le (by omega)] at hn; exact hn)).symm, rfl⟩
  | (refine ⟨congrArg Value.bool (decide_eq_false (fun z => ?_)).symm, rfl⟩
     obtain ⟨d1, d2⟩ := z _ (List.mem_of_getElem? hy)
     first | exact c2 (d1 rfl) | (exfalso; omega))
structure Bk.Hn (b:Bk):Prop where
 oids:b.oids.length≤100
 cols:b.cols.length≤100
 row:b.row.length≤100
 fields:b.fields.length≤100
 names:∀ c∈b.cols,c.nm.length≤1000
 cells:∀ c∈b.row,c.bytes.length≤1000
 texts:∀ f∈b.fields,f.t.length≤200000
 tag:b.tag.length≤1000
 name:b.name.length≤1000
 value:b.value.length≤1000
instance (b:Bk):Decidable b.mb:=by unfold Bk.mb;exact inferInstance
theorem yX (k st:Int):k ≠ 90∨(k=90∧st=73)∨(k=90∧st=84)∨(k=90∧st=69)∨(k=90∧st ≠ 73∧st ≠ 84∧st ≠ 69):=by omega
theorem tW {h:ah} (b:Bk):ag Tryz.prog 200 ⟨[.agg ⟨b.cells⟩]⟩ h fun u h'=>u=.bool (decide b.mb)∧Ext No h h':=by
 obtain ⟨k,st,t,n,v,x,y,vo,lo,vc,lc,vr,lr,vf,lf⟩:=b
 dsimp only [Bk.cells]
 rcases yX k st with q | ⟨q,q1⟩ | ⟨q,q1⟩ | ⟨q,q1⟩ | ⟨q,q1,q2,q3⟩
 all_goals
   refine calls [(0,_)] Tryz.func200 rfl Tryz.ntmps200 rfl ⟨rfl,trivial⟩ ?_
   all_goals (refine WC.sr ?_;refine WL.aj (aG rfl) rfl rfl rfl ?_;rintro _ h1 ⟨b1,rfl,bR,aR,az⟩;refine Go ?_;refine G2 ?_;refine Ld ?_;refine Go ?_;refine bK 6 ?_ TT.mk;refine Gg ?_;first | refine WL.pass rfl rfl rfl ?_ | refine Ld ?_)
   all_goals (refine Gg ?_;refine Go ?_;refine bK 11 ?_ TT.mk;refine Gg ?_;first | refine WL.pass rfl rfl rfl ?_ | refine Ld ?_)
   all_goals (refine Gg ?_;refine Go ?_;refine bK 16 ?_ TT.mk;refine Gg ?_;first | refine WL.pass rfl rfl rfl ?_ | refine Ld ?_)
   all_goals (refine Gg ?_;refine Go ?_;refine Gs [(2,_)] ?_;refine Gt ?_)
   all_goals (
    refine ⟨congrArg Value.bool ?_,az⟩
    first
     | exact (decide_eq_true (p:=Bk.mb _) (by unfold Bk.mb;simp only;omega)).symm
     | exact (decide_eq_false (p:=Bk.mb _) (by unfold Bk.mb;simp only;omega)).symm)
theorem yY {k:Int} (h0:0≤k∧k≤255):(∃ c:UInt8,Value.int .u8 k=By c∧pO.contains c=true) ↔ kY k:=by
 obtain ⟨c,rfl⟩:∃ c:UInt8,k=(c.toNat:Int):=⟨UInt8.ofNat k.toNat,by rw [UInt8.toNat_ofNat'];omega⟩
 rw [← oJ]
 constructor
 · rintro ⟨d,e,hd⟩
   have:c=d:=by simp only [By,Value.int.injEq,true_and] at e;exact UInt8.toNat_inj.1 (by omega)
   rw [this];exact hd
 · exact fun hd=>⟨c,rfl,hd⟩
theorem dF {α:Type} {p:α→Prop} [DecidablePred p] {l:List α}:(l.all fun c=>decide (p c))=true ↔ ∀ c∈l,p c:=by simp
theorem mv {l:List Int}:l.all kX=true ↔ ∀ n∈l,0≤n∧n≤4294967295:=by simp [kX]
theorem fZ {n:Int}:kX n=true ↔ 0≤n∧n≤4294967295:=by simp [kX]
theorem lT {h:ah} (b:Bk) (hb:b.ok h) (JJ:0≤b.kind∧b.kind≤255) (hmd:b.Hn) :
   ag Tryz.prog 139 ⟨[.agg ⟨b.cells⟩]⟩ h fun u h'=>(∃ e,u=In e∧(e=0 ↔ b.may))∧Ext No h h':=by
 have hof:=fun {h':ah} (hx:Ext No h h')=>BP (h:=h') b (hb.aq hx)
 have hst:=fun {h':ah}=>(tW (h:=h') b).dec
 have hsa:=fun {h':ah} (hx:Ext No h h')=>tV (h:=h') b (sY b) (hb.aq hx) (Es (hb.aq hx))
 have hmk:=yY JJ
 have hyes:kY b.kind→aY b.tag=true→aY b.name=true→aY b.value=true→(∀ c∈b.cols,c.okB)→(∀ c∈b.fields,c.okB)→(∀ c∈b.row,c.okB)→(∀ n∈b.oids,0≤n∧n≤4294967295)→(0≤b.n∧b.n≤4294967295)→(0≤b.m∧b.m≤4294967295)→b.mb→b.pl=(sY b).pl→b.may:=fun a1 a2 a3 a4 a5 a6 a7 a8 a9 gY yq a12 =>
   ⟨hmk.2 a1,a2,a3,a4,⟨by have:=hmd.cols;omega,a5⟩,⟨by have:=hmd.fields;omega,a6⟩,⟨by have:=hmd.row;omega,a7⟩,⟨by have:=hmd.oids;omega,a8⟩,a9,gY,yq,a12.symm⟩
 have hnk:¬ kY b.kind→¬ b.may:=fun a z=>a (hmk.1 z.kind)
 have BR:aY b.tag=false→¬ b.may:=fun a z=>by rw [z.tag] at a;cases a
 have EX:aY b.name=false→¬ b.may:=fun a z=>by rw [z.name] at a;cases a
 have Ho:aY b.value=false→¬ b.may:=fun a z=>by rw [z.value] at a;cases a
 have Hp:(b.cols.all fun c=>decide c.okB)=false→¬ b.may:=fun a z=>by rw [dF.2 z.cols.2] at a;cases a
 have Gz:(b.fields.all fun c=>decide c.okB)=false→¬ b.may:=fun a z=>by rw [dF.2 z.fields.2] at a;cases a
 have Hq:(b.row.all fun c=>decide c.okB)=false→¬ b.may:=fun a z=>by rw [dF.2 z.row.2] at a;cases a
 have Hr:b.oids.all kX=false→¬ b.may:=fun a z=>by rw [mv.2 z.oids.2] at a;cases a
 have xH:kX b.n=false→¬ b.may:=fun a z=>by rw [fZ.2 z.n] at a;cases a
 have yZ:kX b.m=false→¬ b.may:=fun a z=>by rw [fZ.2 z.m] at a;cases a
 have y6:¬ b.mb→¬ b.may:=fun a z=>a z.st
 have la:¬ b.pl=(sY b).pl→¬ b.may:=fun a z=>a z.own.symm
 generalize hob:sY b=ob at hof hsa hyes la
 generalize b.may=BM at hyes hnk BR EX Ho Hp Gz Hq Hr xH yZ y6 la ⊢
 obtain ⟨ho,hc,hr,hf⟩:=hb
 obtain ⟨JK,JL,I1,I2,Hs,Ht,I3,JM,JN,EY⟩:=hmd
 generalize hPL:b.pl=PL at hsa hyes la
 generalize hST:b.mb=ST at hst hyes y6
 obtain ⟨k,st,t,n,v,x,y,vo,lo,vc,lc,vr,lr,vf,lf⟩:=b
 simp only at JJ ho hc hr hf JK JL I1 I2 Hs Ht I3 JM JN EY hyes hnk BR EX Ho Hp Gz Hq Hr xH yZ
 dsimp only [Bk.cells] at hof hst hsa ⊢
 refine calls [(0,_)] Tryz.func139 rfl Tryz.ntmps139 rfl ⟨rfl,trivial⟩ ?_
 refine WC.sr ?_;refine WL.aj (aG rfl) rfl rfl rfl ?_
 rintro _ g1 ⟨b1,rfl,bR,aR,az⟩
 refine Go ?_;refine G3 ?_;refine Ld ?_;refine WL.call (vs:=[_]) rfl Tryz.call191 rfl (wJ k JJ) rfl rfl rfl ?_
 rintro _ g2 ⟨⟨kx,rfl,hkx⟩,aI⟩
 have bH:=aI.obj aR aO
 have ia:=az.trans aI
 cases kx
 all_goals (refine Go ?_;refine Gs [(1,_),(8,_)] ?_;refine aH 1 2 ?_ TT.mk)
 all_goals try (
 refine aw 1 ?_
 refine G2 ?_;refine Gt ?_
 first
  | exact ⟨⟨0,rfl,⟨fun _=>hyes (hkx.1 rfl) c1 c2 c3 (dF.1 c4) (dF.1 c5) (dF.1 c6) (mv.1 c7) (fZ.1 c8) (fZ.1 c9) Cd (hsx.1 rfl),fun _=>rfl⟩⟩,lO.trans bZ⟩
  | (refine ⟨⟨_,rfl,⟨fun z=>absurd z (by decide),fun z=>absurd z ?_⟩⟩,?_⟩
     · first | exact hnk (fun z=>Bool.false_ne_true (hkx.2 z)) | exact BR c1 | exact EX c2 | exact Ho c3 | exact Hp c4 | exact Gz c5 | exact Hq c6 | exact Hr c7 | exact xH c8 | exact yZ c9 | exact y6 Cd | exact la (fun z=>Bool.false_ne_true (hsx.2 z))
     · first | exact lO.trans bZ | exact DH | exact I4 | exact nR | exact oH | exact ma | exact ia)
 skip)
 all_goals (refine aw 2 ?_)
 refine WC.skip ?_;refine Gn ?_;refine G2 ?_;refine Ld ?_;refine WL.call (vs:=[_]) rfl Tryz.call187 rfl ((fq t).bl) rfl rfl rfl ?_
 rintro _ h9 ⟨⟨rfl,c1⟩ | ⟨rfl,c1⟩,lU⟩
 all_goals subst h9
 all_goals (refine Go ?_;refine bK 12 ?_ TT.mk;refine Gg ?_;first | refine WL.pass rfl rfl rfl ?_ | refine Ld ?_)
 all_goals (
  first
    | (refine WL.pass rfl rfl rfl ?_)
    | (refine WL.call (vs:=[_]) rfl Tryz.call187 rfl ((fq n).bl) rfl rfl rfl ?_
       rintro _ h9 ⟨⟨rfl,c2⟩ | ⟨rfl,c2⟩,lU⟩
       all_goals subst h9))
 all_goals (refine Go ?_;refine bK 17 ?_ TT.mk;refine Gg ?_;first | refine WL.pass rfl rfl rfl ?_ | refine Ld ?_)
 all_goals (
  first
    | (refine WL.pass rfl rfl rfl ?_)
    | (refine WL.call (vs:=[_]) rfl Tryz.call187 rfl ((fq v).bl) rfl rfl rfl ?_
       rintro _ h9 ⟨⟨rfl,c3⟩ | ⟨rfl,c3⟩,lU⟩
       all_goals subst h9))
 all_goals (refine Go ?_;refine Gs [(1,_),(3,_)] ?_;refine G2 ?_;refine Ld ?_)
 all_goals (
  refine WL.call (vs:=[_,_]) rfl Tryz.call192 rfl ((tN lc (fun c=>decide c.okB) (hc.1.aq ia) (by omega) Tryz.call193 (fun c hc _ _=>tR c)).bl) rfl rfl rfl ?_
  rintro _ g3 ⟨⟨rfl,c4⟩ | ⟨rfl,c4⟩,aQ⟩
  all_goals have bq:=aQ.obj bH aO
  all_goals have ma:=ia.trans aQ)
 all_goals (refine Go ?_;refine bK 25 ?_ TT.mk;refine Gg ?_;first | refine WL.pass rfl rfl rfl ?_ | refine Ld ?_)
 all_goals (
  first
    | (refine WL.pass rfl rfl rfl ?_)
    | (refine WL.call (vs:=[_,_]) rfl Tryz.call194 rfl ((tP lf (fun c=>decide c.okB) (hf.1.aq ma) (by omega) Tryz.call195 (fun c hc _ _=>wI c)).bl) rfl rfl rfl ?_
       rintro _ g4 ⟨⟨rfl,c5⟩ | ⟨rfl,c5⟩,aW⟩
       all_goals have bC:=aW.obj bq aO
       all_goals have oH:=ma.trans aW))
 all_goals (refine Go ?_;refine bK 30 ?_ TT.mk;refine Gg ?_;first | refine WL.pass rfl rfl rfl ?_ | refine Ld ?_)
 all_goals (
  first
    | (refine WL.pass rfl rfl rfl ?_)
    | (refine WL.call (vs:=[_,_]) rfl Tryz.call196 rfl ((tQ lr (fun c=>decide c.okB) (hr.1.aq oH) (by omega) Tryz.call197 (fun c hc _ _=>yQ c (hr.2.2 c hc) (by have:=Ht c hc;omega))).bl) rfl rfl rfl ?_
       rintro _ g5 ⟨⟨rfl,c6⟩ | ⟨rfl,c6⟩,aM⟩
       all_goals have bV:=aM.obj bC aO
       all_goals have nR:=oH.trans aM))
 all_goals (refine Go ?_;refine bK 35 ?_ TT.mk;refine Gg ?_;first | refine WL.pass rfl rfl rfl ?_ | refine Ld ?_)
 all_goals (
  first
    | (refine WL.pass rfl rfl rfl ?_)
    | (refine WL.call (vs:=[_,_]) rfl Tryz.call198 rfl ((tS lo (ho.1.aq nR) (by omega)).bl) rfl rfl rfl ?_
       rintro _ g6 ⟨⟨rfl,c7⟩ | ⟨rfl,c7⟩,aN⟩
       all_goals have bX:=aN.obj bV aO
       all_goals have I4:=nR.trans aN))
 all_goals (refine Go ?_;refine Gs [(1,_),(3,_),(4,_)] ?_;refine WC.seq ?_;refine WC.seq ?_;refine WC.bW (fun h'=>h'[b1]?=some (.cells ⟨[.int .u8 k,.int .u8 st,St t,St n,St v,In x,In y,vo,vc,vr,vf]⟩ 140 (0,0))) 30 30 rfl dm ?_;refine WH.tk 0 rfl (fun hq hC=>ak rfl) rfl rfl rfl ?_ (hC:=(by first | exact bY | exact bE | exact ca | exact bX | exact bV | exact bC | exact bq));refine WH.tk 1 rfl (fun hq hC=>dw rfl) rfl rfl rfl ?_ (hC:=(by first | exact bY | exact bE | exact ca | exact bX | exact bV | exact bC | exact bq));refine WH.tk 2 rfl (fun hq hC=>ak rfl) rfl rfl rfl ?_ (hC:=(by first | exact bY | exact bE | exact ca | exact bX | exact bV | exact bC | exact bq));try ((fail_if_success (refine WH.part 42 (b:=true) rfl (fun _=>?_) (fun _=>?_)));(fail_if_success (refine WH.part 42 (b:=false) rfl (fun _=>?_) (fun _=>?_)));(refine WH.part 42 rfl (fun hb=>?_) (fun hb=>?_))))
 all_goals (first | (refine WH.ps 3 rfl rfl rfl rfl ?_ (hC:=(by first | exact bY | exact bE | exact ca | exact bX | exact bV | exact bC | exact bq))) | (refine WH.tk 3 rfl (fun hq hC=>ak rfl) rfl rfl rfl ?_ (hC:=(by first | exact bY | exact bE | exact ca | exact bX | exact bV | exact bC | exact bq))))
 all_goals (first | (refine WH.ps 4 rfl rfl rfl rfl ?_ (hC:=(by first | exact bY | exact bE | exact ca | exact bX | exact bV | exact bC | exact bq))) | (refine WH.tk 4 rfl (fun hq hC=>dw rfl) rfl rfl rfl ?_ (hC:=(by first | exact bY | exact bE | exact ca | exact bX | exact bV | exact bC | exact bq))))
 all_goals (first | (refine WH.tk 5 rfl (fun hq hC=>cH rfl rfl) rfl rfl rfl ?_ (hC:=(by first | exact bY | exact bE | exact ca | exact bX | exact bV | exact bC | exact bq))) | (refine WH.tk 5 rfl (fun hq hC=>cI rfl rfl) rfl rfl rfl ?_ (hC:=(by first | exact bY | exact bE | exact ca | exact bX | exact bV | exact bC | exact bq))))
 all_goals (refine WH.tk 6 rfl (fun hq hC=>ak rfl) rfl rfl rfl ?_ (hC:=(by first | exact bY | exact bE | exact ca | exact bX | exact bV | exact bC | exact bq));try ((fail_if_success (refine WH.part 46 (b:=true) rfl (fun _=>?_) (fun _=>?_)));(fail_if_success (refine WH.part 46 (b:=false) rfl (fun _=>?_) (fun _=>?_)));(refine WH.part 46 rfl (fun hb=>?_) (fun hb=>?_))))
 all_goals (first | (refine WH.ps 7 rfl rfl rfl rfl ?_ (hC:=(by first | exact bY | exact bE | exact ca | exact bX | exact bV | exact bC | exact bq))) | (refine WH.tk 7 rfl (fun hq hC=>ad rfl Tryz.underlying140 rfl Tryz.sizeOf3) rfl rfl rfl ?_ (hC:=(by first | exact bY | exact bE | exact ca | exact bX | exact bV | exact bC | exact bq))))
 all_goals (first | (refine WH.ps 8 rfl rfl rfl rfl ?_ (hC:=(by first | exact bY | exact bE | exact ca | exact bX | exact bV | exact bC | exact bq))) | (refine WH.tk 8 rfl (fun hq hC=>aA Tryz.isAgg3 rfl (aa hC rfl)) rfl rfl rfl ?_ (hC:=(by first | exact bY | exact bE | exact ca | exact bX | exact bV | exact bC | exact bq))))
 all_goals (first
   | (refine WH.ps 9 rfl rfl rfl rfl ?_ (hC:=(by first | exact bY | exact bE | exact ca | exact bX | exact bV | exact bC | exact bq)))
   | (refine WH.one 9 (by kernel_rfl) ?_
      refine aC.call (vs:=[_]) rfl rfl Tryz.call199 rfl ((pX x).bl) rfl rfl rfl ?_ (fun _=>by kernel_rfl)
      rintro _ h9 ⟨⟨rfl,c8⟩ | ⟨rfl,c8⟩,lU⟩
      all_goals subst h9
      all_goals (refine ⟨fun _=>by first | assumption | trivial,?_⟩)
      skip))
 all_goals (first | (refine WH.ps 10 rfl rfl rfl rfl ?_ (hC:=(by first | exact bY | exact bE | exact ca | exact bX | exact bV | exact bC | exact bq))) | (refine WH.tk 10 rfl (fun hq hC=>dw rfl) rfl rfl rfl ?_ (hC:=(by first | exact bY | exact bE | exact ca | exact bX | exact bV | exact bC | exact bq))))
 all_goals (first | (refine WH.tk 11 rfl (fun hq hC=>cH rfl rfl) rfl rfl rfl ?_ (hC:=(by first | exact bY | exact bE | exact ca | exact bX | exact bV | exact bC | exact bq))) | (refine WH.tk 11 rfl (fun hq hC=>cI rfl rfl) rfl rfl rfl ?_ (hC:=(by first | exact bY | exact bE | exact ca | exact bX | exact bV | exact bC | exact bq))))
 all_goals (refine WH.tk 12 rfl (fun hq hC=>ak rfl) rfl rfl rfl ?_ (hC:=(by first | exact bY | exact bE | exact ca | exact bX | exact bV | exact bC | exact bq));try ((fail_if_success (refine WH.part 52 (b:=true) rfl (fun _=>?_) (fun _=>?_)));(fail_if_success (refine WH.part 52 (b:=false) rfl (fun _=>?_) (fun _=>?_)));(refine WH.part 52 rfl (fun hb=>?_) (fun hb=>?_))))
 all_goals (first | (refine WH.ps 13 rfl rfl rfl rfl ?_ (hC:=(by first | exact bY | exact bE | exact ca | exact bX | exact bV | exact bC | exact bq))) | (refine WH.tk 13 rfl (fun hq hC=>ad rfl Tryz.underlying140 rfl Tryz.sizeOf3) rfl rfl rfl ?_ (hC:=(by first | exact bY | exact bE | exact ca | exact bX | exact bV | exact bC | exact bq))))
 all_goals (first | (refine WH.ps 14 rfl rfl rfl rfl ?_ (hC:=(by first | exact bY | exact bE | exact ca | exact bX | exact bV | exact bC | exact bq))) | (refine WH.tk 14 rfl (fun hq hC=>aA Tryz.isAgg3 rfl (aa hC rfl)) rfl rfl rfl ?_ (hC:=(by first | exact bY | exact bE | exact ca | exact bX | exact bV | exact bC | exact bq))))
 all_goals (first
   | (refine WH.ps 15 rfl rfl rfl rfl ?_ (hC:=(by first | exact bY | exact bE | exact ca | exact bX | exact bV | exact bC | exact bq)))
   | (refine WH.one 15 (by kernel_rfl) ?_
      refine aC.call (vs:=[_]) rfl rfl Tryz.call199 rfl ((pX y).bl) rfl rfl rfl ?_ (fun _=>by kernel_rfl)
      rintro _ h9 ⟨⟨rfl,c9⟩ | ⟨rfl,c9⟩,lU⟩
      all_goals subst h9
      all_goals (refine ⟨fun _=>by first | assumption | trivial,?_⟩)
      skip))
 all_goals (first | (refine WH.ps 16 rfl rfl rfl rfl ?_ (hC:=(by first | exact bY | exact bE | exact ca | exact bX | exact bV | exact bC | exact bq))) | (refine WH.tk 16 rfl (fun hq hC=>dw rfl) rfl rfl rfl ?_ (hC:=(by first | exact bY | exact bE | exact ca | exact bX | exact bV | exact bC | exact bq))))
 all_goals (first | (refine WH.tk 17 rfl (fun hq hC=>cH rfl rfl) rfl rfl rfl ?_ (hC:=(by first | exact bY | exact bE | exact ca | exact bX | exact bV | exact bC | exact bq))) | (refine WH.tk 17 rfl (fun hq hC=>cI rfl rfl) rfl rfl rfl ?_ (hC:=(by first | exact bY | exact bE | exact ca | exact bX | exact bV | exact bC | exact bq))))
 all_goals (refine WH.tk 18 rfl (fun hq hC=>ak rfl) rfl rfl rfl ?_ (hC:=(by first | exact bY | exact bE | exact ca | exact bX | exact bV | exact bC | exact bq));try ((fail_if_success (refine WH.part 58 (b:=true) rfl (fun _=>?_) (fun _=>?_)));(fail_if_success (refine WH.part 58 (b:=false) rfl (fun _=>?_) (fun _=>?_)));(refine WH.part 58 rfl (fun hb=>?_) (fun hb=>?_))))
 all_goals (first | (refine WH.ps 19 rfl rfl rfl rfl ?_ (hC:=(by first | exact bY | exact bE | exact ca | exact bX | exact bV | exact bC | exact bq))) | (refine WH.tk 19 rfl (fun hq hC=>ay Tryz.isAgg140 Tryz.sizeOf140 rfl rfl (by exact At.av hC)) rfl rfl rfl ?_ (hC:=(by first | exact bY | exact bE | exact ca | exact bX | exact bV | exact bC | exact bq))))
 all_goals (first
   | (refine WH.ps 20 rfl rfl rfl rfl ?_ (hC:=(by first | exact bY | exact bE | exact ca | exact bX | exact bV | exact bC | exact bq)))
   | (refine WH.one 20 (by kernel_rfl) ?_
      refine aC.call (vs:=[_]) rfl rfl Tryz.call200 rfl (hst) rfl rfl rfl ?_ (fun _=>by kernel_rfl)
      rintro _ g7 ⟨⟨rfl,Cd⟩ | ⟨rfl,Cd⟩,ba⟩
      all_goals have ca:=ba.obj bX aO
      all_goals have DH:=I4.trans ba
      all_goals (refine ⟨fun _=>ca,?_⟩)
      skip))
 all_goals (first | (refine WH.ps 21 rfl rfl rfl rfl ?_ (hC:=(by first | exact bY | exact bE | exact ca | exact bX | exact bV | exact bC | exact bq))) | (refine WH.tk 21 rfl (fun hq hC=>dw rfl) rfl rfl rfl ?_ (hC:=(by first | exact bY | exact bE | exact ca | exact bX | exact bV | exact bC | exact bq))))
 all_goals (first | (refine WH.tk 22 rfl (fun hq hC=>cH rfl rfl) rfl rfl rfl ?_ (hC:=(by first | exact bY | exact bE | exact ca | exact bX | exact bV | exact bC | exact bq))) | (refine WH.tk 22 rfl (fun hq hC=>cI rfl rfl) rfl rfl rfl ?_ (hC:=(by first | exact bY | exact bE | exact ca | exact bX | exact bV | exact bC | exact bq))))
 all_goals (refine WH.tk 23 rfl (fun hq hC=>ak rfl) rfl rfl rfl ?_ (hC:=(by first | exact bY | exact bE | exact ca | exact bX | exact bV | exact bC | exact bq));try ((fail_if_success (refine WH.part 63 (b:=true) rfl (fun _=>?_) (fun _=>?_)));(fail_if_success (refine WH.part 63 (b:=false) rfl (fun _=>?_) (fun _=>?_)));(refine WH.part 63 rfl (fun hb=>?_) (fun hb=>?_))))
 all_goals (first | (refine WH.ps 24 rfl rfl rfl rfl ?_ (hC:=(by first | exact bY | exact bE | exact ca | exact bX | exact bV | exact bC | exact bq))) | (refine WH.tk 24 rfl (fun hq hC=>ay Tryz.isAgg140 Tryz.sizeOf140 rfl rfl (by exact At.av hC)) rfl rfl rfl ?_ (hC:=(by first | exact bY | exact bE | exact ca | exact bX | exact bV | exact bC | exact bq))))
 all_goals (first | (refine WH.ps 25 rfl rfl rfl rfl ?_ (hC:=(by first | exact bY | exact bE | exact ca | exact bX | exact bV | exact bC | exact bq))) | (refine WH.tk 25 rfl (fun hq hC=>ay Tryz.isAgg140 Tryz.sizeOf140 rfl rfl (by exact At.av hC)) rfl rfl rfl ?_ (hC:=(by first | exact bY | exact bE | exact ca | exact bX | exact bV | exact bC | exact bq))))
 all_goals (first
   | (refine WH.ps 26 rfl rfl rfl rfl ?_ (hC:=(by first | exact bY | exact bE | exact ca | exact bX | exact bV | exact bC | exact bq)))
   | (refine WH.one 26 (by kernel_rfl) ?_
      refine aC.call (vs:=[_]) rfl rfl Tryz.call202 rfl (hof DH) rfl rfl rfl ?_ (fun _=>by kernel_rfl)
      rintro _ g8 ⟨rfl,bz⟩
      have bE:=bz.obj ca aO
      have lO:=DH.trans bz
      refine ⟨fun _=>bE,?_⟩
      skip))
 all_goals (first
   | (refine WH.ps 27 rfl rfl rfl rfl ?_ (hC:=(by first | exact bY | exact bE | exact ca | exact bX | exact bV | exact bC | exact bq)))
   | (refine WH.one 27 (by kernel_rfl) ?_
      refine aC.call (vs:=[_,_]) rfl rfl Tryz.call201 rfl (hsa lO) rfl rfl rfl ?_ (fun _=>by kernel_rfl)
      rintro _ g9 ⟨⟨sx,rfl,hsx⟩,bZ⟩
      have bY:=bZ.obj bE aO
      cases sx
      all_goals (refine ⟨fun _=>bY,?_⟩)
      skip))
 all_goals (first | (refine WH.ps 28 rfl rfl rfl rfl ?_ (hC:=(by first | exact bY | exact bE | exact ca | exact bX | exact bV | exact bC | exact bq))) | (refine WH.tk 28 rfl (fun hq hC=>dw rfl) rfl rfl rfl ?_ (hC:=(by first | exact bY | exact bE | exact ca | exact bX | exact bV | exact bC | exact bq))))
 all_goals (first | (refine WH.tk 29 rfl (fun hq hC=>cH rfl rfl) rfl rfl rfl ?_ (hC:=(by first | exact bY | exact bE | exact ca | exact bX | exact bV | exact bC | exact bq))) | (refine WH.tk 29 rfl (fun hq hC=>cI rfl rfl) rfl rfl rfl ?_ (hC:=(by first | exact bY | exact bE | exact ca | exact bX | exact bV | exact bC | exact bq))))
 all_goals (refine WH.done (by kernel_rfl) ?_;refine Gn ?_;refine Gs [(69,_)] ?_;refine aH 3 4 ?_ TT.mk)
 all_goals try (
 refine aw 3 ?_
 all_goals (refine G2 ?_;refine Gt ?_)
 all_goals (
  first
   | exact ⟨⟨0,rfl,⟨fun _=>hyes (hkx.1 rfl) c1 c2 c3 (dF.1 c4) (dF.1 c5) (dF.1 c6) (mv.1 c7) (fZ.1 c8) (fZ.1 c9) Cd (hsx.1 rfl),fun _=>rfl⟩⟩,lO.trans bZ⟩
   | (refine ⟨⟨_,rfl,⟨fun z=>absurd z (by decide),fun z=>absurd z ?_⟩⟩,?_⟩
      · first | exact hnk (fun z=>Bool.false_ne_true (hkx.2 z)) | exact BR c1 | exact EX c2 | exact Ho c3 | exact Hp c4 | exact Gz c5 | exact Hq c6 | exact Hr c7 | exact xH c8 | exact yZ c9 | exact y6 Cd | exact la (fun z=>Bool.false_ne_true (hsx.2 z))
      · first | exact lO.trans bZ | exact DH | exact I4 | exact nR | exact oH | exact ma | exact ia))
 skip)
 all_goals (refine aw 4 ?_)
 refine WC.skip ?_;refine Gn ?_;refine G2 ?_;refine Gt ?_
 first
  | exact ⟨⟨0,rfl,⟨fun _=>hyes (hkx.1 rfl) c1 c2 c3 (dF.1 c4) (dF.1 c5) (dF.1 c6) (mv.1 c7) (fZ.1 c8) (fZ.1 c9) Cd (hsx.1 rfl),fun _=>rfl⟩⟩,lO.trans bZ⟩
  | (refine ⟨⟨_,rfl,⟨fun z=>absurd z (by decide),fun z=>absurd z ?_⟩⟩,?_⟩
     · first | exact hnk (fun z=>Bool.false_ne_true (hkx.2 z)) | exact BR c1 | exact EX c2 | exact Ho c3 | exact Hp c4 | exact Gz c5 | exact Hq c6 | exact Hr c7 | exact xH c8 | exact yZ c9 | exact y6 Cd | exact la (fun z=>Bool.false_ne_true (hsx.2 z))
     · first | exact lO.trans bZ | exact DH | exact I4 | exact nR | exact oH | exact ma | exact ia)
structure Wr (g h:ah) (b:Nat) (v:Value) (l:List UInt8):Prop where
 bm:h[b]?=some (.cells ⟨[v]⟩ 207 (0,0))
 own:Own h v 5 1 l.length (bA l)
 lo:g.size≤b∧∀ q,v.ownBlock=some q→g.size≤q
 ext:Ext No g h
def JO (b:Nat) (v:Value) (q:Nat):Prop:=q=b∨v.ownBlock=some q
section
variable {g h:ah} {b:Nat} {v:Value} {l:List UInt8}
theorem Wr.ne (w:Wr g h b v l):v.ownBlock ≠ some b:=fun e=>by obtain ⟨_,z⟩:=bO w.own e;rw [w.bm] at z;simp at z
theorem Wr.stay {h':ah} (w:Wr g h b v l) (x:Ext No h h'):Wr g h' b v l:=⟨x.obj w.bm aO,w.own.ext x (fun _ _=>aO),w.lo,w.ext.trans x⟩
theorem y7 (w:Wr g h b v l) (s:List UInt8) (hl:l.length+s.length≤1000000000):ag Tryz.prog 141 ⟨[.pointer (some ⟨b,0,none⟩),St s]⟩ h fun _ h'=>∃ v',Wr g h' b v' (l++s++[0])∧Ext (JO b v) h h'∧∀ q,v'.ownBlock=some q→v.ownBlock=some q∨h.size≤q:=by
 have hne:=w.ne
 have DI:=w.bm
 have hbl:=ai DI
 have ho:=w.own
 have lo:=w.lo
 have hxg:=w.ext
 have hsg:=hxg.size
 refine calls [(0,_),(1,_)] Tryz.func141 rfl Tryz.ntmps141 rfl ⟨rfl,rfl,trivial⟩ ?_
 refine WC.region (Go ?_);refine WL.step (ae rfl) rfl rfl rfl (Go ?_);refine WL.ld rfl (by first | exact aa DI rfl | assumption) rfl rfl rfl (Go ?_)
 refine WL.aj (fW rfl Tryz.underlying23 Tryz.underlying9 (show Tryz.prog.info? 5=some Tryz.t5 by kernel_rfl) rfl rfl rfl rfl rfl ho (by omega)) rfl rfl rfl ?_
 rintro v1 h1 ⟨jM,az,Gw,_⟩
 refine WL.aj (au (vs:=[_]) (cs:=[_]) (fun | [a0]=>[a0] | _=>[]) Tryz.underlying23 rfl rfl (by kernel_rfl)) rfl rfl rfl ?_
 rintro _ h2 ⟨b2,rfl,gg,bH,aI⟩
 refine WL.aj (aT (sz:=1) (bytes:=1) rfl Tryz.underlying23 (show Tryz.prog.info? 5=some Tryz.t5 by kernel_rfl) rfl rfl rfl rfl (by decide) rfl rfl (jM.ext aI (fun _ _=>aO)) (bx bH rfl) (by simp [Value.oneCell']) (by simp only [maxLen];omega) (by omega)) rfl rfl rfl ?_
 rintro v3 h3 ⟨dN,aQ,wB⟩
 have ik:∀ q,v1.ownBlock=some q→v.ownBlock=some q∨h.size≤q:=Gw
 have s1:=az.size
 have s2:=aI.size
 have gS:∀ q,v3.ownBlock=some q→v.ownBlock=some q∨h.size≤q:=fun q hq=>wB.elim (fun e=>ik q (e▸hq)) (fun e=>.inr (by rw [e] at hq;cases hq;omega))
 have ma:Ext (fun q=>v.ownBlock=some q) h h3:=(az.trans (aI.mono fun _ _ e=>e.elim)).trans' aQ (fun q hq e=>(ik q e).elim id (fun z=>by omega))
 obtain ⟨A3,c3,rfl,_⟩:=dN.slice
 have bq:=ma.obj DI hne
 refine WL.step (ae rfl) rfl rfl rfl (Go ?_);refine WL.ax (aB Tryz.sizeOf23 rfl rfl bq (Nat.le_of_ble_eq_true rfl) rfl rfl) rfl rfl ?_
 rintro _ h4 ⟨bC,aW⟩
 refine Gn ?_
 refine fA [] trivial ?_
 refine ⟨_,⟨bC,?_,⟨lo.1,fun q hq=>?_⟩,?_⟩,(ma.mono fun q _ e=>.inr e).trans (aW.mono fun q _ e=>.inl e),gS⟩
 · rw [show (l++s++[(0:UInt8)]).length=l.length+s.length+1 by simp [Nat.add_assoc],show bA (l++s++[0])=bA l++bA s++[Value.int .u8 0] by simp only [bA,List.map_append,List.map_cons,List.map_nil];rfl];exact dN.ext aW (fun q hq e=>by obtain ⟨_,z⟩:=bO dN hq;rw [e,bq] at z;simp at z)
 · exact (gS q hq).elim (fun e=>lo.2 q e) (fun e=>by omega)
 · exact (hxg.trans' ma (fun q hq e=>by have:=lo.2 q e;omega)).trans' aW (fun q hq e=>by have:=lo.1;omega)
end
def fj (F:List bj):List UInt8:=F.flatMap fun f=>[UInt8.ofNat f.k.toNat]++f.t++[0]
theorem JP {k:Int} (h0:0≤k) (h1:k≤255):By (UInt8.ofNat k.toNat)=.int .u8 k:=by
 show Value.int .u8 ((UInt8.ofNat k.toNat).toNat:Int)=.int .u8 k
 rw [UInt8.toNat_ofNat']
 congr 1
 omega
theorem wK {F:List bj} {k:Nat} {y:bj} (hy:F[k]?=some y):fj (F.take (k+1))=fj (F.take k)++[UInt8.ofNat y.k.toNat]++y.t++[0]:=by
 unfold fj
 rw [List.take_add_one,hy,List.flatMap_append]
 simp
theorem rW (F:List bj) (n:Nat) (hF:∀ f∈F,f.t.length≤n):(fj F).length≤F.length * (n+2):=by
 induction F with
 | nil=>simp [fj]
 | cons a F ih =>
   have h1:=ih (fun f hf=>hF f (by simp [hf]))
   have h2:=hF a (by simp)
   have:fj (a :: F)=[UInt8.ofNat a.k.toNat]++a.t++[0]++fj F:=by simp [fj]
   rw [this]
   simp only [List.length_append,List.length_cons,List.length_nil] at *
   rw [Nat.add_mul]
   omega
theorem y8 {g h:ah} {b:Nat} {v:Value} (F:List bj) (w:Wr g h b jE []) (hr:Rd g v 2 F.length (F.flatMap bj.cells)) (hF:∀ f∈F,f.t.length≤200000∧0≤f.k∧f.k≤255) (hm:F.length≤100) :
   ag Tryz.prog 144 ⟨[.pointer (some ⟨b,0,none⟩),v]⟩ h fun _ h'=>∃ v',Wr g h' b v' (fj F++[0])∧Ext (fun q=>q=b) h h':=by
 obtain ⟨A,c,rfl,_⟩:=id hr
 have hlen:∀ k,(fj (F.take k)).length≤100 * 200002:=fun k=>Nat.le_trans (rW (F.take k) 200000 (fun f hf=>(hF f (List.mem_of_mem_take hf)).1)) (Nat.mul_le_mul (by rw [List.length_take];omega) (Nat.le_refl _))
 refine calls [(0,_),(1,_)] Tryz.func144 rfl Tryz.ntmps144 rfl ⟨rfl,rfl,trivial⟩ ?_
 refine G3 ?_;refine WC.block ?_;refine WC.bD (X:=Nat × Value) (fun x=>([(8,In (x.1:Int))]:Fr)) [(0,_),(6,_),(7,_)] (fun y h'=>y.1≤F.length∧Wr g h' b y.2 (fj (F.take y.1))∧Ext (fun q=>q=b) h h'∧∀ q,y.2.ownBlock=some q→h.size≤q) (fun y=>F.length - y.1) ((0,jE)) ⟨rfl,rfl,rfl,rfl,trivial⟩ (by exact ⟨Nat.zero_le _,w,.refl _ _,by simp [Value.ownBlock]⟩) ?_
 rintro ⟨k,u⟩ h1 ⟨hk,w1,az,ik⟩
 dsimp only at hk w1 ik
 refine WC.sub [(8,_),(0,_),(6,_),(7,_)] ⟨rfl,rfl,rfl,rfl,trivial⟩ ?_
 dsimp only
 refine G2 ?_;refine WC.seq ?_
 refine aH 1 2 (Hb.mk fun hb=>?_) (Hb.mk fun hb=>?_)
 all_goals try (
 refine aw 1 ?_
 refine WC.skip ?_
 skip)
 all_goals try (
 refine aw 2 ?_
 refine WC.exit ?_
 repeat' (with_reducible first | refine aU ?_ | refine aD rfl ?_ | refine aJ ?_ | refine aL ?_ | refine aS ?_)
 refine Br.out (i:=1000) ?_
 skip)
 all_goals (refine Gn ?_;first | refine Br.ab ?_ | refine WC.seq ?_)
 all_goals (first | refine Br.ab ?_ | refine WC.block ?_)
 all_goals (first | refine Br.ab ?_ | refine WC.sr ?_)
 all_goals (
  first
    | (refine Br.ab ?_)
    | (obtain ⟨bL,oL,hA,hbL,hat⟩:=Rd.at_ hr (by omega)
       obtain ⟨⟨yk,yt⟩,hy⟩:∃ y,F[k]?=some y:=⟨_,List.getElem?_eq_getElem (by omega)⟩
       have hyF:=hF _ (List.mem_of_getElem? hy)
       dsimp only at hyF
       have hcd:At h1 bL (oL+k * 2) [.int .u8 yk,St yt]:=At.elem bj.len (hat.ext w1.ext aO) hy
       have hlk:=hlen k))
 all_goals (first | refine Br.ab ?_ | (refine WL.step (aE Tryz.underlying138 Tryz.sizeOf194 rfl rfl rfl (by omega) (by first | rfl | assumption)) rfl rfl rfl ?_))
 all_goals (first | refine Br.ab ?_ | (refine WL.step (ay Tryz.isAgg194 Tryz.sizeOf194 rfl rfl (by exact hcd)) rfl rfl rfl ?_))
 all_goals (
  first
    | (refine Br.ab ?_)
    | (refine WL.aj (an (fun w=>Tryz.zeroValue194 w)) rfl rfl rfl ?_
       rintro _ h2 ⟨b5,rfl,qR,bV,aI⟩))
 all_goals (
  first
    | (refine Br.ab ?_)
    | (refine WL.ax (al Tryz.sizeOf194 rfl rfl rfl bV rfl (by simp [Value.oneCell'])) rfl rfl ?_
       rintro _ h3 ⟨Ce,aQ⟩))
 all_goals (
  first
    | (refine Br.ab ?_)
    | (have ma:Ext No h1 h3:=aI.trans' aQ (fun q hq e=>by omega)
       have w3:=w1.stay ma
       have n3:=w3.ne
       have n5:¬ u.ownBlock=some b5:=fun e=>by have:=w1.own.lt e;omega
       have l1:=ai w1.bm
       have s3:=ma.size
       have sh:=az.size))
 all_goals (refine Gn ?_;first | refine Br.ab ?_ | refine WC.seq ?_)
 all_goals (first | refine Br.ab ?_ | (refine WC.bW (fun h'=>Ext (fun q=>u.ownBlock=some q) h3 h') 9 12 rfl dm ?_))
 all_goals (first | refine Br.ab ?_ | (refine WH.tk 0 rfl (fun hq hC=>ak rfl) rfl rfl rfl ?_))
 all_goals (first | refine Br.ab ?_ | (refine WH.tk 1 rfl (fun hq hC=>ak rfl) rfl rfl rfl ?_))
 all_goals (first | refine Br.ab ?_ | (refine WH.tk 2 rfl (fun hq hC=>ae rfl) rfl rfl rfl ?_))
 all_goals (first | refine Br.ab ?_ | (refine WH.tk 3 rfl (fun hq hC=>ad rfl Tryz.underlying207 rfl Tryz.sizeOf23) rfl rfl rfl ?_))
 all_goals (first | refine Br.ab ?_ | (refine WH.tk 4 rfl (fun hq hC=>aA Tryz.isAgg23 rfl (by first | exact hC.cell (by first | exact aa w3.bm rfl | assumption) (by first | exact n3 | exact n5))) rfl rfl rfl ?_))
 all_goals (first | refine Br.ab ?_ | (refine WH.tk 5 rfl (fun hq hC=>ad rfl Tryz.underlying194 rfl Tryz.sizeOf5) rfl rfl rfl ?_))
 all_goals (first | refine Br.ab ?_ | (refine WH.tk 6 rfl (fun hq hC=>aA Tryz.isAgg5 rfl (by first | exact hC.cell (by first | exact aa Ce rfl | assumption) (by first | exact n3 | exact n5))) rfl rfl rfl ?_))
 all_goals (first | refine Br.ab ?_ | (refine WH.one 7 (by kernel_rfl) ?_))
 all_goals (
  first
    | (refine Br.ab ?_)
    | (refine aC.run rfl (au (vs:=[_]) (cs:=[_]) (fun | [a0]=>[a0] | _=>[]) Tryz.underlying23 rfl rfl (by kernel_rfl)) rfl rfl rfl ?_ (fun _=>by kernel_rfl)
       rintro _ h7 ⟨b7,rfl,xG,ca,ba⟩))
 all_goals (first | refine Br.ab ?_ | (refine ⟨fun _=>ba.mono fun _ _ e=>e.elim,?_⟩))
 all_goals (first | refine Br.ab ?_ | (have DJ:Ext (fun q=>u.ownBlock=some q) h3 h7:=ba.mono fun _ _ e=>e.elim))
 all_goals (first | refine Br.ab ?_ | (refine WH.one 8 (by kernel_rfl) ?_))
 all_goals (
  first
    | (refine Br.ab ?_)
    | (refine aC.run rfl (aT (sz:=1) (bytes:=1) rfl Tryz.underlying23 (show Tryz.prog.info? 5=some Tryz.t5 by kernel_rfl) rfl rfl rfl rfl (by decide) rfl rfl (w3.own.ext ba (fun _ _=>aO)) (bx ca rfl) (by simp [Value.oneCell']) (by simp only [maxLen];omega) (by omega)) rfl rfl rfl ?_ (fun _=>by kernel_rfl)
       rintro v8 h8 ⟨jK,bz,tC⟩))
 all_goals (first | refine Br.ab ?_ | (refine ⟨fun _=>DJ.trans bz,?_⟩))
 all_goals (
  first
    | (refine Br.ab ?_)
    | (have xI:=DJ.trans bz
       have bE:=xI.obj w3.bm n3
       obtain ⟨A8,c8,rfl,_⟩:=jK.slice))
 all_goals (first | refine Br.ab ?_ | (refine WH.one 9 (by kernel_rfl) ?_))
 all_goals (
  first
    | (refine Br.ab ?_)
    | (refine aC.run rfl (bN.r (ae rfl)) rfl rfl rfl ?_ (fun _=>by kernel_rfl)
       rintro _ hz ⟨rfl,_⟩
       subst hz))
 all_goals (first | refine Br.ab ?_ | (refine ⟨fun e=>(by cases e),?_⟩))
 all_goals (first | refine Br.ab ?_ | (refine WH.one 10 (by kernel_rfl) ?_))
 all_goals (
  first
    | (refine Br.ab ?_)
    | (refine aC.run rfl (bN.r (ad rfl Tryz.underlying207 rfl Tryz.sizeOf23)) rfl rfl rfl ?_ (fun _=>by kernel_rfl)
       rintro _ hz ⟨rfl,_⟩
       subst hz))
 all_goals (first | refine Br.ab ?_ | (refine ⟨fun e=>(by cases e),?_⟩))
 all_goals (first | refine Br.ab ?_ | (refine WH.one 11 (by kernel_rfl) ?_))
 all_goals (
  first
    | (refine Br.ab ?_)
    | (refine aC.cO rfl (aB Tryz.sizeOf23 rfl rfl bE (Nat.le_of_ble_eq_true rfl) rfl rfl) rfl rfl ?_ (fun _=>by kernel_rfl)
       rintro _ h9 ⟨bY,bZ⟩))
 all_goals (first | refine Br.ab ?_ | (refine ⟨fun e=>(by cases e),?_⟩))
 all_goals (
  first
    | (refine Br.ab ?_)
    | (have s7:=ba.size
       have EA:∀ q,(Value.slice A8 ((fj (F.take k)).length+1) c8).ownBlock=some q→u.ownBlock=some q∨h3.size≤q:=fun q hq=>tC.elim (fun e=>.inl (e▸hq)) (fun e=>.inr (by rw [e] at hq;cases hq;omega))
       have w9:Wr g h9 b (.slice A8 ((fj (F.take k)).length+1) c8) (fj (F.take k)++[UInt8.ofNat yk.toNat]):=⟨bY,by rw [show (fj (F.take k)++[UInt8.ofNat yk.toNat]).length=(fj (F.take k)).length+1 by simp,show bA (fj (F.take k)++[UInt8.ofNat yk.toNat])=bA (fj (F.take k))++[Value.int .u8 yk] by simp only [bA,List.map_append,List.map_cons,List.map_nil];rw [JP hyF.2.1 hyF.2.2]];exact jK.ext bZ (fun q hq e=>by obtain ⟨_,z⟩:=bO jK hq;rw [e,bE] at z;simp at z),⟨w1.lo.1,fun q hq=>(EA q hq).elim (fun e=>w1.lo.2 q e) (fun e=>by have:=w1.ext.size;omega)⟩,(w3.ext.trans' xI (fun q hq e=>by have:=w1.lo.2 q e;omega)).trans' bZ (fun q hq e=>by have:=w1.lo.1;omega)⟩
       have ML:b5 ≠ b:=by omega
       have EZ:=bZ.obj (xI.obj Ce n5) ML))
 all_goals (first | refine Br.ab ?_ | (refine WH.done (by kernel_rfl) ?_))
 all_goals (refine Gn ?_;first | refine Br.ab ?_ | refine Gs [(0,_),(5,_),(6,_),(7,_),(8,_)] ?_)
 all_goals (first | refine Br.ab ?_ | refine WC.region ?_)
 all_goals (refine Go ?_;first | refine Br.ab ?_ | (refine WL.ld rfl (by first | exact aa EZ rfl | assumption) rfl rfl rfl ?_))
 all_goals (
  first
    | (refine Br.ab ?_)
    | (refine WL.call (vs:=[_,_]) rfl Tryz.call141 rfl (y7 w9 yt (by simp only [List.length_append,List.length_cons,List.length_nil];omega)) rfl rfl rfl ?_
       rintro _ iG ⟨v10,MM,ct,JQ⟩))
 all_goals (refine Gn ?_;first | refine Br.ab ?_ | refine Gs [(0,_),(6,_),(7,_),(8,_)] ?_)
 all_goals (first | refine Br.ab ?_ | refine WC.region ?_)
 all_goals (refine Go ?_;first | refine Br.ab ?_ | (exact ⟨(k+1,_),⟨rfl,rfl,rfl,rfl,trivial⟩,(by exact ⟨by omega,by rw [wK hy];exact MM,(((az.trans' ma (fun q hq e=>e.elim)).trans' xI (fun q hq e=>by have:=ik q e;omega)).trans' bZ (fun q hq e=>e)).trans' ct (fun q hq e=>e.elim id (fun z=>(EA q z).elim (fun z=>by have:=ik q z;omega) (fun z=>by omega))),fun q hq=>(JQ q hq).elim (fun z=>(EA q z).elim (fun z=>ik q z) (fun z=>by omega)) (fun z=>by have:=xI.size;have:=bZ.size;omega)⟩),(by simp;omega)⟩))
 try (refine Br.mk (i:=1000) ?_)
 refine Gn ?_;refine Gs [(0,_)] ?_;refine WC.region ?_
 have hkF:k=F.length:=by omega
 have hlk:=hlen k
 have sh:=az.size
 have n1:=w1.ne
 refine WL.step (ak rfl) rfl rfl rfl (Go ?_);refine WL.step (ae rfl) rfl rfl rfl (Go ?_);refine WL.ld rfl (by first | exact aa w1.bm rfl | assumption) rfl rfl rfl ?_
 refine WL.aj (au (vs:=[_]) (cs:=[_]) (fun | [a0]=>[a0] | _=>[]) Tryz.underlying23 rfl rfl (by kernel_rfl)) rfl rfl rfl ?_
 rintro _ h2 ⟨b2,rfl,gg,bH,aI⟩
 refine WL.aj (aT (sz:=1) (bytes:=1) rfl Tryz.underlying23 (show Tryz.prog.info? 5=some Tryz.t5 by kernel_rfl) rfl rfl rfl rfl (by decide) rfl rfl (w1.own.ext aI (fun _ _=>aO)) (bx bH rfl) (by simp [Value.oneCell']) (by simp only [maxLen];omega) (by omega)) rfl rfl rfl ?_
 rintro v3 h3 ⟨dN,aQ,wB⟩
 have Hu:Ext (fun q=>u.ownBlock=some q) h1 h3:=(aI.mono fun _ _ e=>e.elim).trans aQ
 have bq:=Hu.obj w1.bm n1
 obtain ⟨A3,c3,rfl,_⟩:=dN.slice
 have s2:=aI.size
 refine WL.step (ae rfl) rfl rfl rfl (Go ?_);refine WL.ax (aB Tryz.sizeOf23 rfl rfl bq (Nat.le_of_ble_eq_true rfl) rfl rfl) rfl rfl ?_
 rintro _ h4 ⟨bC,aW⟩
 refine Gn ?_
 refine fA [] trivial ?_
 have gS:∀ q,(Value.slice A3 ((fj (F.take k)).length+1) c3).ownBlock=some q→u.ownBlock=some q∨h1.size≤q:=fun q hq=>wB.elim (fun e=>.inl (e▸hq)) (fun e=>.inr (by rw [e] at hq;cases hq;omega))
 have e0:F.take k=F:=List.take_of_length_le (by omega)
 refine ⟨_,⟨bC,?_,⟨w1.lo.1,fun q hq=>(gS q hq).elim (fun e=>w1.lo.2 q e) (fun e=>by have:=w1.ext.size;omega)⟩,(w1.ext.trans' Hu (fun q hq e=>by have:=w1.lo.2 q e;omega)).trans' aW (fun q hq e=>by have:=w1.lo.1;omega)⟩,(az.trans' Hu (fun q hq e=>by have:=ik q e;omega)).trans aW⟩
 rw [e0] at dN ⊢
 rw [show (fj F++[(0:UInt8)]).length=(fj F).length+1 by simp,show bA (fj F++[0])=bA (fj F)++[Value.int .u8 0] by simp only [bA,List.map_append,List.map_cons,List.map_nil];rfl]
 exact dN.ext aW (fun q hq e=>by obtain ⟨_,z⟩:=bO dN hq;rw [e,bq] at z;simp at z)
theorem GA {n:Int} (h : -32768≤n∧n≤65535):Rt n 2:=by
 unfold Rt
 rw [show (256:Int) ^ 2=65536 from rfl]
 omega
theorem pZ {n:Int} (h : -2147483648≤n∧n≤4294967295):Rt n 4:=by
 unfold Rt
 rw [show (256:Int) ^ 4=4294967296 from rfl]
 omega
theorem GB:Sz 2:=.inr (.inl rfl)
theorem Cf:Sz 4:=.inr (.inr rfl)
theorem y9 {α:Type} {f:α→List UInt8} {n:Nat} (l:List α) (h:∀ x∈l,(f x).length≤n):(l.flatMap f).length≤l.length * n:=by
 induction l with
 | nil=>simp
 | cons a l ih =>
   have h1:=ih (fun x hx=>h x (by simp [hx]))
   have h2:=h a (by simp)
   simp only [List.flatMap_cons,List.length_append,List.length_cons,Nat.add_mul,Nat.one_mul]
   omega
theorem lg {α:Type} {f:α→List UInt8} {n:Nat} (l:List α) (k:Nat) (h:∀ x∈l,(f x).length≤n):((l.take k).flatMap f).length≤l.length * n :=
 Nat.le_trans (y9 _ fun x hx=>h x (List.mem_of_mem_take hx)) (Nat.mul_le_mul_right n (by rw [List.length_take];omega))
theorem iY {α:Type} {f:α→List UInt8} {l:List α} {k:Nat} {y:α} (hy:l[k]?=some y):(l.take (k+1)).flatMap f=(l.take k).flatMap f++f y:=by
 rw [List.take_add_one,hy,List.flatMap_append]
 simp
def iI (c:cA):List UInt8:=c.nm++[0]++be c.t 4++be c.a 2++be c.o 4++be c.s 2++be c.m 4++be c.f 2
def dI (c:aX):List UInt8:=if c.null then be 4294967295 4 else be c.bytes.length 4++c.bytes
theorem nc {c:cA} (h:c.nm.length≤1000):(iI c).length≤1100:=by simp [iI,bn];omega
theorem ng {c:aX} (h:c.bytes.length≤1000):(dI c).length≤1100:=by unfold dI;split <;> simp [bn] <;> omega
def ga (h:ah) (b:Nat) (v:Value) (h':ah) (v':Value):Prop:=Ext (JO b v) h h'∧∀ q,v'.ownBlock=some q→v.ownBlock=some q∨h.size≤q
theorem ga.refl {h:ah} {b:Nat} {v:Value}:ga h b v h v:=⟨.refl _ _,fun _ e=>.inl e⟩
theorem ga.stay {h h':ah} {b:Nat} {v:Value} (x:Ext No h h'):ga h b v h' v:=⟨x.mono fun _ _ e=>e.elim,fun _ e=>.inl e⟩
theorem ga.trans {h h1 h2:ah} {b:Nat} {v v1 v2:Value} (a:ga h b v h1 v1) (c:ga h1 b v1 h2 v2):ga h b v h2 v2 :=
 ⟨a.1.trans' c.1 (fun q hq e=>e.elim .inl (fun e=>(a.2 q e).elim .inr (fun z=>absurd hq (by omega)))),fun q e=>(c.2 q e).elim (fun e=>a.2 q e) (fun z=>.inr (by have:=a.1.size;omega))⟩
section
variable {g h h':ah} {b:Nat} {v:Value} {l:List UInt8}
theorem Wr.obj (w:Wr g h b v l) (x:Ext (JO b v) h h') {q:Nat} {o:Array Value} {T:TypeId} {z:Nat × Nat} (hq:h[q]?=some (.cells o T z)) (hT:T ≠ 5) (hne:q ≠ b):h'[q]?=some (.cells o T z) :=
 x.obj hq (fun e=>e.elim hne (fun e=>by obtain ⟨_,k⟩:=bO w.own e;rw [hq] at k;simp only [Option.some.injEq,Obj.cells.injEq] at k;exact hT k.2.1))
theorem za (w:Wr g h b v l) (s:List UInt8) (hl:l.length+s.length≤1000000000):ag Tryz.prog 141 ⟨[.pointer (some ⟨b,0,none⟩),St s]⟩ h fun _ h'=>∃ v',Wr g h' b v' (l++s++[0])∧ga h b v h' v' :=
 (y7 w s hl).mono fun _ _ ⟨v',a,x,c⟩=>⟨v',a,x,c⟩
theorem fD (w:Wr g h b v l) (n:Int) (s:Nat) (hs:Sz s) (hr:Rt n s) (hl:l.length≤1000000000):ag Tryz.prog 140 ⟨[.pointer (some ⟨b,0,none⟩),In n,In s]⟩ h fun _ h'=>∃ v',Wr g h' b v' (l++be n s)∧ga h b v h' v':=by
 have DI:=w.bm
 have hbl:=ai DI
 have ho:=w.own
 have lo:=w.lo
 have hxg:=w.ext
 have hsg:=hxg.size
 obtain ⟨A0,c0,rfl,_⟩:=id ho.slice
 refine calls [(0,_),(1,_),(2,_)] Tryz.func140 rfl Tryz.ntmps140 rfl ⟨rfl,rfl,rfl,trivial⟩ ?_
 refine WC.region (Go ?_);refine WL.step (ae rfl) rfl rfl rfl (Go ?_);refine WL.ld rfl (by first | exact aa DI rfl | assumption) rfl rfl rfl (Go ?_)
 refine WL.call (vs:=[_,_,_]) rfl Tryz.call164 rfl (DA l n s hs hr ho.rd (by omega)) rfl rfl rfl ?_
 rintro v1 h1 ⟨jM,az,ik⟩
 obtain ⟨A1,c1,rfl,_⟩:=id jM.slice
 refine WL.step (ae rfl) rfl rfl rfl (Go ?_);refine WL.ax (aB Tryz.sizeOf23 rfl rfl (az.obj DI aO) (Nat.le_of_ble_eq_true rfl) rfl rfl) rfl rfl ?_
 rintro _ h4 ⟨bC,aW⟩
 refine Gn ?_
 refine fA [] trivial ?_
 have aR:=az.obj DI aO
 exact ⟨_,⟨bC,jM.ext aW (fun q hq e=>by obtain ⟨_,z⟩:=bO jM hq;rw [e,aR] at z;simp at z),⟨lo.1,fun q hq=>by have:=ik q hq;omega⟩,(hxg.trans az).trans' aW (fun q hq e=>by have:=lo.1;omega)⟩,⟨(az.mono fun _ _ e=>e.elim).trans (aW.mono fun q _ e=>.inl e),fun q hq=>.inr (ik q hq)⟩⟩
theorem zb (w:Wr g h b v l) (c:cA) (hc:c.okB) (hn:c.nm.length≤1000) (hl:l.length≤900000000):ag Tryz.prog 143 ⟨[.pointer (some ⟨b,0,none⟩),.agg ⟨c.cells⟩]⟩ h fun _ h'=>∃ v',Wr g h' b v' (l++iI c)∧ga h b v h' v':=by
 obtain ⟨nm,t,a,o,s,m,f⟩:=c
 obtain ⟨c1,c2,c3,c4,c5,c6,c7⟩:=hc
 dsimp only at c2 c3 c4 c5 c6 c7 hn
 dsimp only [cA.cells]
 have hbl:=ai w.bm
 refine calls [(0,_),(1,_)] Tryz.func143 rfl Tryz.ntmps143 rfl ⟨rfl,rfl,trivial⟩ ?_
 refine WC.sr ?_;refine WL.aj (aG rfl) rfl rfl rfl ?_
 rintro _ h1 ⟨b1,rfl,bR,aR,az⟩
 have w1:=w.stay az
 have s1:ga h b v h1 v:=.stay az
 have hne:b1 ≠ b:=by omega
 refine Gn ?_;refine G2 ?_;refine WL.ld rfl (by first | exact aa aR rfl | assumption) rfl rfl rfl ?_
 refine WL.call (vs:=[_,_]) rfl Tryz.call141 rfl (za w1 nm (by omega)) rfl rfl rfl ?_
 rintro _ h2 ⟨v2,w2,t2⟩
 have bH:=w1.obj t2.1 aR (by decide) hne
 have l2:(l++nm++[(0:UInt8)]).length=l.length+nm.length+1:=by simp [Nat.add_assoc]
 refine Gn ?_;refine Gs [(0,_),(3,_)] ?_;refine G2 ?_;refine WL.ld rfl (by first | exact aa bH rfl | assumption) rfl rfl rfl ?_
 refine WL.call (vs:=[_,_,_]) rfl Tryz.call140 rfl (fD w2 t 4 Cf (pZ (by omega)) (by omega)) rfl rfl rfl ?_
 rintro _ h3 ⟨v3,w3,t3⟩
 have bq:=w2.obj t3.1 bH (by decide) hne
 refine Gn ?_;refine Gs [(0,_),(3,_)] ?_;refine G2 ?_;refine WL.ld rfl (by first | exact aa bq rfl | assumption) rfl rfl rfl ?_
 refine WL.call (vs:=[_,_,_]) rfl Tryz.call140 rfl (fD w3 a 2 GB (GA (by omega)) (by simp only [List.length_append,bn] at l2 ⊢;omega)) rfl rfl rfl ?_
 rintro _ h4 ⟨v4,w4,t4⟩
 have bC:=w3.obj t4.1 bq (by decide) hne
 refine Gn ?_;refine Gs [(0,_),(3,_)] ?_;refine G2 ?_;refine WL.ld rfl (by first | exact aa bC rfl | assumption) rfl rfl rfl ?_
 refine WL.call (vs:=[_,_,_]) rfl Tryz.call140 rfl (fD w4 o 4 Cf (pZ (by omega)) (by simp only [List.length_append,bn] at l2 ⊢;omega)) rfl rfl rfl ?_
 rintro _ h5 ⟨v5,w5,t5⟩
 have bV:=w4.obj t5.1 bC (by decide) hne
 refine Gn ?_;refine Gs [(0,_),(3,_)] ?_;refine G2 ?_;refine WL.ld rfl (by first | exact aa bV rfl | assumption) rfl rfl rfl ?_
 refine WL.call (vs:=[_,_,_]) rfl Tryz.call140 rfl (fD w5 s 2 GB (GA (by omega)) (by simp only [List.length_append,bn] at l2 ⊢;omega)) rfl rfl rfl ?_
 rintro _ h6 ⟨v6,w6,t6⟩
 have bX:=w5.obj t6.1 bV (by decide) hne
 refine Gn ?_;refine Gs [(0,_),(3,_)] ?_;refine G2 ?_;refine WL.ld rfl (by first | exact aa bX rfl | assumption) rfl rfl rfl ?_
 refine WL.call (vs:=[_,_,_]) rfl Tryz.call140 rfl (fD w6 m 4 Cf (pZ (by omega)) (by simp only [List.length_append,bn] at l2 ⊢;omega)) rfl rfl rfl ?_
 rintro _ h7 ⟨v7,w7,t7⟩
 have ca:=w6.obj t7.1 bX (by decide) hne
 refine Gn ?_;refine Gs [(0,_),(3,_)] ?_;refine WC.region (Go ?_);refine WL.ld rfl (by first | exact aa ca rfl | assumption) rfl rfl rfl ?_
 refine WL.call (vs:=[_,_,_]) rfl Tryz.call140 rfl (fD w7 f 2 GB (GA (by omega)) (by simp only [List.length_append,bn] at l2 ⊢;omega)) rfl rfl rfl ?_
 rintro _ h8 ⟨v8,w8,t8⟩
 refine Gn ?_
 refine fA [] trivial ?_
 exact ⟨v8,by simpa [iI] using w8,((((((s1.trans t2).trans t3).trans t4).trans t5).trans t6).trans t7).trans t8⟩
theorem Hv (w:Wr g h b v l) {vr:Value} (R:List aX) (hR:cF g vr R) (hm:R.length≤100) (hc:∀ c∈R,c.bytes.length≤1000) (hl:l.length≤1000000) :
   ag Tryz.prog 142 ⟨[.pointer (some ⟨b,0,none⟩),vr]⟩ h fun _ h'=>∃ v',Wr g h' b v' (l++be R.length 2++R.flatMap dI)∧ga h b v h' v':=by
 obtain ⟨hr,⟨_,A,cc,rfl,_⟩,hok⟩:=hR
 have hfl:∀ k,((R.take k).flatMap dI).length≤110000:=fun k=>Nat.le_trans (lg R k fun x hx=>ng (hc x hx)) (by omega)
 refine calls [(0,_),(1,_)] Tryz.func142 rfl Tryz.ntmps142 rfl ⟨rfl,rfl,trivial⟩ ?_
 refine G2 ?_;refine WL.call (vs:=[_,_,_]) rfl Tryz.call140 rfl (fD w R.length 2 GB (GA (by omega)) (by omega)) rfl rfl rfl ?_
 rintro _ h1 ⟨v1,w1,t1⟩
 refine Gn ?_;refine Gs [(0,_),(1,_)] ?_;refine G2 ?_;refine WC.block ?_;refine WC.bD (X:=Nat × Value) (fun x=>([(12,In (x.1:Int))]:Fr)) [(0,_),(10,_),(11,_)] (fun y h'=>y.1≤R.length∧Wr g h' b y.2 (l++be R.length 2++(R.take y.1).flatMap dI)∧ga h b v h' y.2) (fun y=>R.length - y.1) ((0,v1)) ⟨rfl,rfl,rfl,rfl,trivial⟩ (by exact ⟨Nat.zero_le _,by simpa using w1,t1⟩) ?_
 rintro ⟨k,u⟩ h2 ⟨hk,w2,t2⟩
 dsimp only at hk w2 t2
 refine WC.sub [(12,_),(0,_),(10,_),(11,_)] ⟨rfl,rfl,rfl,rfl,trivial⟩ ?_
 dsimp only
 refine G2 ?_;refine WC.seq ?_
 refine aH 1 2 (Hb.mk fun hb=>?_) (Hb.mk fun hb=>?_)
 all_goals try (
 refine aw 1 ?_
 refine WC.skip ?_
 skip)
 all_goals try (
 refine aw 2 ?_
 refine WC.exit ?_
 repeat' (with_reducible first | refine aU ?_ | refine aD rfl ?_ | refine aJ ?_ | refine aL ?_ | refine aS ?_)
 refine Br.out (i:=1000) ?_
 skip)
 all_goals (refine Gn ?_;first | refine Br.ab ?_ | refine WC.seq ?_)
 all_goals (first | refine Br.ab ?_ | refine WC.block ?_)
 all_goals (first | refine Br.ab ?_ | refine WC.sr ?_)
 all_goals (
  first
    | (refine Br.ab ?_)
    | (obtain ⟨bL,oL,hA,hbL,hat⟩:=Rd.at_ hr (by omega)
       obtain ⟨⟨yn,yv,yb⟩,hy⟩:∃ y,R[k]?=some y:=⟨_,List.getElem?_eq_getElem (by omega)⟩
       have hyo:=(hok _ (List.mem_of_getElem? hy)).1
       have hyc:=hc _ (List.mem_of_getElem? hy)
       dsimp only at hyo hyc
       obtain ⟨yA,yc,rfl,_⟩:=id hyo
       have hcd:At h2 bL (oL+k * 2) [.bool yn,.slice yA yb.length yc]:=At.elem aX.len (hat.ext w2.ext aO) hy
       have hlk:=hfl k
       have kO:(l++be (R.length:Int) 2++(R.take k).flatMap dI).length≤2000000:=by simp only [List.length_append,bn];omega
       cases yn))
 all_goals (first | refine Br.ab ?_ | (refine WL.step (aE Tryz.underlying40 Tryz.sizeOf85 rfl rfl rfl (by omega) (by first | rfl | assumption)) rfl rfl rfl ?_))
 all_goals (first | refine Br.ab ?_ | (refine WL.step (ay Tryz.isAgg85 Tryz.sizeOf85 rfl rfl (by exact hcd)) rfl rfl rfl ?_))
 all_goals (
  first
    | (refine Br.ab ?_)
    | (refine WL.aj (an (fun w=>Tryz.zeroValue85 w)) rfl rfl rfl ?_
       rintro _ h3 ⟨b5,rfl,qR,bV,aQ⟩))
 all_goals (
  first
    | (refine Br.ab ?_)
    | (refine WL.ax (al Tryz.sizeOf85 rfl rfl rfl bV rfl (by simp [Value.oneCell'])) rfl rfl ?_
       rintro _ h4 ⟨rI,aW⟩))
 all_goals (
  first
    | (refine Br.ab ?_)
    | (have oH:Ext No h2 h4:=aQ.trans' aW (fun q hq e=>by omega)
       have w4:=w2.stay oH
       have t4:=t2.trans (.stay oH)
       have hbl:=ai w2.bm
       have hne:b5 ≠ b:=by omega))
 all_goals (refine Gn ?_;first | refine Br.ab ?_ | refine WC.seq ?_)
 all_goals (first | refine Br.ab ?_ | refine WC.sr ?_)
 all_goals (refine Go ?_;first | refine Br.ab ?_ | (refine WL.ld rfl (by first | exact aa rI rfl | assumption) rfl rfl rfl ?_))
 all_goals (refine Gn ?_;first | refine Br.ab ?_ | refine Gs [(0,_),(5,_),(10,_),(11,_),(12,_),(17,_)] ?_)
 all_goals (first | refine Br.ab ?_ | refine aH 3 4 ?_ TT.mk)
 all_goals try (
 refine aw 3 ?_
 refine G2 ?_;refine WL.call (vs:=[_,_,_]) rfl Tryz.call140 rfl (fD w4 4294967295 4 Cf (pZ (by omega)) (by omega)) rfl rfl rfl ?_
 rintro _ h5 ⟨v5,w5,t5⟩
 have tE:=t4.trans t5
 have wE:Wr g h5 b v5 (l++be (R.length:Int) 2++(R.take (k+1)).flatMap dI):=by rw [iY hy,show dI ⟨true,.slice yA yb.length yc,yb⟩=be 4294967295 4 from rfl,← List.append_assoc];exact w5
 refine Gn ?_;refine Gs [(0,_),(10,_),(11,_),(12,_)] ?_;refine WC.exit ?_
 repeat' (with_reducible first | refine aU ?_ | refine aD rfl ?_ | refine aJ ?_ | refine aL ?_ | refine aS ?_)
 refine Br.out (i:=1001) ?_
 skip)
 all_goals try (
 refine aw 4 ?_
 refine WC.skip ?_
 skip)
 all_goals (refine Gn ?_;first | refine Br.ab ?_ | refine WC.sr ?_)
 all_goals (refine Go ?_;first | refine Br.ab ?_ | (refine WL.ld rfl (by first | exact aa rI rfl | assumption) rfl rfl rfl ?_))
 all_goals (refine Go ?_)
 all_goals (
  first
    | (refine Br.ab ?_)
    | (refine WL.call (vs:=[_,_,_]) rfl Tryz.call140 rfl (fD w4 yb.length 4 Cf (pZ (by omega)) (by omega)) rfl rfl rfl ?_
       rintro _ h5 ⟨v5,w5,t5⟩
       have Hw:=w4.obj t5.1 rI (by decide) hne
       have n5:=w5.ne
       have Lq:¬ v5.ownBlock=some b5:=fun e=>by obtain ⟨_,z⟩:=bO w5.own e;rw [Hw] at z;simp at z
       have Bm:(l++be (R.length:Int) 2++(R.take k).flatMap dI++be (yb.length:Int) 4).length≤3000000:=by rw [List.length_append,bn];omega))
 all_goals (refine Gn ?_;first | refine Br.ab ?_ | refine Gs [(0,_),(5,_),(10,_),(11,_),(12,_)] ?_)
 all_goals (first | refine Br.ab ?_ | (refine WC.bW (fun h'=>Ext (fun q=>v5.ownBlock=some q) h5 h') 8 11 rfl dm ?_))
 all_goals (first | refine Br.ab ?_ | (refine WH.tk 0 rfl (fun hq hC=>ak rfl) rfl rfl rfl ?_))
 all_goals (first | refine Br.ab ?_ | (refine WH.tk 1 rfl (fun hq hC=>ak rfl) rfl rfl rfl ?_))
 all_goals (first | refine Br.ab ?_ | (refine WH.tk 2 rfl (fun hq hC=>ae rfl) rfl rfl rfl ?_))
 all_goals (first | refine Br.ab ?_ | (refine WH.tk 3 rfl (fun hq hC=>ad rfl Tryz.underlying207 rfl Tryz.sizeOf23) rfl rfl rfl ?_))
 all_goals (first | refine Br.ab ?_ | (refine WH.tk 4 rfl (fun hq hC=>aA Tryz.isAgg23 rfl (by first | exact hC.cell (by first | exact aa w5.bm rfl | assumption) (by first | exact n5 | exact Lq))) rfl rfl rfl ?_))
 all_goals (first | refine Br.ab ?_ | (refine WH.tk 5 rfl (fun hq hC=>ad rfl Tryz.underlying85 rfl Tryz.sizeOf23) rfl rfl rfl ?_))
 all_goals (first | refine Br.ab ?_ | (refine WH.tk 6 rfl (fun hq hC=>aA Tryz.isAgg23 rfl (by first | exact hC.cell (by first | exact aa Hw rfl | assumption) (by first | exact n5 | exact Lq))) rfl rfl rfl ?_))
 all_goals (first | refine Br.ab ?_ | (refine WH.one 7 (by kernel_rfl) ?_))
 all_goals (
  first
    | (refine Br.ab ?_)
    | (refine aC.run rfl (aT (sz:=1) (bytes:=1) rfl Tryz.underlying23 (show Tryz.prog.info? 5=some Tryz.t5 by kernel_rfl) rfl rfl rfl rfl (by decide) rfl rfl w5.own (hyo.aq w5.ext) (by intro c hc;obtain ⟨b,_,rfl⟩:=List.mem_map.1 hc;rfl) (by simp only [maxLen];omega) (by omega)) rfl rfl rfl ?_ (fun _=>by kernel_rfl)
       rintro v8 h8 ⟨jK,bz,tC⟩
       obtain ⟨A8,c8,rfl,_⟩:=jK.slice))
 all_goals (first | refine Br.ab ?_ | (refine ⟨fun _=>bz,?_⟩))
 all_goals (first | refine Br.ab ?_ | (refine WH.one 8 (by kernel_rfl) ?_))
 all_goals (
  first
    | (refine Br.ab ?_)
    | (refine aC.run rfl (bN.r (ae rfl)) rfl rfl rfl ?_ (fun _=>by kernel_rfl)
       rintro _ hz ⟨rfl,_⟩
       subst hz))
 all_goals (first | refine Br.ab ?_ | (refine ⟨fun e=>(by cases e),?_⟩))
 all_goals (first | refine Br.ab ?_ | (refine WH.one 9 (by kernel_rfl) ?_))
 all_goals (
  first
    | (refine Br.ab ?_)
    | (refine aC.run rfl (bN.r (ad rfl Tryz.underlying207 rfl Tryz.sizeOf23)) rfl rfl rfl ?_ (fun _=>by kernel_rfl)
       rintro _ hz ⟨rfl,_⟩
       subst hz))
 all_goals (first | refine Br.ab ?_ | (refine ⟨fun e=>(by cases e),?_⟩))
 all_goals (first | refine Br.ab ?_ | (refine WH.one 10 (by kernel_rfl) ?_))
 all_goals (
  first
    | (refine Br.ab ?_)
    | (refine aC.cO rfl (aB Tryz.sizeOf23 rfl rfl (bz.obj w5.bm n5) (Nat.le_of_ble_eq_true rfl) rfl rfl) rfl rfl ?_ (fun _=>by kernel_rfl)
       rintro _ h9 ⟨bY,bZ⟩
       have bE:=bz.obj w5.bm n5
       have sg:=w5.ext.size
       have f8:∀ q,(Value.slice A8 ((l++be (R.length:Int) 2++(R.take k).flatMap dI++be (yb.length:Int) 4).length+yb.length) c8).ownBlock=some q→v5.ownBlock=some q∨h5.size≤q:=fun q hq=>tC.elim (fun e=>.inl (e▸hq)) (fun e=>.inr (by rw [e] at hq;cases hq;exact Nat.le_refl _))
       have tE:=(t4.trans t5).trans ⟨(bz.mono fun q _ e=>.inr e).trans (bZ.mono fun q _ e=>.inl e),f8⟩
       have wE:Wr g h9 b _ (l++be (R.length:Int) 2++(R.take (k+1)).flatMap dI):=⟨bY,by rw [iY hy,show dI ⟨false,.slice yA yb.length yc,yb⟩=be yb.length 4++yb from rfl,← List.append_assoc,← List.append_assoc,List.length_append (bs:=yb),show ∀ m:List UInt8,bA (m++yb)=bA m++bA yb from fun m=>List.map_append ..];exact jK.ext bZ (fun q hq e=>by obtain ⟨_,z⟩:=bO jK hq;rw [e,bE] at z;simp at z),⟨w5.lo.1,fun q hq=>(f8 q hq).elim (fun e=>w5.lo.2 q e) (fun e=>by omega)⟩,(w5.ext.trans' bz (fun q hq e=>by have:=w5.lo.2 q e;omega)).trans' bZ (fun q hq e=>by have:=w5.lo.1;omega)⟩))
 all_goals (first | refine Br.ab ?_ | (refine ⟨fun e=>(by cases e),?_⟩))
 all_goals (first | refine Br.ab ?_ | (refine WH.done (by kernel_rfl) ?_))
 all_goals (refine Gn ?_;try (refine Br.mk (i:=1001) ?_))
 all_goals (refine Gn ?_;first | refine Br.ab ?_ | refine WC.region ?_)
 all_goals (refine Go ?_;first | refine Br.ab ?_ | (exact ⟨(k+1,_),⟨rfl,rfl,rfl,rfl,trivial⟩,(by exact ⟨by omega,wE,tE⟩),(by simp;omega)⟩))
 try (refine Br.mk (i:=1000) ?_)
 refine Gn ?_
 refine fA [] trivial ?_
 exact ⟨u,by rw [List.take_of_length_le (by omega)] at w2;exact w2,t2⟩
end
def eh (b:Bk):List UInt8 :=
 if b.kind=82 then be 0 4
 else if b.kind=83 then b.name++[0]++b.value++[0]
 else if b.kind=75 then be b.n 4++be b.m 4
 else if b.kind=90 then [UInt8.ofNat b.status.toNat]
 else if b.kind=67 then b.tag++[0]
 else if b.kind=68 then be b.row.length 2++b.row.flatMap dI
 else if b.kind=84 then be b.cols.length 2++b.cols.flatMap iI
 else if b.kind=116 then be b.oids.length 2++b.oids.flatMap fun n=>be n 4
 else if b.kind=69∨b.kind=78 then fj b.fields++[0]
 else []
theorem E0 {h:ah} (b:Bk) (hb:b.ok h) (hw:b.wf) (hmd:b.Hn) (hmay:b.may) (hk:b.kind=90∨b.kind=67∨b.kind=68∨b.kind=84∨b.kind=116∨b.kind=69∨b.kind=82∨b.kind=75∨b.kind=49∨b.kind=50∨b.kind=51∨b.kind=110∨b.kind=115∨b.kind=73) :
   ag Tryz.prog 98 ⟨[.agg ⟨b.cells⟩]⟩ h fun u h'=>∃ v',u=.tuple ⟨[.agg ⟨[.int .u8 b.kind,v']⟩,In 0]⟩∧Own h' v' 5 1 (eh b).length (bA (eh b))∧Ext No h h'∧∀ q,v'.ownBlock=some q→h.size≤q:=by
 have kc:=fun h' (hx:Ext No h h')=>lT b (hb.aq hx) hw.kind hmd
 have hst:=hw.status
 obtain ⟨JK,JL,I1,I2,Hs,Ht,I3,JM,JN,EY⟩:=hmd
 have m_c:=hmay.cols.2
 have m_o:=hmay.oids.2
 have m_n:=hmay.n
 have m_m:=hmay.m
 have hF:∀ f∈b.fields,f.t.length≤200000∧0≤f.k∧f.k≤255:=fun f hf=>⟨I3 f hf,hw.codes f hf⟩
 clear hw
 obtain ⟨ho,hc,hr,hf⟩:=hb
 generalize hE:eh b=E
 obtain ⟨k,st,t,n,v,x,y,vo,lo,vc,lc,vr,lr,vf,lf⟩:=b
 dsimp only at hk hst ho hc hr hf JK JL I1 I2 Hs Ht I3 JM JN EY m_c m_o m_n m_m hF ⊢
 have hro:=ho.1
 have hrc:=hc.1
 have hrr:=hr.1
 have hrf:=hf.1
 obtain ⟨Ao,co,rfl,_⟩:=id hro
 obtain ⟨Ac,cc,rfl,_⟩:=id hrc
 obtain ⟨Ar,cr,rfl,_⟩:=id hrr
 obtain ⟨Af,cf,rfl,_⟩:=id hrf
 dsimp only [Bk.cells] at kc ⊢
 rcases hk with rfl | rfl | rfl | rfl | rfl | rfl | rfl | rfl | rfl | rfl | rfl | rfl | rfl | rfl
 all_goals
   refine calls [(0,_)] Tryz.func98 rfl Tryz.ntmps98 rfl ⟨rfl,trivial⟩ ?_
   all_goals (refine WC.sr ?_;refine WL.aj (aG rfl) rfl rfl rfl ?_;rintro _ h1 ⟨b1,rfl,bR,aR,az⟩;refine WL.aj (an (fun w=>Tryz.zeroValue53 w)) rfl rfl rfl ?_;rintro _ h2 ⟨b2,rfl,gg,bH,aI⟩;have ia:=az.trans aI;have bT:=aI.obj aR aO;refine Go ?_;refine WC.seq ?_;refine WC.sr ?_;refine WL.step (ay Tryz.isAgg140 Tryz.sizeOf140 rfl rfl (by exact At.av bT)) rfl rfl rfl ?_;refine WL.call (vs:=[_]) rfl Tryz.call139 rfl (kc _ ia) rfl rfl rfl ?_;rintro _ h3 ⟨⟨e,rfl,he⟩,aQ⟩;obtain rfl:=he.2 hmay;have cw:=aQ.obj bT aO;have mg:=aQ.obj bH aO;have ma:=ia.trans aQ;refine Go ?_;refine Gs [(1,_),(2,_),(4,_)] ?_;refine G2 ?_;refine aH 1 2 ?_ TT.mk;refine aw 2 ?_;refine WC.skip ?_;refine Gn ?_;refine WC.sr ?_;refine WL.step (aF (vs:=[]) (cs:=[_]) (fun | []=>[(.slice none 0 0)] | _=>[]) rfl rfl (by kernel_rfl)) rfl rfl rfl ?_;refine WL.aj (aG rfl) rfl rfl rfl ?_;rintro _ h4 ⟨b5,rfl,qR,bV,aW⟩;have bJ:=aW.obj cw aO;have l1:=ai cw;have l2:=ai mg;have w4:Wr h3 h4 b5 jE []:=⟨bV,Own.nil _ _ _,⟨by omega,by simp [Value.ownBlock]⟩,aW⟩;refine Go ?_;refine Gs [(1,_),(2,_),(5,_)] ?_;refine G3 ?_;refine WL.ld rfl (by first | exact aa bJ rfl | assumption) rfl rfl rfl ?_;first | (have MN:E=[]:=(by rw [← hE];rfl);rename ah=>h6) | skip)
   all_goals (refine Gn ?_;refine WC.block ?_;refine G2 ?_;refine aH 3 4 ?_ TT.mk)
   all_goals try (
   refine aw 3 ?_
   all_goals (refine WC.region (Go ?_);refine WL.call (vs:=[_,_,_]) rfl Tryz.call140 rfl (fD w4 0 4 Cf (pZ (by omega)) (by decide)) rfl rfl rfl ?_;rintro _ h6 ⟨v6,Cg,t6⟩;(have wE:Wr h3 h6 b5 v6 E:=by rw [← hE];simpa [eh] using Cg);refine Gn ?_)
   skip)
   all_goals try (
   refine aw 4 ?_
   all_goals (refine G2 ?_;refine Gs [(1,_),(2,_),(5,_),(19,_),(24,_)] ?_;refine aH 5 6 ?_ TT.mk;refine aw 6 ?_;refine G2 ?_;refine aH 7 8 ?_ TT.mk)
   all_goals try (
   refine aw 7 ?_
   all_goals (refine G2 ?_;refine WL.ld rfl (by first | exact aa bJ rfl | assumption) rfl rfl rfl ?_;refine WL.call (vs:=[_,_,_]) rfl Tryz.call140 rfl (fD w4 x 4 Cf (pZ (by omega)) (by decide)) rfl rfl rfl ?_;rintro _ h5 ⟨v5,w5,t5⟩;have db:=w5.ext.obj cw aO;refine Gn ?_;refine Gs [(1,_),(2,_),(5,_)] ?_;refine WC.region (Go ?_);refine WL.ld rfl (by first | exact aa db rfl | assumption) rfl rfl rfl ?_;refine WL.call (vs:=[_,_,_]) rfl Tryz.call140 rfl (fD w5 y 4 Cf (pZ (by omega)) (by simp only [List.length_append,bn,List.length_nil];omega)) rfl rfl rfl ?_;rintro _ h6 ⟨v6,Cg,t6⟩;(have wE:Wr h3 h6 b5 v6 E:=by rw [← hE];simpa [eh] using Cg);refine Gn ?_)
   skip)
   all_goals try (
   refine aw 8 ?_
   all_goals (refine G2 ?_;refine Gs [(1,_),(2,_),(5,_),(19,_),(44,_)] ?_;refine aH 9 10 ?_ TT.mk)
   all_goals try (
   refine aw 9 ?_
   all_goals (refine WC.region (Go ?_);refine WL.ld rfl (by first | exact aa bJ rfl | assumption) rfl rfl rfl ?_;refine WL.aj (au (vs:=[_]) (cs:=[_]) (fun | [a0]=>[a0] | _=>[]) Tryz.underlying23 rfl rfl (by kernel_rfl)) rfl rfl rfl ?_;rintro _ h5 ⟨b6,rfl,qQ,bX,aM⟩;refine WL.step (ae rfl) rfl rfl rfl (Go ?_);refine WL.ax (aB Tryz.sizeOf23 rfl rfl (aM.obj w4.bm aO) (Nat.le_of_ble_eq_true rfl) rfl rfl) rfl rfl ?_;rintro _ h6 ⟨E1,aN⟩)
   all_goals (
    have OE:=ai w4.bm
    have JR:=aN.obj bX (fun e=>by omega)
    have w6:Wr h3 h6 b5 _ ([UInt8.ofNat st.toNat]):=⟨E1,dE (by show h6[b6]?=some (.cells ⟨bA [UInt8.ofNat st.toNat]⟩ 5 (0,0));rw [show bA [UInt8.ofNat st.toNat]=[.int .u8 st] by simp only [bA,List.map_cons,List.map_nil];exact congrArg (fun z=>[z]) (JP hst.1 hst.2)];exact JR) rfl (by decide),⟨w4.lo.1,fun q hq=>by have:b6=q:=(by simpa [Value.ownBlock] using hq);have:=aW.size;omega⟩,(w4.ext.trans aM).trans' aN (fun q hq e=>by have:=w4.lo.1;omega)⟩
    rw [show [UInt8.ofNat st.toNat]=E by rw [← hE];simp [eh]] at w6
    have wE:=w6)
   all_goals (refine Gn ?_)
   skip)
   all_goals try (
   refine aw 10 ?_
   all_goals (refine G2 ?_;refine aH 11 12 ?_ TT.mk)
   all_goals try (
   refine aw 11 ?_
   all_goals (refine WC.region (Go ?_);refine WL.ld rfl (by first | exact aa bJ rfl | assumption) rfl rfl rfl ?_;refine WL.call (vs:=[_,_]) rfl Tryz.call141 rfl (za w4 t (by simp only [List.length_nil];omega)) rfl rfl rfl ?_;rintro _ h6 ⟨v6,Cg,t6⟩;(have wE:Wr h3 h6 b5 v6 E:=by rw [← hE];simpa [eh] using Cg);refine Gn ?_)
   skip)
   all_goals try (
   refine aw 12 ?_
   all_goals (refine G2 ?_;refine Gs [(1,_),(2,_),(5,_),(19,_),(58,_)] ?_;refine aH 13 14 ?_ TT.mk)
   all_goals try (
   refine aw 13 ?_
   all_goals (refine WC.region (Go ?_);refine WL.ld rfl (by first | exact aa bJ rfl | assumption) rfl rfl rfl ?_;refine WL.call (vs:=[_,_]) rfl Tryz.call142 rfl (Hv w4 lr (hr.aq ma) I1 Ht (by decide)) rfl rfl rfl ?_;rintro _ h6 ⟨v6,Cg,t6⟩;(have wE:Wr h3 h6 b5 v6 E:=by rw [← hE];simpa [eh] using Cg);refine Gn ?_)
   skip)
   all_goals try (
   refine aw 14 ?_
   all_goals (refine G2 ?_;refine aH 15 16 ?_ TT.mk)
   all_goals try (
   refine aw 15 ?_
   all_goals (refine G2 ?_;refine WL.ld rfl (by first | exact aa bJ rfl | assumption) rfl rfl rfl (Go ?_);refine WL.call (vs:=[_,_,_]) rfl Tryz.call140 rfl (fD w4 (lc.length:Int) 2 GB (GA (by omega)) (by decide)) rfl rfl rfl ?_;rintro _ h5 ⟨v5,w5,t5⟩;have db:=w5.ext.obj cw aO;refine Gn ?_;refine Gs [(1,_),(2,_),(5,_)] ?_;refine G2 ?_;refine WL.ld rfl (by first | exact aa db rfl | assumption) rfl rfl rfl ?_;(have hfl:∀ j,((lc.take j).flatMap iI).length≤110000:=fun j=>Nat.le_trans (lg lc j fun x hx=>nc (Hs x hx)) (by omega));refine Go ?_;refine WC.block ?_)
   all_goals (refine WC.bD (X:=Nat × Value) (fun x=>([(74,In (x.1:Int))]:Fr)) [(1,_),(2,_),(5,_),(72,_),(73,_)] (fun y h'=>y.1≤lc.length∧Wr h3 h' b5 y.2 (be (lc.length:Int) 2++(lc.take y.1).flatMap iI)) (fun y=>lc.length - y.1) ((0,v5)) ⟨rfl,rfl,rfl,rfl,rfl,rfl,trivial⟩ (by exact ⟨Nat.zero_le _,by simpa using w5⟩) ?_;rintro ⟨j,v6⟩ h6 ⟨hj,w6⟩;dsimp only at hj w6)
   all_goals (refine WC.sub [(74,_),(1,_),(2,_),(5,_),(72,_),(73,_)] ⟨rfl,rfl,rfl,rfl,rfl,rfl,trivial⟩ ?_;dsimp only)
   all_goals (refine G2 ?_;refine WC.seq ?_;refine aH 17 18 (Hb.mk fun hb=>?_) (Hb.mk fun hb=>?_))
   all_goals try (
   refine aw 17 ?_
   all_goals (refine WC.skip ?_)
   skip)
   all_goals try (
   refine aw 18 ?_
   all_goals (refine WC.exit ?_;repeat' (with_reducible first | refine aU ?_ | refine aD rfl ?_ | refine aJ ?_ | refine aL ?_ | refine aS ?_))
   all_goals (refine Br.out (i:=1001) ?_)
   skip)
   all_goals (refine Gn ?_;first | refine Br.ab ?_ | refine WC.seq ?_)
   all_goals (first | refine Br.ab ?_ | refine WC.block ?_)
   all_goals (first | refine Br.ab ?_ | refine WC.sr ?_)
   all_goals (
    first
      | (refine Br.ab ?_)
      | (obtain ⟨bL,oL,hA,hbL,hat⟩:=Rd.at_ (hrc.aq ma) (by omega)
         obtain ⟨yy,hy⟩:∃ y,lc[j]?=some y:=⟨_,List.getElem?_eq_getElem (by omega)⟩
         have hyn:=Hs _ (List.mem_of_getElem? hy)
         have hyc:=m_c _ (List.mem_of_getElem? hy)
         have hcd:At h6 bL (oL+j * 7) yy.cells:=At.elem cA.len (hat.ext w6.ext aO) hy
         have hlj:=hfl j))
   all_goals (first | refine Br.ab ?_ | (refine WL.step (aE Tryz.underlying137 Tryz.sizeOf212 rfl rfl rfl (by omega) (by first | rfl | assumption)) rfl rfl rfl ?_))
   all_goals (first | refine Br.ab ?_ | (refine WL.step (ay Tryz.isAgg212 Tryz.sizeOf212 rfl rfl (by exact hcd)) rfl rfl rfl ?_))
   all_goals (
    first
      | (refine Br.ab ?_)
      | (refine WL.aj (an (fun w=>Tryz.zeroValue212 w)) rfl rfl rfl ?_
         rintro _ h7 ⟨b7,rfl,xG,ca,ba⟩))
   all_goals (
    first
      | (refine Br.ab ?_)
      | (refine WL.ax (al Tryz.sizeOf212 rfl rfl rfl ca rfl (by simp [cA.cells,Value.oneCell'])) rfl rfl ?_
         rintro _ h8 ⟨bE,bz⟩))
   all_goals (first | refine Br.ab ?_ | (have lO:Ext No h6 h8:=ba.trans' bz (fun q hq e=>by omega)))
   all_goals (refine Gn ?_;first | refine Br.ab ?_ | refine WC.region ?_)
   all_goals (refine Go ?_;first | refine Br.ab ?_ | (refine WL.step (ay Tryz.isAgg212 Tryz.sizeOf212 rfl rfl (by exact At.av bE)) rfl rfl rfl ?_))
   all_goals (
    first
      | (refine Br.ab ?_)
      | (refine WL.call (vs:=[_,_]) rfl Tryz.call143 rfl (zb (w6.stay lO) yy hyc hyn (by simp only [List.length_append,bn];omega)) rfl rfl rfl ?_
         rintro _ h9 ⟨v9,w9,t9⟩))
   all_goals (refine Gn ?_;first | refine Br.ab ?_ | refine Gs [(1,_),(2,_),(5,_),(72,_),(73,_),(74,_)] ?_)
   all_goals (first | refine Br.ab ?_ | refine WC.region ?_)
   all_goals (refine Go ?_;first | refine Br.ab ?_ | (exact ⟨(j+1,_),⟨rfl,rfl,rfl,rfl,rfl,rfl,trivial⟩,(by exact ⟨by omega,by rw [iY hy,← List.append_assoc];exact w9⟩),(by simp;omega)⟩))
   all_goals (try (refine Br.mk (i:=1001) ?_))
   skip)
   all_goals try (
   refine aw 16 ?_
   all_goals (refine G2 ?_;refine Gs [(1,_),(2,_),(5,_),(19,_),(82,_)] ?_;refine aH 19 20 ?_ TT.mk)
   all_goals try (
   refine aw 19 ?_
   all_goals (refine G2 ?_;refine WL.ld rfl (by first | exact aa bJ rfl | assumption) rfl rfl rfl (Go ?_);refine WL.call (vs:=[_,_,_]) rfl Tryz.call140 rfl (fD w4 (lo.length:Int) 2 GB (GA (by omega)) (by decide)) rfl rfl rfl ?_;rintro _ h5 ⟨v5,w5,t5⟩;have db:=w5.ext.obj cw aO;refine Gn ?_;refine Gs [(1,_),(2,_),(5,_)] ?_;refine G2 ?_;refine WL.ld rfl (by first | exact aa db rfl | assumption) rfl rfl rfl ?_;(have hfl:∀ j,((lo.take j).flatMap fun n=>be n 4).length≤1000:=fun j=>Nat.le_trans (lg (n:=4) lo j fun x hx=>by rw [bn];omega) (by omega));refine Go ?_;refine WC.block ?_)
   all_goals (refine WC.bD (X:=Nat × Value) (fun x=>([(92,In (x.1:Int))]:Fr)) [(1,_),(2,_),(5,_),(90,_),(91,_)] (fun y h'=>y.1≤lo.length∧Wr h3 h' b5 y.2 (be (lo.length:Int) 2++(lo.take y.1).flatMap fun n=>be n 4)) (fun y=>lo.length - y.1) ((0,v5)) ⟨rfl,rfl,rfl,rfl,rfl,rfl,trivial⟩ (by exact ⟨Nat.zero_le _,by simpa using w5⟩) ?_;rintro ⟨j,v6⟩ h6 ⟨hj,w6⟩;dsimp only at hj w6)
   all_goals (refine WC.sub [(92,_),(1,_),(2,_),(5,_),(90,_),(91,_)] ⟨rfl,rfl,rfl,rfl,rfl,rfl,trivial⟩ ?_;dsimp only)
   all_goals (refine G2 ?_;refine WC.seq ?_;refine aH 21 22 (Hb.mk fun hb=>?_) (Hb.mk fun hb=>?_))
   all_goals try (
   refine aw 21 ?_
   all_goals (refine WC.skip ?_)
   skip)
   all_goals try (
   refine aw 22 ?_
   all_goals (refine WC.exit ?_;repeat' (with_reducible first | refine aU ?_ | refine aD rfl ?_ | refine aJ ?_ | refine aL ?_ | refine aS ?_))
   all_goals (refine Br.out (i:=1003) ?_)
   skip)
   all_goals (refine Gn ?_;first | refine Br.ab ?_ | refine WC.seq ?_)
   all_goals (first | refine Br.ab ?_ | refine WC.block ?_)
   all_goals (first | refine Br.ab ?_ | refine WC.sr ?_)
   all_goals (
    first
      | (refine Br.ab ?_)
      | (obtain ⟨bL,oL,hA,hbL,hat⟩:=Rd.at_ (hro.aq ma) (by omega)
         obtain ⟨yy,hy⟩:∃ y,lo[j]?=some y:=⟨_,List.getElem?_eq_getElem (by omega)⟩
         have hyo:=m_o _ (List.mem_of_getElem? hy)
         have hcd:cell h6 ⟨bL,oL+j * 1,none⟩=some (In yy):=(hat.ext w6.ext aO).get j (gT hy) (by omega)
         have hlj:=hfl j))
   all_goals (first | refine Br.ab ?_ | (refine WL.step (aE Tryz.underlying39 Tryz.sizeOf3 rfl rfl rfl (by omega) (by first | rfl | assumption)) rfl rfl rfl ?_))
   all_goals (first | refine Br.ab ?_ | (refine WL.ld rfl (by first | exact hcd | assumption) rfl rfl rfl ?_))
   all_goals (refine Go ?_;first | refine Br.ab ?_ | refine WC.region ?_)
   all_goals (refine Go ?_)
   all_goals (
    first
      | (refine Br.ab ?_)
      | (refine WL.call (vs:=[_,_,_]) rfl Tryz.call140 rfl (fD w6 yy 4 Cf (pZ (by omega)) (by simp only [List.length_append,bn];omega)) rfl rfl rfl ?_
         rintro _ h9 ⟨v9,w9,t9⟩))
   all_goals (refine Gn ?_;first | refine Br.ab ?_ | refine Gs [(1,_),(2,_),(5,_),(90,_),(91,_),(92,_)] ?_)
   all_goals (first | refine Br.ab ?_ | refine WC.region ?_)
   all_goals (refine Go ?_;first | refine Br.ab ?_ | (exact ⟨(j+1,_),⟨rfl,rfl,rfl,rfl,rfl,rfl,trivial⟩,(by exact ⟨by omega,by rw [iY hy,← List.append_assoc];exact w9⟩),(by simp;omega)⟩))
   all_goals (try (refine Br.mk (i:=1003) ?_))
   skip)
   all_goals try (
   refine aw 20 ?_
   all_goals (refine G3 ?_;refine aH 23 24 ?_ TT.mk)
   all_goals try (
   refine aw 23 ?_
   all_goals (refine WC.skip ?_)
   skip)
   all_goals try (
   refine aw 24 ?_
   all_goals (refine WC.region (Go ?_))
   skip)
   all_goals (refine Gn ?_;refine aH 25 26 ?_ TT.mk)
   all_goals try (
   refine aw 25 ?_
   all_goals (refine WC.region (Go ?_);refine WL.ld rfl (by first | exact aa bJ rfl | assumption) rfl rfl rfl ?_;refine WL.call (vs:=[_,_]) rfl Tryz.call144 rfl (y8 lf w4 (hf.1.aq ma) hF I2) rfl rfl rfl ?_;rintro _ h6 ⟨v6,Cg,t6⟩;(have wE:Wr h3 h6 b5 v6 E:=by rw [← hE];simpa [eh] using Cg);refine Gn ?_)
   skip)
   all_goals try (
   refine aw 26 ?_
   all_goals (refine WC.skip ?_)
   skip)
   skip)
   skip)
   skip)
   skip)
   skip)
   skip)
   skip)
   all_goals (refine Gn ?_;refine WC.seq ?_;refine WC.bW (fun h'=>Ext No h6 h') 7 9 rfl dm ?_)
   all_goals (
    first
     | (have:=wE;clear this)
     | (rw [List.take_of_length_le (by omega)] at w6
        have wE:Wr h3 h6 b5 v6 E:=by rw [← hE];simpa [eh] using w6)
     | (have wE:Wr h3 h6 b5 jE E:=by rw [MN];exact w4)
    have dx:=wE.ext.obj cw aO
    have kU:=wE.ext.obj mg aO
    have E2:=wE.own
    obtain ⟨A6,c6,e6,_⟩:=E2.slice
    rw [e6] at wE E2)
   all_goals (refine WH.tk 0 rfl (fun hq hC=>ad rfl Tryz.underlying140 rfl Tryz.sizeOf5) rfl rfl rfl ?_;refine WH.tk 1 rfl (fun hq hC=>aA Tryz.isAgg5 rfl (by first | exact hC.cell (by first | exact aa dx rfl | assumption) aO)) rfl rfl rfl ?_;refine WH.tk 2 rfl (fun hq hC=>ak rfl) rfl rfl rfl ?_;refine WH.tk 3 rfl (fun hq hC=>ae rfl) rfl rfl rfl ?_;refine WH.tk 4 rfl (fun hq hC=>ad rfl Tryz.underlying207 rfl Tryz.sizeOf23) rfl rfl rfl ?_;refine WH.tk 5 rfl (fun hq hC=>aA Tryz.isAgg23 rfl (by first | exact hC.cell (by first | exact aa wE.bm rfl | assumption) aO)) rfl rfl rfl ?_;refine WH.tk 6 rfl (fun hq hC=>aF (vs:=[_,_]) (cs:=[_,_]) (fun | [a0,a1]=>[a0,a1] | _=>[]) rfl rfl (by kernel_rfl)) rfl rfl rfl ?_;refine WH.one 7 (by kernel_rfl) ?_;refine aC.cO rfl (al Tryz.sizeOf53 rfl rfl rfl kU rfl (by simp [Value.oneCell'])) rfl rfl ?_ (fun _=>by kernel_rfl);rintro _ h7 ⟨ca,ba⟩;refine ⟨fun e=>(by cases e),?_⟩;refine WH.one 8 (by kernel_rfl) ?_;refine aC.run rfl (bN.r (aP rfl)) rfl rfl rfl ?_ (fun _=>by kernel_rfl);rintro _ hz ⟨rfl,_⟩;subst hz;refine ⟨fun e=>(by cases e),?_⟩;refine WH.done (by kernel_rfl) ?_;refine Gn ?_;refine Gs [(2,_),(3,_)] ?_;refine WC.ret ?_;repeat' (with_reducible first | refine aZ ?_ | refine aV ?_))
   all_goals (refine cV _ _ ⟨⟨_,rfl,bB Tryz.isAgg53 Tryz.sizeOf53 ca rfl⟩,rfl,trivial⟩ ?_;exact ⟨_,rfl,E2.ext ba (fun q hq e=>by obtain ⟨_,z⟩:=bO E2 hq;rw [e,kU] at z;simp at z),(ma.trans wE.ext).trans' ba (fun q hq e=>by have:=az.size;omega),fun q hq=>by have:=wE.lo.2 q hq;have:=ma.size;omega⟩)
theorem zc {h:ah} (b:Bk) (hb:b.ok h) (hw:0≤b.kind∧b.kind≤255) (hmd:b.Hn) (hmay:¬ b.may) :
   ag Tryz.prog 98 ⟨[.agg ⟨b.cells⟩]⟩ h fun u h'=>∃ e:Int,e ≠ 0∧u=.tuple ⟨[.agg ⟨[.int .u8 0,jE]⟩,In e]⟩∧Ext No h h':=by
 have kc:=fun h' (hx:Ext No h h')=>lT b (hb.aq hx) hw hmd
 have OG:Ext No h h:=.refl _ _
 clear hmd
 obtain ⟨ho,hc,hr,hf⟩:=hb
 obtain ⟨k,st,t,n,v,x,y,vo,lo,vc,lc,vr,lr,vf,lf⟩:=b
 dsimp only at ho hc hr hf
 obtain ⟨Ao,co,rfl,_⟩:=id ho.1
 obtain ⟨Ac,cc,rfl,_⟩:=id hc.1
 obtain ⟨Ar,cr,rfl,_⟩:=id hr.1
 obtain ⟨Af,cf,rfl,_⟩:=id hf.1
 dsimp only [Bk.cells] at kc ⊢
 refine calls [(0,_)] Tryz.func98 rfl Tryz.ntmps98 rfl ⟨rfl,trivial⟩ ?_
 refine WC.sr ?_;refine WL.aj (aG rfl) rfl rfl rfl ?_
 rintro _ h1 ⟨b1,rfl,bR,aR,az⟩
 refine WL.aj (an (fun w=>Tryz.zeroValue53 w)) rfl rfl rfl ?_
 rintro _ h2 ⟨b2,rfl,gg,bH,aI⟩
 have ia:=az.trans aI
 have bT:=aI.obj aR aO
 refine Go ?_;refine WC.seq ?_;refine WC.sr ?_;refine WL.step (ay Tryz.isAgg140 Tryz.sizeOf140 rfl rfl (by exact At.av bT)) rfl rfl rfl ?_
 refine WL.call (vs:=[_]) rfl Tryz.call139 rfl (kc _ ia) rfl rfl rfl ?_
 rintro _ h3 ⟨⟨e,rfl,he⟩,aQ⟩
 have hne:e ≠ 0:=fun z=>hmay (he.1 z)
 have mg:=aQ.obj bH aO
 have ma:=ia.trans aQ
 refine Go ?_;refine Gs [(1,_),(2,_),(4,_)] ?_;refine G2 ?_
 refine aH 1 2 ?_ TT.mk
 all_goals (refine aw 1 ?_)
 refine WC.sr ?_;refine WL.step (aF (vs:=[]) (cs:=[_,_]) (fun | []=>[(.int .u8 0),(.slice none 0 0)] | _=>[]) rfl rfl (by kernel_rfl)) rfl rfl rfl (Go ?_)
 refine WL.ax (al Tryz.sizeOf53 rfl rfl rfl mg rfl (by simp [Value.oneCell'])) rfl rfl ?_
 rintro _ h4 ⟨bC,aW⟩
 refine Go ?_;refine Gs [(2,_),(3,_)] ?_;refine WC.ret ?_
 repeat' (with_reducible first | refine aZ ?_ | refine aV ?_)
 refine cV _ _ ⟨⟨_,rfl,bB Tryz.isAgg53 Tryz.sizeOf53 bC rfl⟩,rfl,trivial⟩ ?_
 exact ⟨_,hne,rfl,ma.trans' aW (fun q hq e=>by have:=az.size;omega)⟩
end Go.Proofs.YtopgddfgefnmbaaGreatDoor
namespace Go.RK
open Go
section
variable {P:Program} {f:Fr} {h:ah} {d:Option Tmp} {ty:TypeId} {pos:String} {af:Array Edge} {g:Option (Nat × Bool)}
theorem fE {x:Operand} {t:TypeId} {v:Value} (hu:∃ u,P.underlying t=some u∧∀ ms,u ≠ .interface ms) (hx:f.ev x=some v):bN P f ⟨d,.makeInterface t x,ty,pos,af,g⟩ h (.iface t v):=fun ρ w ha _=>by
 obtain ⟨u,h1,h2⟩:=hu
 have key:(Instr.makeInterface t v).run P w=.ok (.iface t v) w:=by
   simp only [Instr.makeInterface,Sem.run_bind,run_underlying h1,Result.andThen_ok]
   cases u <;> first | rfl | exact absurd rfl (h2 _)
 simp [execOp,ha _ _ hx,key]
theorem zd {t t2 u:TypeId} {x y:Operand} {v:Value} (hu:P.underlying t=some (.interface (P.methodsAt t))) (hx:f.ev x=some (.iface u v)) (hy:f.ev y=some .nilIface):bN P f ⟨d,.binOp .eql t x y t2,ty,pos,af,g⟩ h (.bool false):=fun ρ w ha _=>by
 simp [execOp,ha _ _ hx,ha _ _ hy,eqGuard_at_iface,run_eql_held_nil w t u v hu]
theorem fF {t t2 u:TypeId} {x y:Operand} {v:Value} (hu:P.underlying t=some (.interface (P.methodsAt t))) (hx:f.ev x=some (.iface u v)) (hy:f.ev y=some .nilIface):bN P f ⟨d,.binOp .neq t x y t2,ty,pos,af,g⟩ h (.bool true):=fun ρ w ha _=>by
 simp [execOp,ha _ _ hx,ha _ _ hy,eqGuard_at_iface,run_neq_held_nil w t u v hu]
theorem rX {t t2:TypeId} {x:Operand} {c:Value} (hu:P.underlying t=some (.interface (P.methodsAt t))) (hx:f.ev x=some .nilIface) (hy:f.ev (.const c)=some .nilIface):bN P f ⟨d,.binOp .eql t x (.const c) t2,ty,pos,af,g⟩ h (.bool true):=fun ρ w ha _=>by
 have:=ha _ _ hy
 simp [execOp,ha _ _ hx,this,eqGuard_nil_constR,run_eql_nil_nil w t hu]
theorem cL {t t2:TypeId} {x:Operand} {c:Value} (hu:P.underlying t=some (.interface (P.methodsAt t))) (hx:f.ev x=some .nilIface) (hy:f.ev (.const c)=some .nilIface):bN P f ⟨d,.binOp .neq t x (.const c) t2,ty,pos,af,g⟩ h (.bool false):=fun ρ w ha _=>by
 have:=ha _ _ hy
 simp [execOp,ha _ _ hx,this,eqGuard_nil_constR,run_neq_nil_nil w t hu]
end
end Go.RK
namespace Go.Proofs.YtopgddfgefnmbaaGreatDoor
open Go Go.RK
abbrev p4:List UInt8:=([98,101,103,105,110]:List UInt8)
theorem ze {h:ah} (y:UInt8) (s:List UInt8) (c:Int) (hy:(y.toNat:Int) ≠ c) (hm:s.length≤1000000):ag Tryz.prog 280 ⟨[St (y :: s),.int .u8 c]⟩ h fun u h'=>u=St (y :: s)∧h'=h:=by
 have e0:(y :: s)[0]?=some y:=rfl
 refine calls [(0,_),(1,_)] Tryz.func280 rfl Tryz.ntmps280 rfl ⟨rfl,rfl,trivial⟩ ?_
 refine G2 ?_;refine WC.seq ?_;refine WC.block ?_;refine WC.bD (X:=Unit) (fun x=>([(0,St (y :: s))]:Fr)) [(1,_)] (fun _ h'=>h'=h) (fun _=>0) (()) ⟨rfl,rfl,trivial⟩ (by exact rfl) ?_
 rintro _ h1 hz
 subst hz
 refine WC.sub [(0,_),(1,_)] ⟨rfl,rfl,trivial⟩ ?_;refine G3 ?_
 refine bK 8 (Hb.mk fun hb=>?_) (Hb.mk fun hb=>?_)
 all_goals (refine Gg ?_;first | refine WL.pass rfl rfl rfl ?_ | (refine WL.step (cP Tryz.underlying9 rfl rfl (by omega) e0) rfl rfl rfl ?_))
 all_goals (refine Gg ?_;refine Go ?_;refine Gs [(0,_),(1,_),(13,_)] ?_;refine aH 1 2 ?_ TT.mk;refine aw 2 ?_;refine WC.exit ?_;repeat' (with_reducible first | refine aU ?_ | refine aD rfl ?_ | refine aJ ?_ | refine aL ?_ | refine aS ?_))
 all_goals (refine Br.out (i:=1000) ?_;refine Gn ?_;refine Br.ab ?_;refine Br.ab ?_;refine Go ?_;refine Br.ab ?_;refine Go ?_;refine Br.ab ?_;try (refine Br.mk (i:=1000) ?_))
 all_goals (refine Gn ?_;refine G2 ?_;refine Gs [(4,_)] ?_;refine Gt ?_;first | exact ⟨rfl,rfl⟩ | (exfalso;simp at *;omega))
theorem zf {h:ah} (y:UInt8) (s:List UInt8) (c:Int) (hy:(y.toNat:Int) ≠ c) (hm:s.length≤1000000):ag Tryz.prog 281 ⟨[St (s++[y]),.int .u8 c]⟩ h fun u h'=>u=St (s++[y])∧h'=h:=by
 have e0:(s++[y])[s.length]?=some y:=by simp
 have el:(s++[y]).length=s.length+1:=by simp
 generalize s++[y]=t at *
 refine calls [(0,_),(1,_)] Tryz.func281 rfl Tryz.ntmps281 rfl ⟨rfl,rfl,trivial⟩ ?_
 refine G2 ?_;refine WC.seq ?_;refine WC.block ?_;refine WC.bD (X:=Unit) (fun x=>([(0,St t)]:Fr)) [(1,_)] (fun _ h'=>h'=h) (fun _=>0) (()) ⟨rfl,rfl,trivial⟩ (by exact rfl) ?_
 rintro _ h1 hz
 subst hz
 refine WC.sub [(0,_),(1,_)] ⟨rfl,rfl,trivial⟩ ?_;refine G3 ?_
 refine bK 8 ?_ TT.mk
 refine WL.step (ak rfl) rfl rfl rfl ?_;refine WL.step (ak rfl) rfl rfl rfl ?_;refine WL.step (jU rfl Tryz.underlying9 rfl) rfl rfl rfl ?_;refine WL.step (eY rfl rfl (by omega)) rfl rfl rfl ?_
 rw [show ((t.length:Int) - 1)=((s.length:Nat):Int) by omega]
 refine WL.step (cP Tryz.underlying9 rfl rfl (by omega) e0) rfl rfl rfl ?_
 refine Gg ?_;refine Go ?_;refine Gs [(0,_),(1,_),(16,_)] ?_
 refine aH 1 2 ?_ TT.mk
 all_goals (refine aw 2 ?_)
 refine WC.exit ?_
 repeat' (with_reducible first | refine aU ?_ | refine aD rfl ?_ | refine aJ ?_ | refine aL ?_ | refine aS ?_)
 refine Br.out (i:=1000) ?_;refine Gn ?_;refine Br.ab ?_;refine Br.ab ?_;refine Go ?_;refine Br.ab ?_;refine Go ?_;refine Br.ab ?_
 try (refine Br.mk (i:=1000) ?_)
 refine Gn ?_;refine G2 ?_;refine Gs [(4,_)] ?_;refine Gt ?_
 first | exact ⟨rfl,rfl⟩ | (exfalso;simp at *;omega)
theorem Ch {h:ah} (y z:UInt8) (s:List UInt8) (hy:y ≠ 32) (hz:z ≠ 32) (hm:s.length≤1000):ag Tryz.prog 251 ⟨[St (y :: (s++[z])),St [32]]⟩ h fun u h'=>u=St (y :: (s++[z]))∧h'=h:=by
 have hy':(y.toNat:Int) ≠ 32:=fun e=>hy (UInt8.toNat_inj.1 (by show _=32;omega))
 have hz':(z.toNat:Int) ≠ 32:=fun e=>hz (UInt8.toNat_inj.1 (by show _=32;omega))
 have k1:=zf (h:=h) z (y :: s) 32 hz' (by simp;omega)
 have k2:=ze (h:=h) y (s++[z]) 32 hy' (by simp;omega)
 rw [List.cons_append] at k1
 have hne:y :: (s++[z]) ≠ []:=by simp
 generalize y :: (s++[z])=t at *
 have e0:([32]:List UInt8)[0]?=some 32:=rfl
 refine calls [(0,_),(1,_)] Tryz.func251 rfl Tryz.ntmps251 rfl ⟨rfl,rfl,trivial⟩ ?_
 refine G2 ?_;refine G3 ?_
 refine bK 9 ?_ TT.mk
 refine Gg ?_;refine Go ?_;refine Gs [(0,_),(1,_),(12,_)] ?_
 refine aH 1 2 ?_ TT.mk
 all_goals (refine aw 2 ?_)
 refine WC.skip ?_;refine Gn ?_;refine G3 ?_
 refine bK 17 ?_ TT.mk
 refine Gg ?_;refine WL.step (cP Tryz.underlying9 rfl rfl (by omega) e0) rfl rfl rfl ?_
 refine Gg ?_;refine Go ?_;refine Gs [(0,_),(1,_),(21,_)] ?_
 refine aH 3 4 ?_ TT.mk
 all_goals (refine aw 3 ?_)
 refine WC.seq ?_;refine WC.bW (fun h'=>h'=h) 7 8 rfl dm ?_
 refine WH.tk 0 rfl (fun hq hC=>ak rfl) rfl rfl rfl ?_ (hC:=rfl)
 refine WH.tk 1 rfl (fun hq hC=>ak rfl) rfl rfl rfl ?_ (hC:=rfl)
 refine WH.tk 2 rfl (fun hq hC=>cP Tryz.underlying9 rfl rfl (by omega) e0) rfl rfl rfl ?_ (hC:=rfl)
 refine WH.tk 4 rfl (fun hq hC=>ak rfl) rfl rfl rfl ?_ (hC:=rfl)
 refine WH.tk 5 rfl (fun hq hC=>cP Tryz.underlying9 rfl rfl (by omega) e0) rfl rfl rfl ?_ (hC:=rfl)
 refine WH.one 3 (by kernel_rfl) ?_
 refine aC.call (vs:=[_,_]) rfl rfl Tryz.call281 rfl (k1) rfl rfl rfl ?_ (fun _=>by kernel_rfl)
 rintro _ hq ⟨rfl,iV⟩
 subst iV
 refine ⟨fun _=>rfl,?_⟩
 refine WH.one 6 (by kernel_rfl) ?_
 refine aC.call (vs:=[_,_]) rfl rfl Tryz.call280 rfl (k2) rfl rfl rfl ?_ (fun _=>by kernel_rfl)
 rintro _ hq ⟨rfl,Hx⟩
 subst Hx
 refine ⟨fun _=>rfl,?_⟩
 refine WH.one 7 (by kernel_rfl) ?_
 refine aC.run rfl (bN.r (aP rfl)) rfl rfl rfl ?_ (fun _=>by kernel_rfl)
 rintro _ hz ⟨rfl,_⟩
 subst hz
 refine ⟨fun e=>(by cases e),?_⟩
 refine WH.done (by kernel_rfl) ?_
 refine Gn ?_;refine Gs [(4,_)] ?_;refine Gt ?_
 exact ⟨rfl,rfl⟩
theorem tX {h:ah}:ag Tryz.prog 252 ⟨[St p4]⟩ h fun u h'=>u=.tuple ⟨[In 2,.bool true]⟩∧h'=h:=by
 refine calls [(0,_)] Tryz.func252 rfl Tryz.ntmps252 rfl ⟨rfl,trivial⟩ ?_
 refine G2 ?_;refine G3 ?_;refine WC.block ?_;refine G2 ?_;refine Gs [(4,_),(5,_)] ?_
 refine aH 1 2 ?_ TT.mk
 all_goals (refine aw 2 ?_)
 refine G2 ?_
 refine aH 3 4 ?_ TT.mk
 all_goals (refine aw 3 ?_)
 refine G2 ?_;refine Gs [(2,_),(3,_)] ?_;refine Gt ?_
 exact ⟨rfl,rfl⟩
def mh (k n:Int) (c:List UInt8):List Value:=[In k,In n,St c]
theorem DK {h:ah}:ag Tryz.prog 214 ⟨[St p4]⟩ h fun u h'=>u=.agg ⟨mh 2 0 []⟩∧Ext No h h':=by
 have kt:=fun h'=>Ch (h:=h') 98 110 [101,103,105] (by decide) (by decide) (by decide)
 unfold mh
 refine calls [(0,_)] Tryz.func214 rfl Tryz.ntmps214 rfl ⟨rfl,trivial⟩ ?_
 refine WC.sr ?_;refine WL.aj (an (fun w=>Tryz.zeroValue278 w)) rfl rfl rfl ?_
 rintro _ h1 ⟨b2,rfl,gg,bH,aI⟩
 refine Gn ?_;refine G2 ?_;refine WL.call (vs:=[_,_]) rfl Tryz.call251 rfl (kt _) rfl rfl rfl ?_
 rintro _ hq ⟨rfl,hz⟩
 subst hz
 refine Go ?_;refine G3 ?_;refine WL.call (vs:=[_]) rfl Tryz.call252 rfl (tX) rfl rfl rfl ?_
 rintro _ hq ⟨rfl,hz⟩
 subst hz
 refine Go ?_;refine Gs [(2,_),(3,_),(4,_),(5,_)] ?_;refine G2 ?_
 refine aH 1 2 ?_ TT.mk
 all_goals (refine aw 1 ?_)
 refine G2 ?_;refine WL.step (aF (vs:=[_]) (cs:=[_,_,_]) (fun | [a0]=>[a0,(.int .i64 0),(St [])] | _=>[]) rfl rfl (by kernel_rfl)) rfl rfl rfl ?_
 refine WL.ax (al Tryz.sizeOf278 rfl rfl rfl bH rfl (by simp [Value.oneCell'])) rfl rfl ?_
 rintro _ h3 ⟨bq,aQ⟩
 refine Gn ?_;refine Gs [(2,_)] ?_;refine WC.ret ?_
 repeat' (with_reducible first | refine aZ ?_ | refine aV ?_)
 refine cm _ ⟨⟨_,rfl,bB Tryz.isAgg278 Tryz.sizeOf278 bq rfl⟩,trivial⟩ ?_
 exact ⟨rfl,aI.trans' aQ (fun q hq e=>by omega)⟩
theorem tY {h:ah} {A:Option Addr} {c:Nat} (l:List Int) (x:Int) (hr:Rd h (.slice A l.length c) 1 l.length (ints l)) (hm:l.length≤maxLen) :
   ag Tryz.prog 290 ⟨[.slice A l.length c,In x]⟩ h fun u h'=>u=.bool (decide (0≤idxOf l x))∧h'=h:=by
 refine calls [(0,_),(1,_)] Tryz.func290 rfl Tryz.ntmps290 rfl ⟨rfl,rfl,trivial⟩ ?_
 refine G2 ?_;refine G2 ?_;refine WL.call (vs:=[_,_]) rfl Tryz.call310 rfl (wC l x hr hm) rfl rfl rfl ?_
 rintro _ hq ⟨rfl,hz⟩
 subst hz
 refine WL.step (dv rfl rfl) rfl rfl rfl (Go ?_);refine Gs [(4,_)] ?_;refine Gt ?_
 exact ⟨rfl,rfl⟩
theorem DL {h:ah} {A:Option Addr} {cc:Nat} (k n:Int) (c:List UInt8) (l:List Int) (hr:Rd h (.slice A l.length cc) 1 l.length (ints l)) (hm:l.length≤maxLen) :
   ag Tryz.prog 255 ⟨[.agg ⟨mh k n c⟩,.slice A l.length cc]⟩ h fun u h'=>u=.bool (decide (k∈l))∧Ext No h h':=by
 have e:decide (0≤idxOf l k)=decide (k∈l):=by
   rcases iC l k with ⟨e,hn⟩ | ⟨j,e,hj,_⟩
   · rw [e,decide_eq_false hn];rfl
   · rw [e,decide_eq_true (List.mem_of_getElem? hj)];simp
 unfold mh
 refine calls [(0,_),(1,_)] Tryz.func255 rfl Tryz.ntmps255 rfl ⟨rfl,rfl,trivial⟩ ?_
 refine WC.sr ?_;refine WL.aj (aG rfl) rfl rfl rfl ?_
 rintro _ h1 ⟨b2,rfl,gg,bH,aI⟩
 refine Go ?_;refine G2 ?_;refine WL.ld rfl (by first | exact aa bH rfl | assumption) rfl rfl rfl ?_
 refine WL.call (vs:=[_,_]) rfl Tryz.call290 rfl (tY l k (hr.aq aI) hm) rfl rfl rfl ?_
 rintro _ hq ⟨rfl,hz⟩
 subst hz
 rw [e]
 refine Go ?_;refine Gs [(4,_)] ?_;refine Gt ?_
 exact ⟨rfl,aI⟩
theorem E6 {h:ah} (k n:Int) (c:List UInt8):ag Tryz.prog 265 ⟨[.agg ⟨mh k n c⟩]⟩ h fun u h'=>u=.bool (decide (k=3∨k=4))∧Ext No h h':=by
 have ko:=fun h' (A:Option Addr) (cc:Nat)=>DL (h:=h') (A:=A) (cc:=cc) k n c [3,4]
 unfold mh at *
 refine calls [(0,_)] Tryz.func265 rfl Tryz.ntmps265 rfl ⟨rfl,trivial⟩ ?_
 refine WC.sr ?_;refine WL.aj (aG rfl) rfl rfl rfl ?_
 rintro _ h1 ⟨b2,rfl,gg,bH,aI⟩
 refine Go ?_;refine WC.sr ?_;refine WL.step (ay Tryz.isAgg278 Tryz.sizeOf278 rfl rfl (by exact At.av bH)) rfl rfl rfl ?_
 refine WL.aj (au (vs:=[_,_]) (cs:=[_,_]) (fun | [a0,a1]=>[a0,a1] | _=>[]) Tryz.underlying39 rfl rfl (by kernel_rfl)) rfl rfl rfl ?_
 rintro _ h3 ⟨b3,rfl,gl,bq,aQ⟩
 refine WL.call (vs:=[_,_]) rfl Tryz.call255 rfl (ko _ _ _ (bx bq rfl) (by decide)) rfl rfl rfl ?_
 rintro _ h4 ⟨rfl,aW⟩
 refine Go ?_;refine Gs [(2,_)] ?_;refine Gt ?_
 exact ⟨by simp,(aI.trans aQ).trans aW⟩
theorem Ci {h:ah} (k n:Int) (c:List UInt8):ag Tryz.prog 215 ⟨[.agg ⟨mh k n c⟩]⟩ h fun u h'=>u=.bool (decide (k=5∨k=6∨k=7))∧Ext No h h':=by
 have ko:=fun h' (A:Option Addr) (cc:Nat)=>DL (h:=h') (A:=A) (cc:=cc) k n c [5,6,7]
 unfold mh at *
 refine calls [(0,_)] Tryz.func215 rfl Tryz.ntmps215 rfl ⟨rfl,trivial⟩ ?_
 refine WC.sr ?_;refine WL.aj (aG rfl) rfl rfl rfl ?_
 rintro _ h1 ⟨b2,rfl,gg,bH,aI⟩
 refine Go ?_;refine WC.sr ?_;refine WL.step (ay Tryz.isAgg278 Tryz.sizeOf278 rfl rfl (by exact At.av bH)) rfl rfl rfl ?_
 refine WL.aj (au (vs:=[_,_,_]) (cs:=[_,_,_]) (fun | [a0,a1,a2]=>[a0,a1,a2] | _=>[]) Tryz.underlying39 rfl rfl (by kernel_rfl)) rfl rfl rfl ?_
 rintro _ h3 ⟨b3,rfl,gl,bq,aQ⟩
 refine WL.call (vs:=[_,_]) rfl Tryz.call255 rfl (ko _ _ _ (bx bq rfl) (by decide)) rfl rfl rfl ?_
 rintro _ h4 ⟨rfl,aW⟩
 refine Go ?_;refine Gs [(2,_)] ?_;refine Gt ?_
 exact ⟨by simp,(aI.trans aQ).trans aW⟩
def DM (s:List UInt8):List UInt8:=s.dropWhile (· == 32)
def xJ (s:List UInt8):List UInt8:=(s.reverse.dropWhile (· == 32)).reverse
def ic (s:List UInt8):List UInt8:=DM (xJ s)
theorem Cj (s:List UInt8):(DM s).length≤s.length:=(List.dropWhile_sublist _).length_le
theorem Ck (s:List UInt8):(xJ s).length≤s.length:=by unfold xJ;rw [List.length_reverse];have:=(List.dropWhile_sublist (l:=s.reverse) (· == (32:UInt8))).length_le;simpa using this
theorem zg (s:List UInt8):xJ (s++[32])=xJ s:=by simp [xJ]
theorem E7 {s:List UInt8} {y:UInt8} (hy:y ≠ 32):xJ (s++[y])=s++[y]:=by simp [xJ,hy]
theorem E8 {s:List UInt8} {y:UInt8} (hy:y ≠ 32):DM (y :: s)=y :: s:=by simp [DM,hy]
theorem zh (x:List UInt8):x=[]∨(∃ r,x=32 :: r∧x.length=r.length+1)∨∃ y r,x=y :: r∧x.length=r.length+1∧y ≠ 32∧(y.toNat:Int) ≠ 32:=by
 rcases x with _ | ⟨y,r⟩
 · exact .inl rfl
 · by_cases hy:y=32
   · exact .inr (.inl ⟨r,by rw [hy],rfl⟩)
   · exact .inr (.inr ⟨y,r,rfl,rfl,hy,fun e=>hy (UInt8.toNat_inj.1 (by show _=32;omega))⟩)
theorem E9 (x:List UInt8):x=[]∨(∃ r,x=r++[32]∧x.length=r.length+1)∨∃ y r,x=r++[y]∧x.length=r.length+1∧y ≠ 32∧(y.toNat:Int) ≠ 32:=by
 rcases zh x.reverse with e | ⟨r,e,e1⟩ | ⟨y,r,e,e1,h1,h2⟩
 · exact .inl (by simpa using e)
 · exact .inr (.inl ⟨r.reverse,by simpa using congrArg List.reverse e,by simpa using e1⟩)
 · exact .inr (.inr ⟨y,r.reverse,by simpa using congrArg List.reverse e,by simpa using e1,h1,h2⟩)
theorem zi (r:List UInt8) (y:UInt8):(r++[y])[((r.length:Int)).toNat]?=some y:=by simp
theorem wL (r:List UInt8) (y:UInt8):(r++[y]).take (((r.length:Nat):Int)).toNat=r:=by simp
theorem i32:(((32:UInt8).toNat:Nat):Int)=32:=rfl
theorem Cl {h:ah} (s:List UInt8):ag Tryz.prog 280 ⟨[St s,.int .u8 32]⟩ h fun u h'=>u=St (DM s)∧h'=h:=by
 refine calls [(0,_),(1,_)] Tryz.func280 rfl Tryz.ntmps280 rfl ⟨rfl,rfl,trivial⟩ ?_
 refine G2 ?_;refine WC.seq ?_;refine WC.block ?_;refine WC.bD (X:=List UInt8) (fun x=>([(0,St x)]:Fr)) [(1,_)] (fun x h'=>h'=h∧DM x=DM s∧x.length≤s.length) (fun x=>x.length) (s) ⟨rfl,rfl,trivial⟩ (by exact ⟨rfl,rfl,Nat.le_refl _⟩) ?_
 rintro x h1 ⟨hz,hx,hl⟩
 subst hz
 have e0:∀ (y:UInt8) (r:List UInt8),(y :: r)[0]?=some y:=fun _ _=>rfl
 have hi:=i32
 rcases zh x with rfl | ⟨r,rfl,hcl⟩ | ⟨y,r,rfl,hcl,hy,hyi⟩
 all_goals (refine WC.sub [(0,_),(1,_)] ⟨rfl,rfl,trivial⟩ ?_;refine G3 ?_;refine bK 8 ?_ TT.mk;refine Gg ?_;first | refine WL.pass rfl rfl rfl ?_ | (refine WL.step (cP Tryz.underlying9 rfl rfl (by omega) (e0 _ _)) rfl rfl rfl ?_))
 all_goals (refine Gg ?_;refine Go ?_;refine Gs [(0,_),(1,_),(13,_)] ?_;refine aH 1 2 ?_ TT.mk)
 all_goals try (
 refine aw 1 ?_
 refine WC.skip ?_
 skip)
 all_goals try (
 refine aw 2 ?_
 all_goals (refine WC.exit ?_;repeat' (with_reducible first | refine aU ?_ | refine aD rfl ?_ | refine aJ ?_ | refine aL ?_ | refine aS ?_))
 all_goals (refine Br.out (i:=1000) ?_)
 skip)
 all_goals (refine Gn ?_;first | refine Br.ab ?_ | refine WC.block ?_)
 all_goals (first | refine Br.ab ?_ | refine WC.region ?_)
 all_goals (refine Go ?_;first | refine Br.ab ?_ | (refine WL.step (lK Tryz.underlying9 rfl rfl (by first | omega | (simp <;> omega))) rfl rfl rfl ?_))
 all_goals (refine Go ?_;first | refine Br.ab ?_ | (exact ⟨r,⟨rfl,rfl,trivial⟩,(by exact ⟨rfl,by rw [← hx];simp [DM],by simp at hl;omega⟩),(by simp)⟩))
 all_goals (try (refine Br.mk (i:=1000) ?_))
 all_goals (refine Gn ?_;refine G2 ?_;refine Gs [(4,_)] ?_;refine Gt ?_;exact ⟨congrArg St (by rw [← hx];first | rfl | rw [E8 hy]),rfl⟩)
theorem Cm {h:ah} (s:List UInt8) (hm:s.length≤1000000):ag Tryz.prog 281 ⟨[St s,.int .u8 32]⟩ h fun u h'=>u=St (xJ s)∧h'=h:=by
 refine calls [(0,_),(1,_)] Tryz.func281 rfl Tryz.ntmps281 rfl ⟨rfl,rfl,trivial⟩ ?_
 refine G2 ?_;refine WC.seq ?_;refine WC.block ?_;refine WC.bD (X:=List UInt8) (fun x=>([(0,St x)]:Fr)) [(1,_)] (fun x h'=>h'=h∧xJ x=xJ s∧x.length≤s.length) (fun x=>x.length) (s) ⟨rfl,rfl,trivial⟩ (by exact ⟨rfl,rfl,Nat.le_refl _⟩) ?_
 rintro x h1 ⟨hz,hx,hl⟩
 subst hz
 have hi:=i32
 rcases E9 x with rfl | ⟨r,rfl,hcl⟩ | ⟨y,r,rfl,hcl,hy,hyi⟩
 all_goals (refine WC.sub [(0,_),(1,_)] ⟨rfl,rfl,trivial⟩ ?_;refine G3 ?_;refine bK 8 ?_ TT.mk;first | refine WL.pass rfl rfl rfl ?_ | refine WL.step (ak rfl) rfl rfl rfl ?_)
 all_goals (first | refine WL.pass rfl rfl rfl ?_ | refine WL.step (ak rfl) rfl rfl rfl ?_)
 all_goals (first | refine WL.pass rfl rfl rfl ?_ | refine WL.step (jU rfl Tryz.underlying9 rfl) rfl rfl rfl ?_)
 all_goals (first | refine WL.pass rfl rfl rfl ?_ | (refine WL.step (eY rfl rfl (by omega)) rfl rfl rfl ?_))
 all_goals (try rw [hcl,show (((r.length+1:Nat):Int) - 1)=((r.length:Nat):Int) by omega])
 all_goals (first | refine WL.pass rfl rfl rfl ?_ | (refine WL.step (cP Tryz.underlying9 rfl rfl (by omega) (zi r _)) rfl rfl rfl ?_))
 all_goals (refine Gg ?_;refine Go ?_;refine Gs [(0,_),(1,_),(16,_)] ?_;refine aH 1 2 ?_ TT.mk)
 all_goals try (
 refine aw 1 ?_
 refine WC.skip ?_
 skip)
 all_goals try (
 refine aw 2 ?_
 all_goals (refine WC.exit ?_;repeat' (with_reducible first | refine aU ?_ | refine aD rfl ?_ | refine aJ ?_ | refine aL ?_ | refine aS ?_))
 all_goals (refine Br.out (i:=1000) ?_)
 skip)
 all_goals (refine Gn ?_;first | refine Br.ab ?_ | refine WC.block ?_)
 all_goals (first | refine Br.ab ?_ | refine WC.region ?_)
 all_goals (first | refine Br.ab ?_ | refine WL.step (ak rfl) rfl rfl rfl ?_)
 all_goals (first | refine Br.ab ?_ | refine WL.step (ak rfl) rfl rfl rfl ?_)
 all_goals (first | refine Br.ab ?_ | refine WL.step (jU rfl Tryz.underlying9 rfl) rfl rfl rfl ?_)
 all_goals (first | refine Br.ab ?_ | (refine WL.step (eY rfl rfl (by omega)) rfl rfl rfl ?_))
 all_goals (first | refine Br.ab ?_ | (rw [hcl,show (((r.length+1:Nat):Int) - 1)=((r.length:Nat):Int) by omega]))
 all_goals (first | refine Br.ab ?_ | (refine WL.step (lL Tryz.underlying9 rfl rfl (by first | omega | (simp <;> omega))) rfl rfl rfl ?_))
 all_goals (first | refine Br.ab ?_ | try rw [wL])
 all_goals (refine Go ?_;first | refine Br.ab ?_ | (exact ⟨r,⟨rfl,rfl,trivial⟩,(by exact ⟨rfl,by rw [← hx,zg],by simp at hl;omega⟩),(by simp)⟩))
 all_goals (try (refine Br.mk (i:=1000) ?_))
 all_goals (refine Gn ?_;refine G2 ?_;refine Gs [(4,_)] ?_;refine Gt ?_;exact ⟨congrArg St (by rw [← hx];first | rfl | rw [E7 hy]),rfl⟩)
theorem Fa {h:ah} (s:List UInt8) (hm:s.length≤1000000):ag Tryz.prog 251 ⟨[St s,St [32]]⟩ h fun u h'=>u=St (ic s)∧h'=h:=by
 have k1:=Cm (h:=h) s hm
 have k2:=Cl (h:=h) (xJ s)
 have e0:([32]:List UInt8)[0]?=some 32:=rfl
 by_cases hs:s=[]
 · subst hs
   refine calls [(0,_),(1,_)] Tryz.func251 rfl Tryz.ntmps251 rfl ⟨rfl,rfl,trivial⟩ ?_
   refine G2 ?_;refine G3 ?_
   refine bK 9 ?_ TT.mk
   refine Gg ?_;refine Go ?_;refine Gs [(0,_),(1,_),(12,_)] ?_
   refine aH 1 2 ?_ TT.mk
   all_goals (refine aw 1 ?_)
   refine G2 ?_;refine Gs [(4,_)] ?_;refine Gt ?_
   exact ⟨rfl,rfl⟩
 · have hs':s ≠ []:=hs
   refine calls [(0,_),(1,_)] Tryz.func251 rfl Tryz.ntmps251 rfl ⟨rfl,rfl,trivial⟩ ?_
   refine G2 ?_;refine G3 ?_
   refine bK 9 ?_ TT.mk
   refine Gg ?_;refine Go ?_;refine Gs [(0,_),(1,_),(12,_)] ?_
   refine aH 1 2 ?_ TT.mk
   all_goals (refine aw 2 ?_)
   refine WC.skip ?_;refine Gn ?_;refine G3 ?_
   refine bK 17 ?_ TT.mk
   refine Gg ?_;refine WL.step (cP Tryz.underlying9 rfl rfl (by omega) e0) rfl rfl rfl ?_
   refine Gg ?_;refine Go ?_;refine Gs [(0,_),(1,_),(21,_)] ?_
   refine aH 3 4 ?_ TT.mk
   all_goals (refine aw 3 ?_)
   refine WC.seq ?_;refine WC.bW (fun h'=>h'=h) 7 8 rfl dm ?_
   refine WH.tk 0 rfl (fun hq hC=>ak rfl) rfl rfl rfl ?_ (hC:=rfl)
   refine WH.tk 1 rfl (fun hq hC=>ak rfl) rfl rfl rfl ?_ (hC:=rfl)
   refine WH.tk 2 rfl (fun hq hC=>cP Tryz.underlying9 rfl rfl (by omega) e0) rfl rfl rfl ?_ (hC:=rfl)
   refine WH.tk 4 rfl (fun hq hC=>ak rfl) rfl rfl rfl ?_ (hC:=rfl)
   refine WH.tk 5 rfl (fun hq hC=>cP Tryz.underlying9 rfl rfl (by omega) e0) rfl rfl rfl ?_ (hC:=rfl)
   refine WH.one 3 (by kernel_rfl) ?_
   refine aC.call (vs:=[_,_]) rfl rfl Tryz.call281 rfl (k1) rfl rfl rfl ?_ (fun _=>by kernel_rfl)
   rintro _ hq ⟨rfl,iV⟩
   subst iV
   refine ⟨fun _=>rfl,?_⟩
   refine WH.one 6 (by kernel_rfl) ?_
   refine aC.call (vs:=[_,_]) rfl rfl Tryz.call280 rfl (k2) rfl rfl rfl ?_ (fun _=>by kernel_rfl)
   rintro _ hq ⟨rfl,Hx⟩
   subst Hx
   refine ⟨fun _=>rfl,?_⟩
   refine WH.one 7 (by kernel_rfl) ?_
   refine aC.run rfl (bN.r (aP rfl)) rfl rfl rfl ?_ (fun _=>by kernel_rfl)
   rintro _ hz ⟨rfl,_⟩
   subst hz
   refine ⟨fun e=>(by cases e),?_⟩
   refine WH.done (by kernel_rfl) ?_
   refine Gn ?_;refine Gs [(4,_)] ?_;refine Gt ?_
   exact ⟨rfl,rfl⟩
theorem Hy {h:ah} (s:List UInt8) (c:UInt8):ag Tryz.prog 268 ⟨[St s,By c]⟩ h fun u h'=>u=In (Lib.indexByte s c)∧h'=h:=fun w hw =>
 (Tryz.stringslite_IndexByte ⟨⟨s⟩⟩ c.toNat w).mono fun e w' ⟨he,hb⟩=>⟨⟨by rw [hb],by rw [hb],by rw [hb],trivial⟩,_,he,by rw [show ((c.toNat:Int)).toNat.toUInt8=c by simp],by rw [hb,hw]⟩
theorem Cn {h:ah} (s:List UInt8):ag Tryz.prog 308 ⟨[St s,St [32]]⟩ h fun u h'=>u=In (Lib.indexByte s 32)∧h'=h:=by
 have e0:([32]:List UInt8)[0]?=some 32:=rfl
 have k1:=Hy (h:=h) s 32
 by_cases hs:s=[32]
 · subst hs
   refine calls [(0,_),(1,_)] Tryz.func308 rfl Tryz.ntmps308 rfl ⟨rfl,rfl,trivial⟩ ?_
   refine G2 ?_;refine G2 ?_;refine WC.seq ?_;refine WC.block ?_;refine G2 ?_
   refine bK 19 ?_ TT.mk
   refine Gg ?_;refine Go ?_;refine Gs [(0,_),(1,_),(5,_),(16,_)] ?_
   refine aH 1 2 ?_ TT.mk
   all_goals (refine aw 1 ?_)
   refine G2 ?_;refine Gs [(4,_)] ?_;refine Gt ?_
   exact ⟨rfl,rfl⟩
 · have hs':¬ [32]=s:=fun e=>hs e.symm
   refine calls [(0,_),(1,_)] Tryz.func308 rfl Tryz.ntmps308 rfl ⟨rfl,rfl,trivial⟩ ?_
   refine G2 ?_;refine G2 ?_;refine WC.seq ?_;refine WC.block ?_;refine G2 ?_
   refine bK 19 ?_ TT.mk
   refine Gg ?_;refine Go ?_;refine Gs [(0,_),(1,_),(5,_),(16,_)] ?_
   refine aH 1 2 ?_ TT.mk
   all_goals (refine aw 2 ?_)
   refine G2 ?_
   refine aH 3 4 ?_ TT.mk
   all_goals (refine aw 3 ?_)
   refine G2 ?_;refine WL.step (cP Tryz.underlying9 rfl rfl (by omega) e0) rfl rfl rfl ?_
   refine WL.call (vs:=[_,_]) rfl Tryz.call268 rfl (k1) rfl rfl rfl ?_
   rintro _ hq ⟨rfl,iV⟩
   subst iV
   refine Go ?_;refine Gs [(4,_)] ?_;refine Gt ?_
   exact ⟨rfl,rfl⟩
theorem wM (s:List UInt8) (c:UInt8):Lib.indexByte s c = -1∨∃ i:Nat,Lib.indexByte s c=(i:Int)∧i < s.length:=by
 have h1:=Lib.indexByte_ge s c
 by_cases h0:0≤Lib.indexByte s c
 · refine .inr ⟨(Lib.indexByte s c).toNat,by omega,?_⟩
   have:=(Lib.indexByte_some (l:=s) (c:=c) (o:=(Lib.indexByte s c).toNat) (by omega)).1
   exact (List.getElem?_eq_some_iff.1 this).1
 · exact .inl (by omega)
def lh (s:List UInt8):List UInt8 × List UInt8 × Bool:=if 0≤Lib.indexByte s 32 then (s.take (Lib.indexByte s 32).toNat,s.drop ((Lib.indexByte s 32).toNat+1),true) else (s,[],false)
theorem Hz {h:ah} (s:List UInt8) (hm:s.length≤1000000):ag Tryz.prog 253 ⟨[St s,St [32]]⟩ h fun u h'=>u=.tuple ⟨[St (lh s).1,St (lh s).2.1,.bool (lh s).2.2]⟩∧h'=h:=by
 have k0:ag Tryz.prog 287 ⟨[St s,St [32]]⟩ h fun u h'=>u=.tuple ⟨[St (lh s).1,St (lh s).2.1,.bool (lh s).2.2]⟩∧h'=h:=by
   have ki:=Cn (h:=h) s
   unfold lh
   rcases wM s 32 with e | ⟨i,e,hi⟩
   · rw [e] at ki ⊢
     refine calls [(0,_),(1,_)] Tryz.func287 rfl Tryz.ntmps287 rfl ⟨rfl,rfl,trivial⟩ ?_
     refine G2 ?_;refine G3 ?_;refine WL.call (vs:=[_,_]) rfl Tryz.call308 rfl (ki) rfl rfl rfl ?_
     rintro _ hq ⟨rfl,iV⟩
     subst iV
     refine Go ?_;refine Gs [(0,_),(1,_),(7,_)] ?_;refine G2 ?_
     refine aH 1 2 ?_ TT.mk
     all_goals (refine aw 2 ?_)
     refine WC.skip ?_;refine Gn ?_;refine Gs [(0,_)] ?_;refine G2 ?_;refine Gt ?_
     exact ⟨rfl,rfl⟩
   · rw [e] at ki ⊢
     rw [if_pos (by omega)]
     have MO:([32]:List UInt8).length=1:=rfl
     refine calls [(0,_),(1,_)] Tryz.func287 rfl Tryz.ntmps287 rfl ⟨rfl,rfl,trivial⟩ ?_
     refine G2 ?_;refine G3 ?_;refine WL.call (vs:=[_,_]) rfl Tryz.call308 rfl (ki) rfl rfl rfl ?_
     rintro _ hq ⟨rfl,iV⟩
     subst iV
     refine Go ?_;refine Gs [(0,_),(1,_),(7,_)] ?_;refine G2 ?_
     refine aH 1 2 ?_ TT.mk
     all_goals (refine aw 1 ?_)
     refine WC.seq ?_;refine WC.fU dm (by kernel_rfl) ?_
     refine WQ.aK (ak rfl) rfl rfl rfl ?_;refine WQ.aK (ak rfl) rfl rfl rfl ?_;refine WQ.aK (lL Tryz.underlying9 rfl rfl (by first | omega | (simp <;> omega))) rfl rfl rfl ?_
     refine WQ.aK (ak rfl) rfl rfl rfl ?_;refine WQ.aK (ak rfl) rfl rfl rfl ?_;refine WQ.aK (ak rfl) rfl rfl rfl ?_;refine WQ.aK (jU rfl Tryz.underlying9 rfl) rfl rfl rfl ?_;refine WQ.aK (eX rfl rfl (by omega)) rfl rfl rfl ?_
     refine WQ.aK (lK Tryz.underlying9 rfl rfl (by first | omega | (simp <;> omega))) rfl rfl rfl ?_
     refine WQ.aK (aP rfl) rfl rfl rfl ?_;refine WQ.aK (aP rfl) rfl rfl rfl ?_;refine WQ.aK (aP rfl) rfl rfl rfl ?_;refine WQ.nil ?_;refine Gn ?_;refine Gs [(4,_),(5,_),(6,_)] ?_;refine Gt ?_
     refine ⟨?_,rfl⟩
     rw [show ((i:Int)+(([32]:List UInt8).length:Int)).toNat=(i:Int).toNat+1 by rw [MO];omega]
 refine calls [(0,_),(1,_)] Tryz.func253 rfl Tryz.ntmps253 rfl ⟨rfl,rfl,trivial⟩ ?_
 refine G2 ?_;refine G2 ?_;refine WL.call (vs:=[_,_]) rfl Tryz.call287 rfl (k0) rfl rfl rfl ?_
 rintro _ hq ⟨rfl,iV⟩
 subst iV
 refine Go ?_;refine Gs [(4,_),(5,_),(6,_)] ?_;refine Gt ?_
 exact ⟨rfl,rfl⟩
def iJ (s:List UInt8):Option Int:=if s=[] then some 1 else if s=([98,101,103,105,110]:List UInt8) then some 2 else if s=([99,111,109,109,105,116]:List UInt8) then some 3 else if s=([114,111,108,108,98,97,99,107]:List UInt8) then some 4 else if s=([101,99,104,111]:List UInt8) then some 6 else if s=([110,101,120,116]:List UInt8) then some 7 else none
theorem Fb {h:ah} (s:List UInt8):ag Tryz.prog 252 ⟨[St s]⟩ h fun u h'=>u=.tuple ⟨[In ((iJ s).getD 0),.bool (iJ s).isSome]⟩∧h'=h:=by
 rcases (show s=[]∨s=([98,101,103,105,110]:List UInt8)∨s=([99,111,109,109,105,116]:List UInt8)∨s=([114,111,108,108,98,97,99,107]:List UInt8)∨s=([101,99,104,111]:List UInt8)∨s=([110,101,120,116]:List UInt8)∨(s ≠ []∧s ≠ ([98,101,103,105,110]:List UInt8)∧s ≠ ([99,111,109,109,105,116]:List UInt8)∧s ≠ ([114,111,108,108,98,97,99,107]:List UInt8)∧s ≠ ([101,99,104,111]:List UInt8)∧s ≠ ([110,101,120,116]:List UInt8)) by
   by_cases e1:s=[];exact .inl e1
   by_cases e2:s=([98,101,103,105,110]:List UInt8);exact .inr (.inl e2)
   by_cases e3:s=([99,111,109,109,105,116]:List UInt8);exact .inr (.inr (.inl e3))
   by_cases e4:s=([114,111,108,108,98,97,99,107]:List UInt8);exact .inr (.inr (.inr (.inl e4)))
   by_cases e5:s=([101,99,104,111]:List UInt8);exact .inr (.inr (.inr (.inr (.inl e5))))
   by_cases e6:s=([110,101,120,116]:List UInt8);exact .inr (.inr (.inr (.inr (.inr (.inl e6)))))
   exact .inr (.inr (.inr (.inr (.inr (.inr ⟨e1,e2,e3,e4,e5,e6⟩)))))) with rfl | rfl | rfl | rfl | rfl | rfl | ⟨e1,e2,e3,e4,e5,e6⟩
 all_goals
   refine calls [(0,_)] Tryz.func252 rfl Tryz.ntmps252 rfl ⟨rfl,trivial⟩ ?_
   all_goals (refine G2 ?_;refine G3 ?_;refine WC.block ?_;refine G2 ?_;refine Gs [(4,_),(5,_)] ?_;refine aH 1 2 ?_ TT.mk)
   all_goals try (
   refine aw 1 ?_
   all_goals (refine G2 ?_;refine Gt ?_;exact ⟨by first | rfl | (unfold iJ;rw [if_neg e1,if_neg e2,if_neg e3,if_neg e4,if_neg e5,if_neg e6];rfl),rfl⟩)
   skip)
   all_goals (refine aw 2 ?_;refine G2 ?_;refine aH 3 4 ?_ TT.mk)
   all_goals try (
   refine aw 3 ?_
   all_goals (refine G2 ?_;refine Gs [(2,_),(3,_)] ?_;refine Gt ?_;exact ⟨by first | rfl | (unfold iJ;rw [if_neg e1,if_neg e2,if_neg e3,if_neg e4,if_neg e5,if_neg e6];rfl),rfl⟩)
   skip)
   all_goals (refine aw 4 ?_;refine G2 ?_;refine Gs [(4,_),(9,_)] ?_;refine aH 5 6 ?_ TT.mk)
   all_goals try (
   refine aw 5 ?_
   all_goals (refine G2 ?_;refine Gt ?_;exact ⟨by first | rfl | (unfold iJ;rw [if_neg e1,if_neg e2,if_neg e3,if_neg e4,if_neg e5,if_neg e6];rfl),rfl⟩)
   skip)
   all_goals (refine aw 6 ?_;refine G2 ?_;refine aH 7 8 ?_ TT.mk)
   all_goals try (
   refine aw 7 ?_
   all_goals (refine G2 ?_;refine Gs [(2,_),(3,_)] ?_;refine Gt ?_;exact ⟨by first | rfl | (unfold iJ;rw [if_neg e1,if_neg e2,if_neg e3,if_neg e4,if_neg e5,if_neg e6];rfl),rfl⟩)
   skip)
   all_goals (refine aw 8 ?_;refine G2 ?_;refine Gs [(4,_),(13,_)] ?_;refine aH 9 10 ?_ TT.mk)
   all_goals try (
   refine aw 9 ?_
   all_goals (refine G2 ?_;refine Gt ?_;exact ⟨by first | rfl | (unfold iJ;rw [if_neg e1,if_neg e2,if_neg e3,if_neg e4,if_neg e5,if_neg e6];rfl),rfl⟩)
   skip)
   all_goals (refine aw 10 ?_;refine G2 ?_;refine aH 11 12 ?_ TT.mk)
   all_goals try (
   refine aw 11 ?_
   all_goals (refine G2 ?_;refine Gs [(2,_),(3,_)] ?_;refine Gt ?_;exact ⟨by first | rfl | (unfold iJ;rw [if_neg e1,if_neg e2,if_neg e3,if_neg e4,if_neg e5,if_neg e6];rfl),rfl⟩)
   skip)
   all_goals (refine aw 12 ?_;refine WC.skip ?_;refine Gn ?_;refine Gs [] ?_;refine G2 ?_;refine Gt ?_;exact ⟨by first | rfl | (unfold iJ;rw [if_neg e1,if_neg e2,if_neg e3,if_neg e4,if_neg e5,if_neg e6];rfl),rfl⟩)
def dW (y:UInt8):Bool:=decide (48≤y.toNat) && decide (y.toNat≤57)
def oh (s:List UInt8):Int:=s.foldl (fun n y=>10 * n+((y.toNat:Int) - 48)) 0
def nh (s:List UInt8) (most:Int):Option Int:=if s=[]∨10 < s.length then none else if s[0]?=some 48∧1 < s.length then none else if s.all dW=true then (if most < oh s then none else some (oh s)) else none
theorem oK (l:List UInt8) (x:UInt8):oh (l++[x])=10 * oh l+((x.toNat:Int) - 48):=by simp [oh]
theorem wrap_u8 {a:Int} (h0:0≤a) (h1:a≤255):IntKind.u8.wrap a=a:=by simp [IntKind.wrap,IntKind.bits,IntKind.signed];omega
def HA (b:Bool) (y:UInt8):Value:=match b with
 | true=>.tuple ⟨[In ((y.toNat:Int) - 48),.bool true]⟩
 | false=>.tuple ⟨[In 0,.bool false]⟩
theorem Co {h:ah} (y:UInt8):ag Tryz.prog 309 ⟨[By y]⟩ h fun u h'=>u=HA (dW y) y∧h'=h:=by
 have hy:=y.toNat_lt
 rcases (show dW y=true∧48≤(y.toNat:Int)∧(y.toNat:Int)≤57∨dW y=false∧(y.toNat:Int) < 48∨dW y=false∧48≤(y.toNat:Int)∧57 < (y.toNat:Int) by
   by_cases e1:48≤y.toNat
   · by_cases e2:y.toNat≤57
     · exact .inl ⟨by simp [dW,e1,e2],by omega,by omega⟩
     · exact .inr (.inr ⟨by simp [dW,e2],by omega,by omega⟩)
   · exact .inr (.inl ⟨by simp [dW,e1],by omega⟩)) with ⟨e,h1,h2⟩ | ⟨e,h1⟩ | ⟨e,h1,h2⟩
 all_goals
   refine calls [(0,_)] Tryz.func309 rfl Tryz.ntmps309 rfl ⟨rfl,trivial⟩ ?_
   all_goals (refine G2 ?_;refine G3 ?_;refine bK 6 ?_ TT.mk;refine Gg ?_;refine Go ?_;refine Gs [(0,_),(9,_)] ?_;refine aH 1 2 ?_ TT.mk)
   all_goals try (
   refine aw 1 ?_
   all_goals (refine G2 ?_;refine Gt ?_)
   all_goals (
    rw [e]
    exact ⟨rfl,rfl⟩)
   skip)
   all_goals (refine aw 2 ?_;refine WC.skip ?_;refine Gn ?_;refine WC.sr ?_;refine WL.step (ak rfl) rfl rfl rfl ?_;refine WL.step (te rfl rfl) rfl rfl rfl ?_;try rw [wrap_u8 (by omega) (by omega)])
   all_goals (refine WL.step (j4 Tryz.underlying5 Tryz.underlying3 rfl (by omega)) rfl rfl rfl (Go ?_);refine Gs [(2,_),(3,_)] ?_;refine Gt ?_)
   all_goals (
    rw [e]
    exact ⟨rfl,rfl⟩)
theorem zj {y:UInt8} (h:dW y=true):48≤(y.toNat:Int)∧(y.toNat:Int)≤57:=by
 simp [dW] at h
 omega
theorem Cp:∀ (n:Nat) (l:List UInt8),l.length=n→l.all dW=true→0≤oh l∧oh l+1≤10 ^ n:=by
 intro n
 induction n with
 | zero=>intro l hl _;rw [List.eq_nil_of_length_eq_zero hl];exact ⟨by decide,by decide⟩
 | succ n ih =>
   intro l hl ha
   rcases List.eq_nil_or_concat l with rfl | ⟨r,y,rfl⟩
   · simp at hl
   · rw [List.concat_eq_append] at *
     simp only [List.all_append,Bool.and_eq_true,List.all_cons,List.all_nil,Bool.and_true] at ha
     have:=ih r (by simpa using hl) ha.1
     have hd:=zj ha.2
     rw [oK,Int.pow_succ]
     omega
theorem HB {n:Nat} (h:n≤10):(10:Int) ^ n≤10000000000:=by
 match n,h with
 | 0,_=>decide
 | 1,_=>decide
 | 2,_=>decide
 | 3,_=>decide
 | 4,_=>decide
 | 5,_=>decide
 | 6,_=>decide
 | 7,_=>decide
 | 8,_=>decide
 | 9,_=>decide
 | 10,_=>decide
def zm (o:Option Int):Value:=.tuple ⟨[In (o.getD 0),.bool o.isSome]⟩
theorem tZ {h:ah} (s:List UInt8) (most:Int) (h1:s=[]∨10 < s.length):ag Tryz.prog 288 ⟨[St s,In most]⟩ h fun u h'=>u=zm none∧h'=h:=by
 rcases h1 with rfl | h1
 · have hs:True:=trivial
   refine calls [(0,_),(1,_)] Tryz.func288 rfl Tryz.ntmps288 rfl ⟨rfl,rfl,trivial⟩ ?_
   refine G2 ?_;refine WC.seq ?_;refine WC.block ?_;refine G3 ?_;refine Gs [(0,_),(1,_),(10,_)] ?_
   refine aH 1 2 ?_ TT.mk
   all_goals (refine aw 1 ?_)
   refine WC.skip ?_;refine Gn ?_
   refine aH 3 4 ?_ TT.mk
   all_goals (refine aw 3 ?_)
   refine G2 ?_;refine Gt ?_
   exact ⟨rfl,rfl⟩
 · have hs:s ≠ []:=fun e=>by rw [e] at h1;simp at h1
   refine calls [(0,_),(1,_)] Tryz.func288 rfl Tryz.ntmps288 rfl ⟨rfl,rfl,trivial⟩ ?_
   refine G2 ?_;refine WC.seq ?_;refine WC.block ?_;refine G3 ?_;refine Gs [(0,_),(1,_),(10,_)] ?_
   refine aH 1 2 ?_ TT.mk
   all_goals (refine aw 2 ?_)
   refine WC.region (Go ?_);refine Gn ?_
   refine aH 3 4 ?_ TT.mk
   all_goals (refine aw 3 ?_)
   refine G2 ?_;refine Gt ?_
   exact ⟨rfl,rfl⟩
theorem ua {h:ah} (s:List UInt8) (most:Int) (h1:s ≠ []∧s.length≤10) (h2:s[0]?=some 48∧1 < s.length):ag Tryz.prog 288 ⟨[St s,In most]⟩ h fun u h'=>u=zm none∧h'=h:=by
 have hs:=h1.1
 have e0:=h2.1
 have OH:(((48:UInt8).toNat:Nat):Int)=48:=rfl
 refine calls [(0,_),(1,_)] Tryz.func288 rfl Tryz.ntmps288 rfl ⟨rfl,rfl,trivial⟩ ?_
 refine G2 ?_;refine WC.seq ?_;refine WC.block ?_;refine G3 ?_;refine Gs [(0,_),(1,_),(10,_)] ?_
 refine aH 1 2 ?_ TT.mk
 all_goals (refine aw 2 ?_)
 refine WC.region (Go ?_);refine Gn ?_
 refine aH 3 4 ?_ TT.mk
 all_goals (refine aw 4 ?_)
 refine G2 ?_;refine WL.step (cP Tryz.underlying9 rfl rfl (by omega) e0) rfl rfl rfl (Go ?_)
 refine bK 20 ?_ TT.mk
 refine Gg ?_;refine Go ?_;refine Gs [(0,_),(1,_),(16,_)] ?_
 refine aH 5 6 ?_ TT.mk
 all_goals (refine aw 5 ?_)
 refine G2 ?_;refine Gt ?_
 exact ⟨rfl,rfl⟩
theorem wN {h:ah} (s:List UInt8) (most:Int) (h1:s ≠ []∧s.length≤10) (h2:¬ (s[0]?=some 48∧1 < s.length)):ag Tryz.prog 288 ⟨[St s,In most]⟩ h fun u h'=>u=zm (if s.all dW=true then (if most < oh s then none else some (oh s)) else none)∧h'=h:=by
 have hs:=h1.1
 have hp:0 < s.length:=List.length_pos_iff.2 hs
 obtain ⟨y0,e0⟩:∃ y,s[0]?=some y:=⟨_,List.getElem?_eq_getElem (by omega)⟩
 have hq:(y0.toNat:Int) ≠ 48∨(y0.toNat:Int)=48∧¬ (s.length:Int) > 1:=by
   by_cases e:(y0.toNat:Int)=48
   · exact .inr ⟨e,fun e2=>h2 ⟨by rw [e0,show y0=48 from UInt8.toNat_inj.1 (by show _=48;omega)],by omega⟩⟩
   · exact .inl e
 have kd:=fun (h':ah) (y:UInt8)=>Co (h:=h') y
 rcases hq with hq | ⟨hq,GC⟩
 all_goals
   refine calls [(0,_),(1,_)] Tryz.func288 rfl Tryz.ntmps288 rfl ⟨rfl,rfl,trivial⟩ ?_
   all_goals (refine G2 ?_;refine WC.seq ?_;refine WC.block ?_;refine G3 ?_;refine Gs [(0,_),(1,_),(10,_)] ?_;refine aH 1 2 ?_ TT.mk;refine aw 2 ?_;refine WC.region (Go ?_);refine Gn ?_;refine aH 3 4 ?_ TT.mk;refine aw 4 ?_;refine G2 ?_;refine WL.step (cP Tryz.underlying9 rfl rfl (by omega) e0) rfl rfl rfl (Go ?_);refine bK 20 ?_ TT.mk;refine Gg ?_;refine Go ?_;refine Gs [(0,_),(1,_),(16,_)] ?_;refine aH 5 6 ?_ TT.mk;refine aw 6 ?_;refine WC.skip ?_;refine Gn ?_;refine G2 ?_;refine G3 ?_;refine WC.block ?_)
   all_goals (refine WC.bD (X:=Nat × Int) (fun x=>([(27,In (x.1:Int)),(6,In x.2)]:Fr)) [(0,_),(1,_),(26,_)] (fun x h'=>h'=h∧x.1≤s.length∧x.2=oh (s.take x.1)∧(s.take x.1).all dW=true) (fun x=>s.length - x.1) ((0,0)) ⟨rfl,rfl,rfl,rfl,rfl,trivial⟩ (by exact ⟨rfl,Nat.zero_le _,rfl,rfl⟩) ?_)
   all_goals (
    rintro ⟨j,n⟩ hh ⟨hz,hj,hn,ha⟩
    dsimp only at hj hn ha
    subst hz
    have hvl:=Cp j (s.take j) (by rw [List.length_take];omega) ha
    have hpw:=HB (show j≤10 by omega))
   all_goals (refine WC.sub [(6,_),(27,_),(0,_),(1,_),(26,_)] ⟨rfl,rfl,rfl,rfl,rfl,trivial⟩ ?_;dsimp only)
   all_goals (refine G2 ?_;refine WC.seq ?_;refine aH 7 8 (Hb.mk fun hb=>?_) (Hb.mk fun hb=>?_))
   all_goals try (
   refine aw 7 ?_
   all_goals (refine WC.skip ?_)
   skip)
   all_goals try (
   refine aw 8 ?_
   all_goals (refine WC.exit ?_;repeat' (with_reducible first | refine aU ?_ | refine aD rfl ?_ | refine aJ ?_ | refine aL ?_ | refine aS ?_))
   all_goals (refine Br.out (i:=1001) ?_)
   skip)
   all_goals (refine Gn ?_;first | refine Br.ab ?_ | refine WC.seq ?_)
   all_goals (first | refine Br.ab ?_ | refine WC.block ?_)
   all_goals (first | refine Br.ab ?_ | refine WC.sr ?_)
   all_goals (refine Go ?_;first | refine Br.ab ?_ | refine WC.sr ?_)
   all_goals (
    first
      | (refine Br.ab ?_)
      | (obtain ⟨y,hy⟩:∃ y,s[j]?=some y:=⟨_,List.getElem?_eq_getElem (by omega)⟩
         have hyl:=y.toNat_lt))
   all_goals (first | refine Br.ab ?_ | refine WL.step (ak rfl) rfl rfl rfl ?_)
   all_goals (refine Go ?_;first | refine Br.ab ?_ | (refine WL.step (cP Tryz.underlying9 rfl rfl (by omega) hy) rfl rfl rfl ?_))
   all_goals (
    first
      | (refine Br.ab ?_)
      | (refine WL.call (vs:=[_]) rfl Tryz.call309 rfl (kd _ y) rfl rfl rfl ?_
         rintro _ OI ⟨rfl,iV⟩
         subst iV
         obtain ⟨bd,hdy⟩:∃ b,dW y=b:=⟨_,rfl⟩
         rw [hdy]
         have hdi:=fun (e:bd=true)=>zj (hdy.trans e)
         cases bd
         all_goals first | (have hdi:=hdi rfl) | clear hdi
         all_goals unfold HA))
   all_goals (refine Go ?_;first | refine Br.ab ?_ | refine Gs [(0,_),(1,_),(6,_),(8,_),(9,_),(26,_),(27,_)] ?_)
   all_goals (first | refine Br.ab ?_ | refine WC.seq ?_)
   all_goals (first | refine Br.ab ?_ | refine WC.sr ?_)
   all_goals (refine Go ?_;first | refine Br.ab ?_ | refine aH 9 10 ?_ TT.mk)
   all_goals try (
   refine aw 9 ?_
   all_goals (refine G2 ?_;refine Gs [(4,_),(5,_)] ?_;refine Gt ?_)
   all_goals (
    first
     | (rw [if_neg (show ¬ s.all dW=true from fun e=>by have:=List.all_eq_true.1 e y (List.mem_of_getElem? hy);rw [hdy] at this;cases this)];exact ⟨rfl,rfl⟩)
     | (rw [show s.take j=s from List.take_of_length_le (by omega)] at hn ha;subst hn;rw [if_pos ha,if_pos (by omega)];exact ⟨rfl,rfl⟩)
     | (rw [show s.take j=s from List.take_of_length_le (by omega)] at hn ha;subst hn;rw [if_pos ha,if_neg (by omega)];exact ⟨rfl,rfl⟩))
   skip)
   all_goals try (
   refine aw 10 ?_
   all_goals (refine WC.skip ?_)
   skip)
   all_goals (refine Gn ?_;first | refine Br.ab ?_ | refine WC.region ?_)
   all_goals (refine Go ?_;first | refine Br.ab ?_ | (refine WL.step (jR rfl rfl (by omega)) rfl rfl rfl ?_))
   all_goals (refine Go ?_;first | refine Br.ab ?_ | refine Gs [(0,_),(1,_),(6,_),(26,_),(27,_)] ?_)
   all_goals (first | refine Br.ab ?_ | refine WC.region ?_)
   all_goals (refine Go ?_;first | refine Br.ab ?_ | (exact ⟨(j+1,_),⟨rfl,rfl,rfl,rfl,rfl,trivial⟩,(by exact ⟨rfl,by omega,by rw [List.take_add_one,hy,Option.toList_some,oK,← hn],by rw [List.take_add_one,hy];simp [ha,hdy]⟩),(by dsimp only;omega)⟩))
   all_goals (try (refine Br.mk (i:=1001) ?_))
   all_goals (refine Gn ?_;refine Gs [(1,_),(6,_)] ?_;refine G3 ?_;refine aH 11 12 (Hb.mk fun hb=>?_) (Hb.mk fun hb=>?_))
   all_goals try (
   refine aw 11 ?_
   all_goals (refine G2 ?_;refine Gs [(4,_),(5,_)] ?_;refine Gt ?_)
   all_goals (
    first
     | (rw [if_neg (show ¬ s.all dW=true from fun e=>by have:=List.all_eq_true.1 e y (List.mem_of_getElem? hy);rw [hdy] at this;cases this)];exact ⟨rfl,rfl⟩)
     | (rw [show s.take j=s from List.take_of_length_le (by omega)] at hn ha;subst hn;rw [if_pos ha,if_pos (by omega)];exact ⟨rfl,rfl⟩)
     | (rw [show s.take j=s from List.take_of_length_le (by omega)] at hn ha;subst hn;rw [if_pos ha,if_neg (by omega)];exact ⟨rfl,rfl⟩))
   skip)
   all_goals (refine aw 12 ?_;refine WC.skip ?_;refine Gn ?_;refine Gs [(6,_)] ?_;refine G2 ?_;refine Gt ?_)
   all_goals (
    first
     | (rw [if_neg (show ¬ s.all dW=true from fun e=>by have:=List.all_eq_true.1 e y (List.mem_of_getElem? hy);rw [hdy] at this;cases this)];exact ⟨rfl,rfl⟩)
     | (rw [show s.take j=s from List.take_of_length_le (by omega)] at hn ha;subst hn;rw [if_pos ha,if_pos (by omega)];exact ⟨rfl,rfl⟩)
     | (rw [show s.take j=s from List.take_of_length_le (by omega)] at hn ha;subst hn;rw [if_pos ha,if_neg (by omega)];exact ⟨rfl,rfl⟩))
theorem zn {h:ah} (s:List UInt8) (most:Int):ag Tryz.prog 288 ⟨[St s,In most]⟩ h fun u h'=>u=zm (nh s most)∧h'=h:=by
 unfold nh
 by_cases h1:s=[]∨10 < s.length
 · rw [if_pos h1]
   exact tZ s most h1
 · rw [if_neg h1]
   have Lr:s ≠ []∧s.length≤10:=⟨fun e=>h1 (.inl e),by omega⟩
   by_cases h2:s[0]?=some 48∧1 < s.length
   · rw [if_pos h2]
     exact ua s most Lr h2
   · rw [if_neg h2]
     exact wN s most Lr h2
def mi (y:UInt8):Bool:=decide (65≤y.toNat) && decide (y.toNat≤90)
def rY (s:List UInt8):Bool:=decide (s.length=5) && s.all fun y=>dW y || mi y
theorem Fc {h:ah} (s:List UInt8):ag Tryz.prog 289 ⟨[St s]⟩ h fun u h'=>u=.bool (rY s)∧Ext No h h':=by
 unfold rY
 by_cases hl:s.length=5
 · rw [decide_eq_true hl,Bool.true_and]
   refine calls [(0,_)] Tryz.func289 rfl Tryz.ntmps289 rfl ⟨rfl,trivial⟩ ?_
   refine G2 ?_;refine G3 ?_
   refine aH 1 2 ?_ TT.mk
   all_goals (refine aw 2 ?_)
   refine WC.skip ?_;refine Gn ?_;refine Gs [(0,_)] ?_;refine G3 ?_;refine WL.aj (jA Tryz.underlying9 Tryz.underlying23 Tryz.underlying5 rfl) rfl rfl rfl ?_
   rintro _ h1 ⟨b1,c1,rfl,bR,qP,az⟩
   refine Go ?_;refine WC.block ?_;refine WC.bD (X:=Nat) (fun x=>([(13,In (x:Int))]:Fr)) [(11,_),(12,_)] (fun x h'=>h'=h1∧x≤s.length∧(s.take x).all (fun y=>dW y || mi y)=true) (fun x=>s.length - x) (0) ⟨rfl,rfl,rfl,trivial⟩ (by exact ⟨rfl,Nat.zero_le _,rfl⟩) ?_
   rintro j hh ⟨hz,hj,ha⟩
   subst hz
   refine WC.sub [(13,_),(11,_),(12,_)] ⟨rfl,rfl,rfl,trivial⟩ ?_;refine G2 ?_;refine WC.seq ?_
   refine aH 3 4 (Hb.mk fun hb=>?_) (Hb.mk fun hb=>?_)
   all_goals try (
   refine aw 3 ?_
   refine WC.skip ?_
   skip)
   all_goals try (
   refine aw 4 ?_
   refine WC.exit ?_
   repeat' (with_reducible first | refine aU ?_ | refine aD rfl ?_ | refine aJ ?_ | refine aL ?_ | refine aS ?_)
   refine Br.out (i:=1000) ?_
   skip)
   all_goals (refine Gn ?_;first | refine Br.ab ?_ | refine WC.seq ?_)
   all_goals (first | refine Br.ab ?_ | refine WC.block ?_)
   all_goals (first | refine Br.ab ?_ | refine WC.sr ?_)
   all_goals (
    first
      | (refine Br.ab ?_)
      | (obtain ⟨y,hy⟩:∃ y,s[j]?=some y:=⟨_,List.getElem?_eq_getElem (by omega)⟩
         obtain ⟨bL,oL,hA,hbL,hat⟩:=Rd.at_ qP (by omega)
         simp only [Option.some.injEq,Addr.mk.injEq] at hA
         obtain ⟨rfl,rfl,_⟩:=hA
         have fp:=hat.get (p:=0+j * 1) j (show (bA s)[j]?=some (By y) by simp [bA,hy]) (by omega)
         have hyl:=y.toNat_lt
         rcases (show (dW y || mi y)=true∧48≤(y.toNat:Int)∧(y.toNat:Int)≤57∨(dW y || mi y)=true∧65≤(y.toNat:Int)∧(y.toNat:Int)≤90∨(dW y || mi y)=false∧(y.toNat:Int) < 48∨(dW y || mi y)=false∧57 < (y.toNat:Int)∧(y.toNat:Int) < 65∨(dW y || mi y)=false∧90 < (y.toNat:Int) by
            by_cases e1:48≤y.toNat <;> by_cases e2:y.toNat≤57 <;> by_cases e3:65≤y.toNat <;> by_cases e4:y.toNat≤90 <;> first | omega | exact .inl ⟨by simp [dW,mi,e1,e2],by omega,by omega⟩ | exact .inr (.inl ⟨by simp [dW,mi,e3,e4],by omega,by omega⟩) | exact .inr (.inr (.inl ⟨by simp [dW,mi,e1,e3],by omega⟩)) | exact .inr (.inr (.inr (.inl ⟨by simp [dW,mi,e2,e3],by omega,by omega⟩))) | exact .inr (.inr (.inr (.inr ⟨by simp [dW,mi,e2,e4],by omega⟩)))) with ⟨hd,i1,i2⟩ | ⟨hd,i1,i2⟩ | ⟨hd,i1⟩ | ⟨hd,i1,i2⟩ | ⟨hd,i1⟩))
   all_goals (first | refine Br.ab ?_ | (refine WL.step (aE Tryz.underlying23 Tryz.sizeOf5 rfl rfl rfl (by omega) (by first | rfl | assumption)) rfl rfl rfl ?_))
   all_goals (first | refine Br.ab ?_ | (refine WL.ld rfl (by first | exact fp | assumption) rfl rfl rfl ?_))
   all_goals (refine Go ?_;first | refine Br.ab ?_ | refine WC.sr ?_)
   all_goals (refine Go ?_;first | refine Br.ab ?_ | refine bK 19 ?_ TT.mk)
   all_goals (refine Gg ?_;refine Go ?_;first | refine Br.ab ?_ | refine bK 25 ?_ TT.mk)
   all_goals (refine Gg ?_;refine Go ?_;first | refine Br.ab ?_ | refine Gs [(5,_),(6,_),(11,_),(12,_),(13,_)] ?_)
   all_goals (first | refine Br.ab ?_ | refine WC.sr ?_)
   all_goals (refine Go ?_;first | refine Br.ab ?_ | refine bK 31 ?_ TT.mk)
   all_goals (refine Gg ?_;refine Go ?_;first | refine Br.ab ?_ | refine Gs [(11,_),(12,_),(13,_),(34,_)] ?_)
   all_goals (first | refine Br.ab ?_ | refine aH 5 6 ?_ TT.mk)
   all_goals try (
   refine aw 5 ?_
   all_goals (refine G2 ?_;refine Gs [(2,_)] ?_;refine Gt ?_)
   all_goals (
    first
     | (refine ⟨congrArg Value.bool ?_,az⟩;rw [List.take_of_length_le (by omega)] at ha;exact ha.symm)
     | (refine ⟨congrArg Value.bool ?_,az⟩;exact (List.all_eq_false.2 ⟨y,List.mem_of_getElem? hy,by rw [hd];decide⟩).symm))
   skip)
   all_goals try (
   refine aw 6 ?_
   all_goals (refine WC.skip ?_)
   skip)
   all_goals (refine Gn ?_;first | refine Br.ab ?_ | refine WC.region ?_)
   all_goals (refine Go ?_;first | refine Br.ab ?_ | (exact ⟨j+1,⟨rfl,rfl,rfl,trivial⟩,(by exact ⟨rfl,by omega,by rw [List.take_add_one,hy];simp only [Option.toList_some,List.all_append,ha,List.all_cons,hd,List.all_nil,Bool.and_self]⟩),(by omega)⟩))
   try (refine Br.mk (i:=1000) ?_)
   refine Gn ?_;refine Gs [] ?_;refine G2 ?_;refine Gt ?_
   first
    | (refine ⟨congrArg Value.bool ?_,az⟩;rw [List.take_of_length_le (by omega)] at ha;exact ha.symm)
    | (refine ⟨congrArg Value.bool ?_,az⟩;exact (List.all_eq_false.2 ⟨y,List.mem_of_getElem? hy,by rw [hd];decide⟩).symm)
 · rw [decide_eq_false hl,Bool.false_and]
   have hl':(s.length:Int) ≠ 5:=by omega
   refine calls [(0,_)] Tryz.func289 rfl Tryz.ntmps289 rfl ⟨rfl,trivial⟩ ?_
   refine G2 ?_;refine G3 ?_
   refine aH 1 2 ?_ TT.mk
   all_goals (refine aw 1 ?_)
   refine G2 ?_;refine Gs [(2,_)] ?_;refine Gt ?_
   exact ⟨rfl,.refl _ _⟩
structure fR where
 k:Int
 n:Int
 c:List UInt8
def fR.cells (v:fR):List Value:=mh v.k v.n v.c
def rZ (a b:List UInt8):fR:=if a=([115,101,108,101,99,116]:List UInt8) then (match nh b 99 with | some n=>⟨5,n,[]⟩ | none=>⟨0,0,[]⟩) else if a=([102,97,105,108]:List UInt8) then (if rY b=true then ⟨8,0,b⟩ else ⟨0,0,[]⟩) else ⟨0,0,[]⟩
def bh (t:List UInt8):fR:=match iJ (ic t) with
 | some k=>⟨k,0,[]⟩
 | none=>if (lh (ic t)).2.2=true then rZ (lh (ic t)).1 (lh (ic t)).2.1 else ⟨0,0,[]⟩
theorem Fe {h:ah} (a b:List UInt8):ag Tryz.prog 254 ⟨[St a,St b]⟩ h fun u h'=>u=.agg ⟨(rZ a b).cells⟩∧Ext No h h':=by
 have kp:=fun h'=>zn (h:=h') b 99
 have kc:=fun h'=>Fc (h:=h') b
 unfold rZ fR.cells mh
 by_cases h1:a=([115,101,108,101,99,116]:List UInt8)
 · subst h1
   rw [if_pos rfl]
   cases hp:nh b 99
   all_goals
     rw [hp] at kp
     unfold zm at kp
     refine calls [(0,_),(1,_)] Tryz.func254 rfl Tryz.ntmps254 rfl ⟨rfl,rfl,trivial⟩ ?_
     all_goals (refine WC.sr ?_;refine WL.aj (an (fun w=>Tryz.zeroValue278 w)) rfl rfl rfl ?_;rintro _ h1 ⟨b1,rfl,bR,aR,az⟩;refine Gn ?_;refine G3 ?_;refine WC.block ?_;refine G2 ?_;refine aH 1 2 ?_ TT.mk;refine aw 1 ?_;refine G2 ?_;refine WL.call (vs:=[_,_]) rfl Tryz.call288 rfl (kp _) rfl rfl rfl ?_;rintro _ hq ⟨rfl,iV⟩;subst iV;refine Go ?_;refine Gs [(4,_),(5,_),(6,_)] ?_;refine G2 ?_;refine aH 3 4 ?_ TT.mk)
     all_goals try (
     refine aw 3 ?_
     all_goals (refine G2 ?_;refine WL.step (aF (vs:=[_,_]) (cs:=[_,_,_]) (fun | [a0,a1]=>[a0,a1,(St [])] | _=>[]) rfl rfl (by kernel_rfl)) rfl rfl rfl ?_;refine WL.ax (al Tryz.sizeOf278 rfl rfl rfl aR rfl (by simp [Value.oneCell'])) rfl rfl ?_;rintro _ h3 ⟨bq,aQ⟩;refine Gn ?_;refine Gs [(4,_)] ?_;refine WC.ret ?_;repeat' (with_reducible first | refine aZ ?_ | refine aV ?_))
     all_goals (refine cm _ ⟨⟨_,rfl,bB Tryz.isAgg278 Tryz.sizeOf278 (by assumption) rfl⟩,trivial⟩ ?_;exact ⟨rfl,az.trans' aQ (fun q hq e=>by omega)⟩)
     skip)
     all_goals (refine aw 4 ?_;refine WC.skip ?_;refine Gn ?_;refine WC.sr ?_;refine WL.step (aF (vs:=[]) (cs:=[_,_,_]) (fun | []=>[(.int .i64 0),(.int .i64 0),(St [])] | _=>[]) rfl rfl (by kernel_rfl)) rfl rfl rfl ?_;refine WL.ax (al Tryz.sizeOf278 rfl rfl rfl aR rfl (by simp [Value.oneCell'])) rfl rfl ?_;rintro _ h3 ⟨bq,aQ⟩;refine Gn ?_;refine WC.ret ?_;repeat' (with_reducible first | refine aZ ?_ | refine aV ?_))
     all_goals (refine cm _ ⟨⟨_,rfl,bB Tryz.isAgg278 Tryz.sizeOf278 (by assumption) rfl⟩,trivial⟩ ?_;exact ⟨rfl,az.trans' aQ (fun q hq e=>by omega)⟩)
 · rw [if_neg h1]
   by_cases h2:a=([102,97,105,108]:List UInt8)
   · subst h2
     rw [if_pos rfl]
     cases hp:rY b
     all_goals
       rw [hp] at kc
       refine calls [(0,_),(1,_)] Tryz.func254 rfl Tryz.ntmps254 rfl ⟨rfl,rfl,trivial⟩ ?_
       all_goals (refine WC.sr ?_;refine WL.aj (an (fun w=>Tryz.zeroValue278 w)) rfl rfl rfl ?_;rintro _ h1 ⟨b1,rfl,bR,aR,az⟩;refine Gn ?_;refine G3 ?_;refine WC.block ?_;refine G2 ?_;refine aH 1 2 ?_ TT.mk;refine aw 2 ?_;refine G2 ?_;refine Gs [(1,_),(4,_),(18,_)] ?_;refine aH 5 6 ?_ TT.mk;refine aw 5 ?_;refine G2 ?_;refine WL.call (vs:=[_]) rfl Tryz.call289 rfl (kc _) rfl rfl rfl ?_;rintro _ h2 ⟨rfl,aI⟩;have bH:=aI.obj aR aO;have X2:=az.trans aI;refine Gn ?_;refine aH 7 8 ?_ TT.mk)
       all_goals try (
       refine aw 7 ?_
       all_goals (refine G2 ?_;refine WL.step (aF (vs:=[_,_]) (cs:=[_,_,_]) (fun | [a0,a2]=>[a0,(.int .i64 0),a2] | _=>[]) rfl rfl (by kernel_rfl)) rfl rfl rfl ?_;refine WL.ax (al Tryz.sizeOf278 rfl rfl rfl bH rfl (by simp [Value.oneCell'])) rfl rfl ?_;rintro _ h3 ⟨bq,aQ⟩;refine Gn ?_;refine Gs [(4,_)] ?_;refine WC.ret ?_;repeat' (with_reducible first | refine aZ ?_ | refine aV ?_))
       all_goals (refine cm _ ⟨⟨_,rfl,bB Tryz.isAgg278 Tryz.sizeOf278 (by assumption) rfl⟩,trivial⟩ ?_;exact ⟨rfl,X2.trans' aQ (fun q hq e=>by omega)⟩)
       skip)
       all_goals (refine aw 8 ?_;refine WC.skip ?_;refine Gn ?_;refine WC.sr ?_;refine WL.step (aF (vs:=[]) (cs:=[_,_,_]) (fun | []=>[(.int .i64 0),(.int .i64 0),(St [])] | _=>[]) rfl rfl (by kernel_rfl)) rfl rfl rfl ?_;refine WL.ax (al Tryz.sizeOf278 rfl rfl rfl bH rfl (by simp [Value.oneCell'])) rfl rfl ?_;rintro _ h3 ⟨bq,aQ⟩;refine Gn ?_;refine WC.ret ?_;repeat' (with_reducible first | refine aZ ?_ | refine aV ?_))
       all_goals (refine cm _ ⟨⟨_,rfl,bB Tryz.isAgg278 Tryz.sizeOf278 (by assumption) rfl⟩,trivial⟩ ?_;exact ⟨rfl,X2.trans' aQ (fun q hq e=>by omega)⟩)
   · rw [if_neg h2]
     refine calls [(0,_),(1,_)] Tryz.func254 rfl Tryz.ntmps254 rfl ⟨rfl,rfl,trivial⟩ ?_
     refine WC.sr ?_;refine WL.aj (an (fun w=>Tryz.zeroValue278 w)) rfl rfl rfl ?_
     rintro _ h1 ⟨b1,rfl,bR,aR,az⟩
     refine Gn ?_;refine G3 ?_;refine WC.block ?_;refine G2 ?_
     refine aH 1 2 ?_ TT.mk
     all_goals (refine aw 2 ?_)
     refine G2 ?_;refine Gs [(1,_),(4,_),(18,_)] ?_
     refine aH 5 6 ?_ TT.mk
     all_goals (refine aw 6 ?_)
     refine WC.skip ?_;refine Gn ?_;refine WC.sr ?_;refine WL.step (aF (vs:=[]) (cs:=[_,_,_]) (fun | []=>[(.int .i64 0),(.int .i64 0),(St [])] | _=>[]) rfl rfl (by kernel_rfl)) rfl rfl rfl ?_
     refine WL.ax (al Tryz.sizeOf278 rfl rfl rfl aR rfl (by simp [Value.oneCell'])) rfl rfl ?_
     rintro _ h3 ⟨bq,aQ⟩
     refine Gn ?_;refine WC.ret ?_
     repeat' (with_reducible first | refine aZ ?_ | refine aV ?_)
     refine cm _ ⟨⟨_,rfl,bB Tryz.isAgg278 Tryz.sizeOf278 (by assumption) rfl⟩,trivial⟩ ?_
     exact ⟨rfl,az.trans' aQ (fun q hq e=>by omega)⟩
theorem oN {h:ah} (t:List UInt8) (hm:t.length≤1000000):ag Tryz.prog 214 ⟨[St t]⟩ h fun u h'=>u=.agg ⟨(bh t).cells⟩∧Ext No h h':=by
 have kt:=fun h'=>Fa (h:=h') t hm
 have kw:=fun h'=>Fb (h:=h') (ic t)
 have hl:(ic t).length≤1000000:=Nat.le_trans (Nat.le_trans (Cj _) (Ck _)) hm
 have kc:=fun h'=>Hz (h:=h') (ic t) hl
 have kp:=fun h'=>Fe (h:=h') (lh (ic t)).1 (lh (ic t)).2.1
 unfold bh
 cases hw:iJ (ic t)
 · rw [hw] at kw
   dsimp only [Option.getD_none,Option.isSome_none] at kw
   obtain ⟨bc,hc⟩:∃ b,(lh (ic t)).2.2=b:=⟨_,rfl⟩
   rw [hc] at kc
   dsimp only
   rw [hc]
   unfold fR.cells mh at *
   cases bc
   all_goals
     refine calls [(0,_)] Tryz.func214 rfl Tryz.ntmps214 rfl ⟨rfl,trivial⟩ ?_
     all_goals (refine WC.sr ?_;refine WL.aj (an (fun w=>Tryz.zeroValue278 w)) rfl rfl rfl ?_;rintro _ h1 ⟨b1,rfl,bR,aR,az⟩;refine Gn ?_;refine G2 ?_;refine WL.call (vs:=[_,_]) rfl Tryz.call251 rfl (kt _) rfl rfl rfl ?_;rintro _ hq ⟨rfl,iV⟩;subst iV;refine Go ?_;refine G3 ?_;refine WL.call (vs:=[_]) rfl Tryz.call252 rfl (kw _) rfl rfl rfl ?_;rintro _ hq ⟨rfl,iV⟩;subst iV;refine Go ?_;refine Gs [(2,_),(3,_),(4,_),(5,_)] ?_;refine G2 ?_;refine aH 1 2 ?_ TT.mk;refine aw 2 ?_;refine WC.skip ?_;refine Gn ?_;refine G2 ?_;refine WL.call (vs:=[_,_]) rfl Tryz.call253 rfl (kc _) rfl rfl rfl ?_;rintro _ hq ⟨rfl,iV⟩;subst iV;refine Go ?_;refine Gs [(2,_),(6,_),(7,_),(8,_)] ?_;refine G3 ?_;refine aH 3 4 ?_ TT.mk)
     all_goals try (
     refine aw 3 ?_
     all_goals (refine WC.sr ?_;refine WL.step (aF (vs:=[]) (cs:=[_,_,_]) (fun | []=>[(.int .i64 0),(.int .i64 0),(St [])] | _=>[]) rfl rfl (by kernel_rfl)) rfl rfl rfl ?_;refine WL.ax (al Tryz.sizeOf278 rfl rfl rfl aR rfl (by simp [Value.oneCell'])) rfl rfl ?_;rintro _ h3 ⟨bq,aQ⟩;have X3:=az.trans' aQ (fun q hq e=>by omega);refine Gn ?_;refine Gs [(2,_)] ?_;refine WC.ret ?_;repeat' (with_reducible first | refine aZ ?_ | refine aV ?_))
     all_goals (refine cm _ ⟨⟨_,rfl,bB Tryz.isAgg278 Tryz.sizeOf278 (by assumption) rfl⟩,trivial⟩ ?_;exact ⟨rfl,X3⟩)
     skip)
     all_goals (refine aw 4 ?_;refine WC.skip ?_;refine Gn ?_;refine G2 ?_;refine WL.call (vs:=[_,_]) rfl Tryz.call254 rfl (kp _) rfl rfl rfl ?_;rintro _ h2 ⟨rfl,aI⟩;have bH:=aI.obj aR aO;refine WL.ax (al Tryz.sizeOf278 rfl rfl rfl bH rfl (by simp [Value.oneCell'])) rfl rfl ?_;rintro _ h3 ⟨bq,aQ⟩;have X3:=(az.trans aI).trans' aQ (fun q hq e=>by omega);refine Gn ?_;refine Gs [(2,_)] ?_;refine WC.ret ?_;repeat' (with_reducible first | refine aZ ?_ | refine aV ?_))
     all_goals (refine cm _ ⟨⟨_,rfl,bB Tryz.isAgg278 Tryz.sizeOf278 (by assumption) rfl⟩,trivial⟩ ?_;exact ⟨rfl,X3⟩)
 · rw [hw] at kw
   unfold fR.cells mh
   refine calls [(0,_)] Tryz.func214 rfl Tryz.ntmps214 rfl ⟨rfl,trivial⟩ ?_
   refine WC.sr ?_;refine WL.aj (an (fun w=>Tryz.zeroValue278 w)) rfl rfl rfl ?_
   rintro _ h1 ⟨b1,rfl,bR,aR,az⟩
   refine Gn ?_;refine G2 ?_;refine WL.call (vs:=[_,_]) rfl Tryz.call251 rfl (kt _) rfl rfl rfl ?_
   rintro _ hq ⟨rfl,iV⟩
   subst iV
   refine Go ?_;refine G3 ?_;refine WL.call (vs:=[_]) rfl Tryz.call252 rfl (kw _) rfl rfl rfl ?_
   rintro _ hq ⟨rfl,iV⟩
   subst iV
   refine Go ?_;refine Gs [(2,_),(3,_),(4,_),(5,_)] ?_;refine G2 ?_
   refine aH 1 2 ?_ TT.mk
   all_goals (refine aw 1 ?_)
   refine G2 ?_;refine WL.step (aF (vs:=[_]) (cs:=[_,_,_]) (fun | [a0]=>[a0,(.int .i64 0),(St [])] | _=>[]) rfl rfl (by kernel_rfl)) rfl rfl rfl ?_
   refine WL.ax (al Tryz.sizeOf278 rfl rfl rfl aR rfl (by simp [Value.oneCell'])) rfl rfl ?_
   rintro _ h3 ⟨bq,aQ⟩
   refine Gn ?_;refine Gs [(2,_)] ?_;refine WC.ret ?_
   repeat' (with_reducible first | refine aZ ?_ | refine aV ?_)
   refine cm _ ⟨⟨_,rfl,bB Tryz.isAgg278 Tryz.sizeOf278 (by assumption) rfl⟩,trivial⟩ ?_
   exact ⟨rfl,az.trans' aQ (fun q hq e=>by omega)⟩
theorem lj {h:ah} {be me:Nat} {cnt:Int} (hb:h[be]?=some (.cells ⟨[.map (some me),In cnt]⟩ 104 (0,0))):ag Tryz.prog 258 ⟨[.pointer (some ⟨be,0,none⟩)]⟩ h fun u h'=>u=.bool true∧h'=h:=by
 refine calls [(0,_)] Tryz.func258 rfl Tryz.ntmps258 rfl ⟨rfl,trivial⟩ ?_
 refine G2 ?_;refine G2 ?_;refine WL.step (dQ Tryz.underlying46 rfl rfl) rfl rfl rfl (Go ?_)
 refine bK 5 ?_ TT.mk
 refine Gg ?_;refine WL.step (ae rfl) rfl rfl rfl ?_;refine Gg ?_;refine Ld ?_;refine WL.step (xQ Tryz.underlying97 rfl rfl) rfl rfl rfl (Go ?_);refine Gs [(2,_)] ?_;refine Gt ?_
 exact ⟨rfl,rfl⟩
section
variable {h:ah} {bs ms bp mp be me:Nat} {st:Int} {sk ov:Bool} {cnt:Int} {L P R:List (List UInt8 × Value)}
theorem gZ (c:Int):ag Tryz.prog 207 ⟨[.int .u8 c]⟩ h fun u h'=>∃ q,u=.slice (some ⟨q,0,none⟩) 1 1∧h'[q]?=some (.cells ⟨[.int .u8 c,.int .u8 0,St [],St [],St [],In 0,In 0,.slice none 0 0,.slice none 0 0,.slice none 0 0,.slice none 0 0]⟩ 140 (0,0))∧h.size≤q∧Ext No h h':=by
 refine calls [(0,_)] Tryz.func207 rfl Tryz.ntmps207 rfl ⟨rfl,trivial⟩ ?_
 refine G2 ?_;refine G2 ?_;refine WL.step (aF (vs:=[_]) (cs:=[_,_,_,_,_,_,_,_,_,_,_]) (fun | [a0]=>[a0,(.int .u8 0),(St []),(St []),(St []),(.int .i64 0),(.int .i64 0),(.slice none 0 0),(.slice none 0 0),(.slice none 0 0),(.slice none 0 0)] | _=>[]) rfl rfl (by kernel_rfl)) rfl rfl rfl ?_
 refine WL.aj (au (vs:=[_]) (cs:=[_,_,_,_,_,_,_,_,_,_,_]) (fun | [.agg ⟨[a0,a1,a2,a3,a4,a5,a6,a7,a8,a9,gY]⟩]=>[a0,a1,a2,a3,a4,a5,a6,a7,a8,a9,gY] | _=>[]) Tryz.underlying80 rfl rfl (by kernel_rfl)) rfl rfl rfl ?_
 rintro _ h1 ⟨b1,rfl,bR,aR,az⟩
 refine Go ?_;refine Gs [(2,_)] ?_;refine Gt ?_
 exact ⟨b1,rfl,aR,bR,az⟩
abbrev nS:Value:=.slice none 0 0
end
section
variable {h h':ah} {bs ms bp mp be me:Nat} {st st':Int} {sk ov:Bool} {cnt:Int} {L P P' R:List (List UInt8 × Value)} {S:Nat→Prop}
theorem dX {es:List (List UInt8 × Value)} {m q:Nat} {cs:Array Value} {TT:TypeId} (k:Mp .string St h m es) (hq:h[q]?=some (.cells cs TT (0,0))):¬ q=m:=fun e=>by
 subst e
 obtain ⟨_,_,z,_⟩:=k
 rw [hq] at z
 cases z
theorem Se.HC (k:Se h bs ms bp mp be me st sk ov cnt L P R) {q:Nat} {cs:Array Value} (hq:h[q]?=some (.cells cs 273 (0,0))) (x:Ext (fun z=>z=q) h h'):Se h' bs ms bp mp be me st sk ov cnt L P R:=by
 have o:∀ {z:Nat} {ds:Array Value} {TT:TypeId},TT ≠ 273→h[z]?=some (.cells ds TT (0,0))→¬ z=q:=fun hT hz e=>by
   subst e
   rw [hq] at hz
   simp only [Option.some.injEq,Obj.cells.injEq] at hz
   exact hT hz.2.1.symm
 exact ⟨x.obj k.bm (o (by decide) k.bm),k.stm.ext x (fun e=>dX k.stm hq e.symm),x.obj k.pb (o (by decide) k.pb),k.pm.ext x (fun e=>dX k.pm hq e.symm),x.obj k.eb (o (by decide) k.eb),k.em.ext x (fun e=>dX k.em hq e.symm),k.ne⟩
theorem Se.js (k:Se h bs ms bp mp be me st sk ov cnt L P R) {sk' ov':Bool} (x:Ext (fun z=>z=bs) h h') (hb:h'[bs]?=some (.cells ⟨[.map (some ms),.pointer (some ⟨bp,0,none⟩),.pointer (some ⟨be,0,none⟩),.int .u8 st',.bool sk',.bool ov']⟩ 153 (0,0))):Se h' bs ms bp mp be me st' sk' ov' cnt L P R:=by
 have hq:=k.bm
 have o:∀ {z:Nat} {ds:Array Value} {TT:TypeId},TT ≠ 153→h[z]?=some (.cells ds TT (0,0))→¬ z=bs:=fun hT hz e=>by
   subst e
   rw [hq] at hz
   simp only [Option.some.injEq,Obj.cells.injEq] at hz
   exact hT hz.2.1.symm
 exact ⟨hb,k.stm.ext x (fun e=>dX k.stm hq e.symm),x.obj k.pb (o (by decide) k.pb),k.pm.ext x (fun e=>dX k.pm hq e.symm),x.obj k.eb (o (by decide) k.eb),k.em.ext x (fun e=>dX k.em hq e.symm),k.ne⟩
def pB:List UInt8 × List Int × List (Bool × List UInt8) × List (List (Bool × List UInt8)) × Bool × Bool:=(p4,[],[],[],false,false)
theorem HD {b m p:Nat} {es:List (List UInt8 × Value)} {name:List UInt8} {d:PD} (r:Pe h b m es p name d) :
   ag Tryz.prog 249 ⟨[.pointer (some ⟨b,0,none⟩),St name]⟩ h fun u h'=>(∃ d':PD,u=.tuple ⟨[.agg ⟨d'.cells⟩,.bool true]⟩∧d'.ok h'∧d'.pl=d.pl∧∀ k,d'.F k→h.size≤k)∧Ext No h h':=by
 refine calls [(0,_),(1,_)] Tryz.func249 rfl Tryz.ntmps249 rfl ⟨rfl,rfl,trivial⟩ ?_
 refine WC.sr ?_;refine WL.aj (an (fun w=>Tryz.zeroValue273 w)) rfl rfl rfl ?_
 rintro _ h1 ⟨b1,rfl,bR,aR,az⟩
 have r1:=r.aq az
 refine Go ?_;refine G2 ?_;refine WL.call (vs:=[_,_]) rfl Tryz.call256 rfl (tK r1) rfl rfl rfl ?_
 rintro _ hz ⟨rfl,_⟩
 subst hz
 refine Go ?_;refine Gs [(4,_),(6,_),(7,_)] ?_;refine G3 ?_
 refine aH 1 2 ?_ TT.mk
 all_goals (refine aw 2 ?_)
 refine WC.skip ?_;refine Gn ?_;refine G2 ?_;refine WL.step (ae rfl) rfl rfl rfl ?_;refine WL.step (ay Tryz.isAgg273 Tryz.sizeOf273 rfl rfl (by exact At.av r1.bm)) rfl rfl rfl ?_
 refine WL.call (vs:=[_]) rfl Tryz.call248 rfl (rN d r1.ok) rfl rfl rfl ?_
 rintro _ h2 ⟨d2,rfl,iU,j9,aI,eI⟩
 refine WL.ax (al Tryz.sizeOf273 rfl rfl rfl (aI.obj aR aO) rfl (eQ iU)) rfl rfl ?_
 rintro _ h3 ⟨bq,aQ⟩
 refine Go ?_;refine Gs [(4,_),(5,_)] ?_;refine WC.ret ?_
 repeat' (with_reducible first | refine aZ ?_ | refine aV ?_)
 refine cV _ _ ⟨⟨_,rfl,bB Tryz.isAgg273 Tryz.sizeOf273 (by assumption) rfl⟩,rfl,trivial⟩ ?_
 exact ⟨⟨d2,rfl,iU.ext aQ (fun k hk e=>by have:=eI k hk;have:=ai aR;omega),j9,fun k hk=>by have:=eI k hk;have:=az.size;omega⟩,(az.trans aI).trans' aQ (fun k hk e=>by omega)⟩
end
def cx (v:fR):Bool:=decide (v.k=3∨v.k=4)
def gb (v:fR):Bool:=decide (v.k=5∨v.k=6∨v.k=7)
theorem mw {h:ah} (v:fR):ag Tryz.prog 265 ⟨[.agg ⟨v.cells⟩]⟩ h fun u h'=>u=.bool (cx v)∧Ext No h h':=E6 v.k v.n v.c
theorem kj {h:ah} (v:fR):ag Tryz.prog 215 ⟨[.agg ⟨v.cells⟩]⟩ h fun u h'=>u=.bool (gb v)∧Ext No h h':=Ci v.k v.n v.c
def iK (st:Int):Prop:=st=73∨st=84∨st=69
theorem vy {h:ah} {st:Int} (hs:iK st):ag Tryz.prog 227 ⟨[.int .u8 st]⟩ h fun u h'=>u=.int .u8 st∧h'=h:=by
 have kr:ag Tryz.prog 267 ⟨[.int .u8 st]⟩ h fun u h'=>u=.bool true∧h'=h:=by
   rcases hs with rfl | rfl | rfl
   all_goals
     refine calls [(0,_)] Tryz.func267 rfl Tryz.ntmps267 rfl ⟨rfl,trivial⟩ ?_
     all_goals (refine G2 ?_;refine G3 ?_;refine WC.block ?_;refine G3 ?_;refine aH 1 2 ?_ TT.mk)
     all_goals try (
     refine aw 1 ?_
     all_goals (refine WC.skip ?_)
     skip)
     all_goals try (
     refine aw 2 ?_
     all_goals (refine G2 ?_;refine Gs [(3,_),(4,_)] ?_;refine aH 3 4 ?_ TT.mk)
     all_goals try (
     refine aw 3 ?_
     all_goals (refine WC.skip ?_)
     skip)
     all_goals try (
     refine aw 4 ?_
     all_goals (refine WC.region (Go ?_))
     skip)
     skip)
     all_goals (refine Gn ?_;refine aH 5 6 ?_ TT.mk;refine aw 5 ?_;refine G2 ?_;refine Gt ?_;exact ⟨rfl,rfl⟩)
 refine calls [(0,_)] Tryz.func227 rfl Tryz.ntmps227 rfl ⟨rfl,trivial⟩ ?_
 refine G2 ?_;refine G3 ?_;refine WL.call (vs:=[_]) rfl Tryz.call267 rfl (kr) rfl rfl rfl ?_
 rintro _ hz ⟨rfl,_⟩
 subst hz
 refine Go ?_
 refine aH 1 2 ?_ TT.mk
 all_goals (refine aw 2 ?_)
 refine WC.skip ?_;refine Gn ?_;refine Gs [(0,_)] ?_;refine G2 ?_;refine Gt ?_
 exact ⟨rfl,rfl⟩
def eU (st:Int):Int:=if st=84 then 69 else st
theorem ni {st:Int} (hs:iK st):iK (eU st):=by
 rcases hs with rfl | rfl | rfl
 · exact .inl rfl
 · exact .inr (.inr rfl)
 · exact .inr (.inr rfl)
theorem zo {h:ah} {st:Int} (hs:iK st):ag Tryz.prog 156 ⟨[.int .u8 st]⟩ h fun u h'=>u=.int .u8 (eU st)∧h'=h:=by
 have kh:=fun h'=>vy (h:=h') hs
 rcases hs with rfl | rfl | rfl
 all_goals
   refine calls [(0,_)] Tryz.func156 rfl Tryz.ntmps156 rfl ⟨rfl,trivial⟩ ?_
   all_goals (refine G2 ?_;refine G3 ?_;refine WL.call (vs:=[_]) rfl Tryz.call227 rfl (kh _) rfl rfl rfl ?_;rintro _ hz ⟨rfl,_⟩;subst hz;refine Go ?_;refine G2 ?_;refine Gs [(0,_),(6,_)] ?_;refine aH 1 2 ?_ TT.mk)
   all_goals try (
   refine aw 1 ?_
   all_goals (refine G2 ?_;refine Gt ?_;exact ⟨rfl,rfl⟩)
   skip)
   all_goals (refine aw 2 ?_;refine WC.skip ?_;refine Gn ?_;refine G2 ?_;refine Gt ?_;exact ⟨rfl,rfl⟩)
def r5 (st:Int) (v:fR):List UInt8:=if v.k=4∨st=69 then ([82,79,76,76,66,65,67,75]:List UInt8) else ([67,79,77,77,73,84]:List UInt8)
theorem Cq {h:ah} {st:Int} (v:fR):ag Tryz.prog 296 ⟨[.int .u8 st,.agg ⟨v.cells⟩]⟩ h fun u h'=>u=St (r5 st v)∧Ext No h h':=by
 unfold fR.cells mh
 rcases (show r5 st v=([82,79,76,76,66,65,67,75]:List UInt8)∧v.k=4∨r5 st v=([82,79,76,76,66,65,67,75]:List UInt8)∧v.k ≠ 4∧st=69∨r5 st v=([67,79,77,77,73,84]:List UInt8)∧v.k ≠ 4∧st ≠ 69 by
   unfold r5
   by_cases e1:v.k=4
   · exact .inl ⟨if_pos (.inl e1),e1⟩
   · by_cases e2:st=69
     · exact .inr (.inl ⟨if_pos (.inr e2),e1,e2⟩)
     · exact .inr (.inr ⟨if_neg (fun e=>e.elim e1 e2),e1,e2⟩)) with ⟨e,h1⟩ | ⟨e,h1,h2⟩ | ⟨e,h1,h2⟩
 all_goals
   refine calls [(0,_),(1,_)] Tryz.func296 rfl Tryz.ntmps296 rfl ⟨rfl,rfl,trivial⟩ ?_
   all_goals (refine WC.sr ?_;refine WL.aj (aG rfl) rfl rfl rfl ?_;rintro _ g1 ⟨b1,rfl,bR,aR,az⟩;refine Go ?_;refine G3 ?_;refine Ld ?_;refine Go ?_;refine bK 8 ?_ TT.mk;refine Gg ?_;refine Go ?_;refine Gs [(11,_)] ?_;refine aH 1 2 ?_ TT.mk)
   all_goals try (
   refine aw 1 ?_
   all_goals (refine G2 ?_;refine Gt ?_;exact ⟨by rw [e],az⟩)
   skip)
   all_goals (refine aw 2 ?_;refine WC.skip ?_;refine Gn ?_;refine G2 ?_;refine Gt ?_;exact ⟨by rw [e],az⟩)
def eV (st:Int) (v:fR):Int × List UInt8:=if cx v=true then (73,r5 st v) else if v.k ≠ 2 then (st,[]) else (if st=73 then 84 else st,([66,69,71,73,78]:List UInt8))
theorem r6 {st:Int} (hs:iK st) (v:fR):iK (eV st v).1:=by
 unfold eV
 split
 · exact .inl rfl
 · split
   · exact hs
   · dsimp only
     split
     · exact .inr (.inl rfl)
     · exact hs
theorem zp {h:ah} {st:Int} (hs:iK st) (v:fR):ag Tryz.prog 264 ⟨[.int .u8 st,.agg ⟨v.cells⟩]⟩ h fun u h'=>u=.tuple ⟨[.int .u8 (eV st v).1,St (eV st v).2]⟩∧Ext No h h':=by
 have kh:=fun h'=>vy (h:=h') hs
 have kx:=fun h'=>mw (h:=h') v
 have ke:=fun h'=>Cq (h:=h') (st:=st) v
 unfold fR.cells mh at *
 rcases (show cx v=true∧eV st v=(73,r5 st v)∨cx v=false∧v.k ≠ 2∧eV st v=(st,[])∨cx v=false∧v.k=2∧st=73∧eV st v=(84,([66,69,71,73,78]:List UInt8))∨cx v=false∧v.k=2∧st ≠ 73∧eV st v=(st,([66,69,71,73,78]:List UInt8)) by
   unfold eV
   cases e1:cx v
   · by_cases e2:v.k=2
     · by_cases e3:st=73
       · exact .inr (.inr (.inl ⟨rfl,e2,e3,by simp [e2,e3]⟩))
       · exact .inr (.inr (.inr ⟨rfl,e2,e3,by simp [e2,e3]⟩))
     · exact .inr (.inl ⟨rfl,e2,by simp [e2]⟩)
   · exact .inl ⟨rfl,by simp⟩) with ⟨e,e4⟩ | ⟨e,h1,e4⟩ | ⟨e,h1,h2,e4⟩ | ⟨e,h1,h2,e4⟩
 all_goals
   rw [e] at kx
   refine calls [(0,_),(1,_)] Tryz.func264 rfl Tryz.ntmps264 rfl ⟨rfl,rfl,trivial⟩ ?_
   all_goals (refine WC.sr ?_;refine WL.aj (aG rfl) rfl rfl rfl ?_;rintro _ g1 ⟨b1,rfl,bR,aR,az⟩;refine Go ?_;refine G2 ?_;refine WL.call (vs:=[_]) rfl Tryz.call227 rfl (kh _) rfl rfl rfl ?_;rintro _ hz ⟨rfl,_⟩;subst hz;refine Go ?_;refine Gs [(0,_),(3,_)] ?_;refine WC.seq ?_;refine WC.sr ?_;refine WL.step (ay Tryz.isAgg278 Tryz.sizeOf278 rfl rfl (by exact At.av aR)) rfl rfl rfl ?_;refine WL.call (vs:=[_]) rfl Tryz.call265 rfl (kx _) rfl rfl rfl ?_;rintro _ g2 ⟨rfl,aI⟩;have bH:=aI.obj aR aO;have X2:=az.trans aI;refine Gn ?_;refine aH 1 2 ?_ TT.mk)
   all_goals try (
   refine aw 1 ?_
   all_goals (refine G2 ?_;refine WL.step (ay Tryz.isAgg278 Tryz.sizeOf278 rfl rfl (by exact At.av bH)) rfl rfl rfl ?_;refine WL.call (vs:=[_,_]) rfl Tryz.call296 rfl (ke _) rfl rfl rfl ?_;rintro _ g3 ⟨rfl,aQ⟩;have X2:=X2.trans aQ;refine Go ?_;refine Gs [(4,_),(5,_)] ?_;refine Gt ?_;exact ⟨by rw [e4],X2⟩)
   skip)
   all_goals (refine aw 2 ?_;refine WC.skip ?_;refine Gn ?_;refine G3 ?_;refine WL.ld rfl (by first | exact aa bH rfl | assumption) rfl rfl rfl (Go ?_);refine Gs [(0,_),(15,_)] ?_;refine aH 3 4 ?_ TT.mk)
   all_goals try (
   refine aw 3 ?_
   all_goals (refine G2 ?_;refine Gt ?_;exact ⟨by rw [e4],X2⟩)
   skip)
   all_goals (refine aw 4 ?_;refine WC.skip ?_;refine Gn ?_;refine G3 ?_;refine aH 5 6 ?_ TT.mk)
   all_goals try (
   refine aw 5 ?_
   all_goals (refine WC.region (Go ?_))
   skip)
   all_goals try (
   refine aw 6 ?_
   all_goals (refine WC.skip ?_)
   skip)
   all_goals (refine Gn ?_;refine G2 ?_;refine Gs [(4,_),(5,_)] ?_;refine Gt ?_;exact ⟨by rw [e4],X2⟩)
def om (v:fR) (oids:Nat):Int:=if v.k=6 then ((min oids 1000:Nat):Int) else if gb v=true then 1 else 0
theorem oO {h:ah} (v:fR) (oids:Nat):ag Tryz.prog 223 ⟨[.agg ⟨v.cells⟩,In (oids:Int)]⟩ h fun u h'=>u=In (om v oids)∧Ext No h h':=by
 have kx:=fun h'=>kj (h:=h') v
 unfold fR.cells mh at *
 rcases (show v.k=6∧om v oids=((min oids 1000:Nat):Int)∨v.k ≠ 6∧gb v=true∧om v oids=1∨v.k ≠ 6∧gb v=false∧om v oids=0 by
   unfold om
   by_cases e2:v.k=6
   · exact .inl ⟨e2,if_pos e2⟩
   · cases e1:gb v
     · exact .inr (.inr ⟨e2,rfl,by simp [e2]⟩)
     · exact .inr (.inl ⟨e2,rfl,by simp [e2]⟩)) with ⟨h1,e4⟩ | ⟨h1,e,e4⟩ | ⟨h1,e,e4⟩
 all_goals
   try rw [e] at kx
   refine calls [(0,_),(1,_)] Tryz.func223 rfl Tryz.ntmps223 rfl ⟨rfl,rfl,trivial⟩ ?_
   all_goals (refine WC.sr ?_;refine WL.aj (aG rfl) rfl rfl rfl ?_;rintro _ g1 ⟨b1,rfl,bR,aR,az⟩;refine Go ?_;refine WC.seq ?_;refine WC.block ?_;refine G2 ?_;refine Ld ?_;refine Go ?_;refine Gs [(1,_),(2,_),(5,_)] ?_;refine aH 1 2 ?_ TT.mk)
   all_goals try (
   refine aw 1 ?_
   all_goals (refine G2 ?_;refine WL.step (pD rfl rfl) rfl rfl rfl ?_;refine WL.step (j1 rfl rfl) rfl rfl rfl (Go ?_);refine Gs [(4,_)] ?_;refine Gt ?_;refine ⟨by rw [e4] <;> (congr 1;omega),az⟩)
   skip)
   all_goals (refine aw 2 ?_;refine WC.sr ?_;refine WL.step (ay Tryz.isAgg278 Tryz.sizeOf278 rfl rfl (by exact At.av aR)) rfl rfl rfl ?_;refine WL.call (vs:=[_]) rfl Tryz.call215 rfl (kx _) rfl rfl rfl ?_;rintro _ g2 ⟨rfl,aI⟩;replace az:=az.trans aI;refine Go ?_;refine Gs [(12,_)] ?_;refine aH 3 4 ?_ TT.mk)
   all_goals try (
   refine aw 3 ?_
   all_goals (refine G2 ?_;refine Gt ?_;refine ⟨by rw [e4] <;> (congr 1;omega),az⟩)
   skip)
   all_goals (refine aw 4 ?_;refine WC.skip ?_;refine Gn ?_;refine G2 ?_;refine Gt ?_;refine ⟨by rw [e4] <;> (congr 1;omega),az⟩)
section
variable {κ α:Type} [DecidableEq κ]
def bG (L:List (κ × α)) (n:κ):Option α:=(L.find? fun p=>decide (p.1=n)).map (·.2)
def cb (L:List (κ × α)) (n:κ):List (κ × α):=L.filter fun p=>decide (p.1 ≠ n)
theorem ft (p:κ × α) (L:List (κ × α)) (n:κ):bG (p :: L) n=if p.1=n then some p.2 else bG L n:=by
 unfold bG
 rw [List.find?_cons]
 by_cases h:p.1=n <;> simp [h]
theorem b0 {L:List (κ × α)} {n:κ} {v:α} (h:bG L n=some v):(n,v)∈L:=by
 unfold bG at h
 obtain ⟨p,hp,rfl⟩:=Option.map_eq_some_iff.1 h
 have h1:=List.find?_some hp
 simp at h1
 rw [← h1]
 exact List.mem_of_find?_eq_some hp
theorem my {L:List (κ × α)} {n:κ} (h:bG L n=none):∀ p∈L,p.1 ≠ n:=by
 unfold bG at h
 rw [Option.map_eq_none_iff,List.find?_eq_none] at h
 exact fun p hp e=>h p hp (by simp [e])
theorem wO {L:List (κ × α)} {n:κ} (h:∀ p∈L,p.1 ≠ n):bG L n=none:=by
 rcases hg:bG L n with _ | v
 · rfl
 · exact absurd rfl (h _ (b0 hg))
theorem mz {L:List (κ × α)} (hn:(L.map (·.1)).Nodup) {n:κ} {v:α} (h:(n,v)∈L):bG L n=some v:=by
 induction L with
 | nil=>cases h
 | cons a L ih =>
   rw [ft]
   simp only [List.map_cons,List.nodup_cons,List.mem_map,not_exists,not_and] at hn
   rcases List.mem_cons.1 h with rfl | h
   · rw [if_pos rfl]
   · rw [if_neg (fun e=>hn.1 (n,v) h e.symm)]
     exact ih hn.2 h
theorem gx {L:List (κ × α)} {n:κ}:(bG L n).isSome=true ↔ n∈L.map (·.1):=by
 constructor
 · intro h
   obtain ⟨v,hv⟩:=Option.isSome_iff_exists.1 h
   exact List.mem_map.2 ⟨_,b0 hv,rfl⟩
 · intro h
   obtain ⟨p,hp,rfl⟩:=List.mem_map.1 h
   rcases hg:bG L p.1 with _ | v
   · exact absurd rfl (my hg p hp)
   · rfl
def eS (f:α→Value) (E:List (κ × α)):List (κ × Value):=E.map fun p=>(p.1,f p.2)
theorem cN (f:α→Value) (E:List (κ × α)) (n:κ):cT (eS f E) n=(bG E n).map f:=by
 unfold cT eS bG
 induction E with
 | nil=>rfl
 | cons a E ih =>
   simp only [List.map_cons,List.find?_cons]
   by_cases h:a.1=n <;> simp [h] at ih ⊢
   exact ih
def cl (E:List (κ × α)) (n:κ) (v:α):List (κ × α):=if (bG E n).isSome=true then E.map (fun p=>if p.1=n then (n,v) else p) else E++[(n,v)]
theorem lk (f:α→Value) (E:List (κ × α)) (n:κ) (v:α):tr (eS f E) n (f v)=eS f (cl E n v):=by
 unfold tr cl
 rw [cN]
 rcases bG E n with _ | w
 · simp [eS]
 · simp only [Option.map_some,Option.isSome_some,if_true,eS,List.map_map]
   refine List.map_congr_left fun p _=>?_
   simp only [Function.comp]
   split <;> rfl
theorem ez (f:α→Value) (E:List (κ × α)) (n:κ):lY (eS f E) n=eS f (cb E n):=by
 unfold lY eS cb
 rw [List.filter_map]
 rfl
omit [DecidableEq κ] in
theorem ll (f:α→Value) (E:List (κ × α)):(eS f E).map (·.1)=E.map (·.1):=by simp [eS,List.map_map,Function.comp_def]
theorem ln (L:List (κ × α)) (n:κ) (v:α):(cl L n v).map (·.1)=if n∈L.map (·.1) then L.map (·.1) else L.map (·.1)++[n]:=by
 unfold cl
 by_cases h:(bG L n).isSome=true
 · rw [if_pos h,if_pos (gx.1 h),List.map_map]
   refine List.map_congr_left fun p _=>?_
   simp only [Function.comp]
   split
   · rename_i e;exact e.symm
   · rfl
 · rw [if_neg h,if_neg (fun e=>h (gx.2 e))]
   simp
theorem vz {L:List (κ × α)} (hn:(L.map (·.1)).Nodup) (n:κ) (v:α):((cl L n v).map (·.1)).Nodup:=by
 rw [ln]
 split
 · exact hn
 · rename_i h
   rw [List.nodup_append]
   exact ⟨hn,by simp,fun a ha b hb=>by rw [List.mem_singleton.1 hb];exact fun e=>h (e▸ha)⟩
theorem zq {L:List (κ × α)} (hn:(L.map (·.1)).Nodup) (n m:κ) (v:α):bG (cl L n v) m=if m=n then some v else bG L m:=by
 by_cases e:m=n
 · subst e
   rw [if_pos rfl]
   refine mz (vz hn m v) ?_
   unfold cl
   split
   · rename_i h
     obtain ⟨w,hw⟩:=Option.isSome_iff_exists.1 h
     exact List.mem_map.2 ⟨_,b0 hw,by simp⟩
   · simp
 · rw [if_neg e]
   rcases h:bG L m with _ | w
   · refine wO fun p hp e2=>?_
     have:m∈(cl L n v).map (·.1):=e2▸List.mem_map.2 ⟨p,hp,rfl⟩
     have hm:m ∉ L.map (·.1):=fun hm=>by have:=gx.2 hm;rw [h] at this;cases this
     rw [ln] at this
     split at this
     · exact hm this
     · rcases List.mem_append.1 this with h1 | h1
       · exact hm h1
       · exact e (List.mem_singleton.1 h1)
   · refine mz (vz hn n v) ?_
     have:=b0 h
     unfold cl
     split
     · exact List.mem_map.2 ⟨_,this,by simp [e]⟩
     · exact List.mem_append_left _ this
theorem zr (L:List (κ × α)) (n m:κ):bG (cb L n) m=if m=n then none else bG L m:=by
 induction L with
 | nil=>simp [cb,bG]
 | cons a L ih =>
   unfold cb at ih ⊢
   rw [List.filter_cons]
   by_cases h:a.1=n
   · rw [if_neg (by simp [h]),ih,ft]
     by_cases e:m=n
     · simp [e]
     · rw [if_neg e,if_neg e,if_neg (fun e2=>e (by rw [← e2,h]))]
   · rw [if_pos (by simp [h]),ft,ft,ih]
     by_cases e:a.1=m
     · rw [if_pos e,if_pos e,if_neg (fun e2=>h (by rw [e,e2]))]
     · rw [if_neg e,if_neg e]
end
structure gy where
  text : List UInt8
  vo : Value
  oids : List Int
structure ee where
  p : Nat
  d : PD
def sZ (s : gy) : Value := .agg ⟨[St s.text, s.vo]⟩
def vA (i : ee) : Value := .pointer (some ⟨i.p, 0, none⟩)
structure Ad where
  bs : Nat
  ms : Nat
  bp : Nat
  mp : Nat
  be : Nat
  me : Nat
  z : Nat → Prop
def Mu (A : Ad) (P : List (List UInt8 × ee)) (q : Nat) : Prop := q = A.bs ∨ q = A.ms ∨ q = A.mp ∨ q = A.be ∨ ∃ r ∈ P, q = r.2.p
structure Zk (h : ah) (A : Ad) (L : List (List UInt8 × gy)) (P : List (List UInt8 × ee)) : Prop where
  l : ∀ q ∈ L, ∀ k, 0 < q.2.oids.length → q.2.vo.ownBlock = some k → ¬ A.z k
  p : ∀ q ∈ P, ∀ k, q.2.d.F k → ¬ A.z k
  s : ∀ q, A.z q → q < h.size
theorem Zk.sub {h h' : ah} {A : Ad} {L L' : List (List UInt8 × gy)} {P P' : List (List UInt8 × ee)} (k : Zk h A L P) (hs : h.size ≤ h'.size) (hL : ∀ q ∈ L', q ∈ L) (hP : ∀ q ∈ P', q ∈ P) : Zk h' A L' P' := ⟨fun q hq => k.l q (hL q hq), fun q hq => k.p q (hP q hq), fun q hq => Nat.lt_of_lt_of_le (k.s q hq) hs⟩
theorem Zk.up {h h' : ah} {A : Ad} {L : List (List UInt8 × gy)} {P : List (List UInt8 × ee)} (k : Zk h A L P) (hs : h.size ≤ h'.size) : Zk h' A L P := k.sub hs (fun _ h => h) (fun _ h => h)
structure Ss (h : ah) (A : Ad) (st : Int) (sk ov : Bool) (cnt : Int) (L : List (List UInt8 × gy)) (P : List (List UInt8 × ee)) : Prop where
  se : Se h A.bs A.ms A.bp A.mp A.be A.me st sk ov cnt (eS sZ L) (eS vA P) []
  sok : ∀ q ∈ L, Rd h q.2.vo 1 q.2.oids.length (ints q.2.oids) ∧ q.2.oids.length ≤ 20000 ∧ ∀ k, 0 < q.2.oids.length → q.2.vo.ownBlock = some k → ¬ Mu A P k
  pok : ∀ q ∈ P, h[q.2.p]? = some (.cells ⟨q.2.d.cells⟩ 273 (0, 0)) ∧ q.2.d.ok h ∧ ∀ k, q.2.d.F k → ¬ Mu A P k
  dis : ∀ q ∈ P, ∀ r ∈ P, q.1 ≠ r.1 → q.2.p ≠ r.2.p
  sto : iK st
  cok : 0 ≤ cnt ∧ cnt ≤ 1000000
  zz : Zk h A L P
def Tn (A : Ad) (P : List (List UInt8 × ee)) (h h' : ah) (P' : List (List UInt8 × ee)) : Prop := Ext (Mu A P) h h' ∧ ∀ q, q < h.size → Mu A P' q → Mu A P q
theorem Tn.trans {A : Ad} {P P' P'' : List (List UInt8 × ee)} {h h' h'' : ah} (a : Tn A P h h' P') (b : Tn A P' h' h'' P'') : Tn A P h h'' P'' :=
  ⟨a.1.trans' b.1 (fun q hq e => a.2 q hq e), fun q hq e => a.2 q hq (b.2 q (by have := a.1.size; omega) e)⟩
theorem Tn.no {A : Ad} {P : List (List UInt8 × ee)} {h h' : ah} (x : Ext No h h') : Tn A P h h' P := ⟨x.mono fun _ _ e => e.elim, fun _ _ e => e⟩
theorem Tn.same {A : Ad} {P : List (List UInt8 × ee)} {h h' : ah} {S : Nat → Prop} (x : Ext S h h') (hS : ∀ q, S q → Mu A P q) : Tn A P h h' P := ⟨x.mono fun _ _ e => hS _ e, fun _ _ e => e⟩
theorem cu {κ α : Type} [DecidableEq κ] {E : List (κ × α)} {n : κ} {v : α} {q : κ × α} (h : q ∈ cl E n v) : q = (n, v) ∨ (q ∈ E ∧ q.1 ≠ n) := by
  unfold cl at h
  split at h
  · obtain ⟨p, hp, rfl⟩ := List.mem_map.1 h
    by_cases e : p.1 = n
    · rw [if_pos e]; exact .inl rfl
    · rw [if_neg e]; exact .inr ⟨hp, e⟩
  · rename_i hg
    rcases List.mem_append.1 h with h | h
    · exact .inr ⟨h, fun e => hg (gx.2 (List.mem_map.2 ⟨q, h, e⟩))⟩
    · exact .inl (List.mem_singleton.1 h)
theorem cB {κ α : Type} [DecidableEq κ] {E : List (κ × α)} {n : κ} {q : κ × α} (h : q ∈ cb E n) : q ∈ E ∧ q.1 ≠ n := by
  unfold cb at h
  obtain ⟨h1, h2⟩ := List.mem_filter.1 h
  exact ⟨h1, by simpa using h2⟩
theorem bw {h : ah} {a b : Nat} {c d : Array Value} {T U : TypeId} {y z : Nat × Nat} (ha : h[a]? = some (.cells c T y)) (hb : h[b]? = some (.cells d U z)) (hT : T ≠ U) : a ≠ b := fun e => by
  subst e
  rw [ha] at hb
  simp only [Option.some.injEq, Obj.cells.injEq] at hb
  exact hT hb.2.1
section
variable {h h' : ah} {A : Ad} {st st' : Int} {sk ov sk' ov' : Bool} {cnt cnt' : Int} {L : List (List UInt8 × gy)} {P : List (List UInt8 × ee)} {S : Nat → Prop}
theorem Ss.not (k : Ss h A st sk ov cnt L P) {q : Nat} {cs : Array Value} {T : TypeId} (hq : h[q]? = some (.cells cs T (0, 0))) (h1 : T ≠ 153) (h2 : T ≠ 104) (h3 : T ≠ 273) : ¬ Mu A P q := fun e => by
  rcases e with e | e | e | e | ⟨r, hr, e⟩
  · exact bw hq k.se.bm h1 e
  · exact dX k.se.stm hq e
  · exact dX k.se.pm hq e
  · exact bw hq k.se.eb h2 e
  · exact bw hq (k.pok r hr).1 h3 e
theorem Ss.zt (k : Ss h A st sk ov cnt L P) {v : Value} {T : TypeId} {sz n : Nat} {xs : List Value} (ho : Own h v T sz n xs) (h1 : T ≠ 153) (h2 : T ≠ 104) (h3 : T ≠ 273) : ∀ q, v.ownBlock = some q → ¬ Mu A P q := fun q hq => by
  obtain ⟨_, ⟨rfl, _⟩ | ⟨g, cap, cur, rfl, hg, _⟩⟩ := ho
  · cases hq
  · simp only [Value.ownBlock, Option.some.injEq] at hq
    subst hq
    exact k.not hg h1 h2 h3
theorem Ss.lt (k : Ss h A st sk ov cnt L P) {q : Nat} (e : Mu A P q) : q < h.size := by
  rcases e with e | e | e | e | ⟨r, hr, e⟩
  · exact e ▸ ai k.se.bm
  · exact e ▸ k.se.stm.lt
  · exact e ▸ k.se.pm.lt
  · exact e ▸ ai k.se.eb
  · exact e ▸ ai (k.pok r hr).1
theorem Ss.aq (k : Ss h A st sk ov cnt L P) (x : Ext No h h') : Ss h' A st sk ov cnt L P :=
  ⟨k.se.aq x, fun q hq => ⟨(k.sok q hq).1.aq x, (k.sok q hq).2⟩, fun q hq => ⟨x.obj (k.pok q hq).1 aO, (k.pok q hq).2.1.ext x (fun _ _ => aO), (k.pok q hq).2.2⟩, k.dis, k.sto, k.cok, k.zz.up x.size⟩
theorem Ss.js (k : Ss h A st sk ov cnt L P) (x : Ext (fun z => z = A.bs) h h') (hb : h'[A.bs]? = some (.cells ⟨[.map (some A.ms), .pointer (some ⟨A.bp, 0, none⟩), .pointer (some ⟨A.be, 0, none⟩), .int .u8 st', .bool sk', .bool ov']⟩ 153 (0, 0))) (hs : iK st') : Ss h' A st' sk' ov' cnt L P ∧ Tn A P h h' P :=
  ⟨⟨k.se.js x hb, fun q hq => ⟨(k.sok q hq).1.ext' x (fun z h0 hz e => (k.sok q hq).2.2 z h0 hz (.inl e)), (k.sok q hq).2⟩, fun q hq => ⟨x.obj (k.pok q hq).1 (fun e => bw (k.pok q hq).1 k.se.bm (by decide) e), (k.pok q hq).2.1.ext x (fun z hz e => (k.pok q hq).2.2 z hz (.inl e)), (k.pok q hq).2.2⟩, k.dis, hs, k.cok, k.zz.up x.size⟩, Tn.same x (fun q e => .inl e)⟩
theorem Ss.nj (k : Ss h A st sk ov cnt L P) {L' : List (List UInt8 × gy)} (x : Ext (fun z => z = A.ms) h h') (hm : Mp .string St h' A.ms (eS sZ L')) (hL : ∀ q ∈ L', q ∈ L ∨ (Rd h q.2.vo 1 q.2.oids.length (ints q.2.oids) ∧ q.2.oids.length ≤ 20000 ∧ ∀ k, 0 < q.2.oids.length → q.2.vo.ownBlock = some k → ¬ Mu A P k ∧ ¬ A.z k)) : Ss h' A st sk ov cnt L' P ∧ Tn A P h h' P := by
  have e := k.se
  refine ⟨⟨⟨x.obj e.bm (dX e.stm e.bm), hm, x.obj e.pb (dX e.stm e.pb), e.pm.ext x (fun z => e.ne.1 z.symm), x.obj e.eb (dX e.stm e.eb), e.em.ext x (fun z => e.ne.2.1 z.symm), e.ne⟩, fun q hq => ?_, fun q hq => ⟨x.obj (k.pok q hq).1 (dX e.stm (k.pok q hq).1), (k.pok q hq).2.1.ext x (fun z hz e => (k.pok q hq).2.2 z hz (.inr (.inl e))), (k.pok q hq).2.2⟩, k.dis, k.sto, k.cok, ⟨fun q hq k0 a b => (hL q hq).elim (fun z => k.zz.l q z k0 a b) (fun z => (z.2.2 k0 a b).2), k.zz.p, (k.zz.up x.size).s⟩⟩, Tn.same x (fun q e => .inr (.inl e))⟩
  have := (hL q hq).elim (fun z => k.sok q z) (fun z => ⟨z.1, z.2.1, fun k0 a b => (z.2.2 k0 a b).1⟩)
  exact ⟨this.1.ext' x (fun z h0 hz e => this.2.2 z h0 hz (.inr (.inl e))), this.2⟩
theorem Ss.cG (k : Ss h A st sk ov cnt L P) {P' : List (List UInt8 × ee)} (x : Ext (fun z => z = A.mp) h h') (hm : Mp .string St h' A.mp (eS vA P')) (hP : ∀ q ∈ P', q ∈ P) : Ss h' A st sk ov cnt L P' ∧ Tn A P h h' P' := by
  have e := k.se
  have hmu : ∀ q, Mu A P' q → Mu A P q := fun q z => by
    rcases z with z | z | z | z | ⟨r, hr, z⟩
    · exact .inl z
    · exact .inr (.inl z)
    · exact .inr (.inr (.inl z))
    · exact .inr (.inr (.inr (.inl z)))
    · exact .inr (.inr (.inr (.inr ⟨r, hP r hr, z⟩)))
  exact ⟨⟨⟨x.obj e.bm (dX e.pm e.bm), e.stm.ext x e.ne.1, x.obj e.pb (dX e.pm e.pb), hm, x.obj e.eb (dX e.pm e.eb), e.em.ext x (fun z => e.ne.2.2 z.symm), e.ne⟩,
    fun q hq => ⟨(k.sok q hq).1.ext' x (fun z h0 hz e => (k.sok q hq).2.2 z h0 hz (.inr (.inr (.inl e)))), (k.sok q hq).2.1, fun z h0 hz e => (k.sok q hq).2.2 z h0 hz (hmu _ e)⟩,
    fun q hq => ⟨x.obj (k.pok q (hP q hq)).1 (dX e.pm (k.pok q (hP q hq)).1), (k.pok q (hP q hq)).2.1.ext x (fun z hz e => (k.pok q (hP q hq)).2.2 z hz (.inr (.inr (.inl e)))), fun z hz e => (k.pok q (hP q hq)).2.2 z hz (hmu _ e)⟩,
    fun q hq r hr => k.dis q (hP q hq) r (hP r hr), k.sto, k.cok, k.zz.sub x.size (fun _ h => h) hP⟩, x.mono (fun q _ e => .inr (.inr (.inl e))), fun q _ => hmu q⟩
theorem Ss.lq (k : Ss h A st sk ov cnt L P) {n : List UInt8} {p : Nat} {d : PD} (x : Ext (fun z => z = A.mp) h h') (hm : Mp .string St h' A.mp (eS vA (cl P n ⟨p, d⟩))) (hp : h'[p]? = some (.cells ⟨d.cells⟩ 273 (0, 0))) (hd : d.ok h') (hg : h.size ≤ p) (hF : ∀ z, d.F z → h.size ≤ z ∧ z ≠ p) : Ss h' A st sk ov cnt L (cl P n ⟨p, d⟩) ∧ Tn A P h h' (cl P n ⟨p, d⟩) := by
  have e := k.se
  have hmu : ∀ q, Mu A (cl P n ⟨p, d⟩) q → Mu A P q ∨ q = p := fun q z => by
    rcases z with z | z | z | z | ⟨r, hr, z⟩
    · exact .inl (.inl z)
    · exact .inl (.inr (.inl z))
    · exact .inl (.inr (.inr (.inl z)))
    · exact .inl (.inr (.inr (.inr (.inl z))))
    · rcases cu hr with rfl | ⟨hr, _⟩
      · exact .inr z
      · exact .inl (.inr (.inr (.inr (.inr ⟨r, hr, z⟩))))
  refine ⟨⟨⟨x.obj e.bm (dX e.pm e.bm), e.stm.ext x e.ne.1, x.obj e.pb (dX e.pm e.pb), hm, x.obj e.eb (dX e.pm e.eb), e.em.ext x (fun z => e.ne.2.2 z.symm), e.ne⟩,
    fun q hq => ⟨(k.sok q hq).1.ext' x (fun z h0 hz e => (k.sok q hq).2.2 z h0 hz (.inr (.inr (.inl e)))), (k.sok q hq).2.1, fun z h0 hz e => ?_⟩, fun q hq => ?_, fun q hq r hr hne => ?_, k.sto, k.cok, ⟨k.zz.l, fun q hq z hz => ?_, (k.zz.up x.size).s⟩⟩, x.mono (fun q _ e => .inr (.inr (.inl e))), fun q hq z => (hmu q z).resolve_right (fun e => by omega)⟩
  · rcases hmu z e with e | e
    · exact (k.sok q hq).2.2 z h0 hz e
    · have := (k.sok q hq).1.lt h0 hz; omega
  · rcases cu hq with rfl | ⟨hq, hn⟩
    · refine ⟨hp, hd, fun z hz e => ?_⟩
      rcases hmu z e with e | e
      · have := k.lt e; have := (hF z hz).1; omega
      · exact (hF z hz).2 e
    · refine ⟨x.obj (k.pok q hq).1 (dX e.pm (k.pok q hq).1), (k.pok q hq).2.1.ext x (fun z hz e => (k.pok q hq).2.2 z hz (.inr (.inr (.inl e)))), fun z hz e => ?_⟩
      rcases hmu z e with e | e
      · exact (k.pok q hq).2.2 z hz e
      · have := (k.pok q hq).2.1.lt hz; omega
  · rcases cu hq with rfl | ⟨hq, hn⟩ <;> rcases cu hr with rfl | ⟨hr, hm⟩
    · exact absurd rfl hne
    · have := ai (k.pok r hr).1
      show p ≠ r.2.p
      omega
    · have := ai (k.pok q hq).1
      show q.2.p ≠ p
      omega
    · exact k.dis q hq r hr hne
  · rcases cu hq with rfl | ⟨hq, _⟩
    · exact fun e => by have := k.zz.s z e; have := (hF z hz).1; omega
    · exact k.zz.p q hq z hz
theorem Ss.HE (k : Ss h A st sk ov cnt L P) {n : List UInt8} {i : ee} {d : PD} (hi : bG P n = some i) (x : Ext (fun z => z = i.p) h h') (hp : h'[i.p]? = some (.cells ⟨d.cells⟩ 273 (0, 0))) (hd : d.ok h') (hF : ∀ z, d.F z → i.d.F z ∨ h.size ≤ z) : Ss h' A st sk ov cnt L (cl P n ⟨i.p, d⟩) ∧ Tn A P h h' (cl P n ⟨i.p, d⟩) := by
  have e := k.se
  have him := b0 hi
  have hip := k.pok _ him
  have hmi : Mu A P i.p := .inr (.inr (.inr (.inr ⟨_, him, rfl⟩)))
  have hmu : ∀ q, Mu A (cl P n ⟨i.p, d⟩) q → Mu A P q := fun q z => by
    rcases z with z | z | z | z | ⟨r, hr, z⟩
    · exact .inl z
    · exact .inr (.inl z)
    · exact .inr (.inr (.inl z))
    · exact .inr (.inr (.inr (.inl z)))
    · rcases cu hr with rfl | ⟨hr, _⟩
      · exact z ▸ hmi
      · exact .inr (.inr (.inr (.inr ⟨r, hr, z⟩)))
  have hen : eS vA (cl P n ⟨i.p, d⟩) = eS vA P := by
    unfold cl
    rw [if_pos (by rw [hi]; rfl)]
    unfold eS
    rw [List.map_map]
    refine List.map_congr_left fun q hq => ?_
    simp only [Function.comp]
    by_cases hqn : q.1 = n
    · rw [if_pos hqn]
      have hnd : ((eS vA P).map (·.1)).Nodup := Mp.nodup fB e.pm
      rw [ll] at hnd
      have := mz hnd (show (q.1, q.2) ∈ P from hq)
      rw [hqn, hi] at this
      simp only [Option.some.injEq] at this
      rw [← this, hqn]
      rfl
    · rw [if_neg hqn]
  refine ⟨⟨?_, fun q hq => ⟨(k.sok q hq).1.ext' x (fun z h0 hz e => (k.sok q hq).2.2 z h0 hz (e ▸ hmi)), (k.sok q hq).2.1, fun z h0 hz e => (k.sok q hq).2.2 z h0 hz (hmu _ e)⟩, fun q hq => ?_, fun q hq r hr hne => ?_, k.sto, k.cok, ⟨k.zz.l, fun q hq z hz => ?_, (k.zz.up x.size).s⟩⟩, x.mono (fun q _ e => e ▸ hmi), fun q _ => hmu q⟩
  · rw [hen]
    exact e.HC hip.1 x
  · rcases cu hq with rfl | ⟨hq, hn⟩
    · exact ⟨hp, hd, fun z hz e => (hF z hz).elim (fun y => hip.2.2 z y (hmu _ e)) (fun y => by have := k.lt (hmu _ e); omega)⟩
    · exact ⟨x.obj (k.pok q hq).1 (k.dis q hq _ him hn), (k.pok q hq).2.1.ext x (fun z hz e => (k.pok q hq).2.2 z hz (e ▸ hmi)), fun z hz e => (k.pok q hq).2.2 z hz (hmu _ e)⟩
  · rcases cu hq with rfl | ⟨hq, hn⟩ <;> rcases cu hr with rfl | ⟨hr, hm⟩
    · exact absurd rfl hne
    · exact fun e => k.dis _ him r hr (fun y => hm y.symm) e
    · exact fun e => k.dis q hq _ him hn e
    · exact k.dis q hq r hr hne
  · rcases cu hq with rfl | ⟨hq, _⟩
    · exact (hF z hz).elim (fun y => k.zz.p _ him z y) (fun y e => by have := k.zz.s z e; omega)
    · exact k.zz.p q hq z hz
end
end Go.Proofs.YtopgddfgefnmbaaGreatDoor
