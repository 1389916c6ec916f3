/-
  SEVERAL TEXTS IN ONE: FltE, Ev, EntO, BkO, BkS, BkR, BkC, EncW, EnR, K27, Sx2, Dx1, Dx2, Dx3, Dx4, Sx3, Sx4, Dx5, Mpk, Dx6.
-/
import Derived.Test.YtopgddfgefnmbaaGreatDoorPServePieces2
import Derived.WideLaws
set_option maxHeartbeats 8000000
set_option maxRecDepth 100000
namespace Go.Proofs.YtopgddfgefnmbaaGreatDoor
open Go Go.RK
def kF (s c x:List UInt8):List bz:=[⟨83,s⟩,⟨86,s⟩,⟨67,c⟩,⟨77,x⟩]
theorem Hs {h:aj} (s c x:List UInt8):ai Tryz.prog 89 ⟨[St s,St c,St x]⟩ h fun u h'=>Own h' u 194 2 4 ((kF s c x).flatMap bz.cells)∧Ext No h h'∧∀ q,u.ownBlock=some q→h.size≤q:=by
 refine calls [(0,_),(1,_),(2,_)] Tryz.func89 rfl Tryz.ntmps89 rfl ⟨rfl,rfl,rfl,trivial⟩ ?_
 refine G2 ?_;refine G2 ?_;refine WL.step (aH (vs:=[_,_,_,_]) (cs:=[_,_,_,_]) (fun | [a0,a1,a2,a3]=>[a0,a1,a2,a3] | _=>[]) rfl rfl (by kernel_rfl)) rfl rfl rfl ?_
 refine WL.al (au (fun w=>Tryz.zeroValue192 w)) rfl rfl rfl ?_
 rintro _ h1 ⟨b7,rfl,zu,cq,aB⟩
 refine WL.az (aq Tryz.sizeOf192 rfl rfl rfl cq rfl (by simp [Value.oneCell'])) rfl rfl ?_
 rintro _ h2 ⟨Kf,aK⟩
 refine Gn ?_;refine Gs [(7,_)] ?_;refine G2 ?_;refine WC.seq ?_;refine WC.sr ?_;refine WL.al (aw (vs:=[_,_,_,_]) (cs:=[_,_,_,_]) (fun | [a0,a1,a2,a3]=>[a0,a1,a2,a3] | _=>[]) Tryz.underlying23 rfl rfl (by kernel_rfl)) rfl rfl rfl ?_
 rintro _ h3 ⟨RJ,rfl,Kg,dK,aS⟩
 refine WL.al (iv Tryz.underlying23 Tryz.underlying5 rfl (by assumption)) rfl rfl rfl ?_
 rintro _ h4 ⟨rfl,⟨z4,bN⟩,bh⟩
 have iI:=aB.trans' aK (fun q hq e=>by omega)
 have s2:=iI.size
 have Nx:=bh.obj (aS.obj Kf aQ) (fun e=>by have:=ak Kf;omega)
 have pI:=(iI.trans aS).trans' bh (fun q hq e=>by omega)
 refine Go ?_;refine WC.block ?_;refine WC.bO (X:=Nat × Value) (fun x=>([(19,In (x.1:Int)),(8,x.2)]:Fr)) [(7,_),(17,_),(18,_)] (fun y h'=>y.1≤4∧Own h' y.2 194 2 y.1 (((kF s c x).take y.1).flatMap bz.cells)∧Ext No h4 h'∧∀ q,y.2.ownBlock=some q→h4.size≤q) (fun y=>4 - y.1) ((0,.slice none 0 0)) ⟨rfl,rfl,rfl,rfl,rfl,trivial⟩ (by exact ⟨by decide,Own.nil _ _ _,.refl _ _,by simp [Value.ownBlock]⟩) ?_
 rintro ⟨k,w⟩ h5 ⟨hk,eX,aO,gj⟩
 dsimp only at hk eX gj
 refine WC.sub [(8,_),(19,_),(7,_),(17,_),(18,_)] ⟨rfl,rfl,rfl,rfl,rfl,trivial⟩ ?_
 dsimp only
 refine G2 ?_;refine WC.seq ?_
 refine aJ 1 2 (Hb.mk fun hb=>?_) (Hb.mk fun hb=>?_)
 aa try (
 refine ay 1 ?_
 refine WC.skip ?_
 skip)
 aa try (
 refine ay 2 ?_
 refine WC.exit ?_
 repeat' (ae first | refine aZ ?_ | refine aF rfl ?_ | refine aL ?_ | refine aN ?_ | refine aV ?_)
 refine Br.out (i:=1000) ?_
 skip)
 aa (refine Gn ?_;first | refine Br.ad ?_ | refine WC.seq ?_)
 aa (first | refine Br.ad ?_ | refine WC.block ?_)
 aa (first | refine Br.ad ?_ | refine WC.sr ?_)
 aa (
  first
    | (refine Br.ad ?_)
    | (obtain ⟨y,hy⟩:∃ y,(kF s c x)[k]?=some y:=⟨_,List.getElem?_eq_getElem (by show k < 4;omega)⟩
       have Kh:([.int .u8 83,.int .u8 86,.int .u8 67,.int .u8 77]:List Value)[k]?=some (.int .u8 y.k):=by have:=congrArg (Option.map fun f:bz=>Value.int .u8 f.k) hy;rw [← List.getElem?_map] at this;exact this
       have Ki:([St s,St s,St c,St x]:List Value)[k]?=some (St y.t):=by have:=congrArg (Option.map fun f:bz=>St f.t) hy;rw [← List.getElem?_map] at this;exact this
       have Ny:=aO.obj bN aQ
       have AU:=aO.obj Nx aQ))
 aa (first | refine Br.ad ?_ | refine WL.step (an rfl) rfl rfl rfl ?_)
 aa (first | refine Br.ad ?_ | (refine WL.step (aG Tryz.underlying23 Tryz.sizeOf5 rfl rfl rfl (by omega) (by first | rfl | assumption)) rfl rfl rfl ?_))
 aa (first | refine Br.ad ?_ | (refine WL.ld rfl (by first | exact (At.ax Ny).get k Kh (by omega) | assumption) rfl rfl rfl ?_))
 aa (refine Go ?_;first | refine Br.ad ?_ | refine Gs [(7,_),(8,_),(9,_),(10,_),(17,_),(18,_),(19,_)] ?_)
 aa (first | refine Br.ad ?_ | refine WC.region ?_)
 aa (refine Go ?_;first | refine Br.ad ?_ | (refine WL.step (tf Tryz.underlying192 Tryz.sizeOf9 rfl rfl rfl (by omega)) rfl rfl rfl ?_))
 aa (first | refine Br.ad ?_ | (refine WL.ld rfl (by first | exact (At.ax AU).get k Ki (by omega) | assumption) rfl rfl rfl ?_))
 aa (first | refine Br.ad ?_ | (refine WL.step (aH (vs:=[_,_]) (cs:=[_,_]) (fun | [a0,a1]=>[a0,a1] | _=>[]) rfl rfl (by kernel_rfl)) rfl rfl rfl ?_))
 aa (
  first
    | (refine Br.ad ?_)
    | (refine WL.al (aw (vs:=[_]) (cs:=[_,_]) (fun | [.agg ⟨[a0,a1]⟩]=>[a0,a1] | _=>[]) Tryz.underlying138 rfl rfl (by kernel_rfl)) rfl rfl rfl ?_
       rintro _ h6 ⟨b6,rfl,r5,cj,aP⟩))
 aa (
  first
    | (refine Br.ad ?_)
    | (refine WL.al (aX (sz:=2) (bytes:=24) rfl Tryz.underlying138 (show Tryz.prog.info? 194=some Tryz.t194 by kernel_rfl) rfl rfl rfl rfl (by decide) rfl rfl (eX.ext aP (fun _ _=>aQ)) (bG cj rfl) (by simp [Value.oneCell']) (by simp only [maxLen];omega) (by omega)) rfl rfl rfl ?_
       rintro v7 h7 ⟨nT,bu,FQ⟩))
 aa (refine Go ?_;first | refine Br.ad ?_ | refine Gs [(7,_),(8,_),(17,_),(18,_),(19,_)] ?_)
 aa (first | refine Br.ad ?_ | refine WC.region ?_)
 aa (refine Go ?_;first | refine Br.ad ?_ | (exact ⟨(k+1,_),⟨rfl,rfl,rfl,rfl,rfl,trivial⟩,(by exact ⟨by omega,by rw [List.take_add_one,hy,List.flatMap_append];simpa [bz.cells] using nT,(aO.trans aP).trans' bu (fun q hq e=>by have:=gj q e;omega),cb FQ gj (by have:=aO.size;have:=aP.size;omega)⟩),(by simp;omega)⟩))
 try (refine Br.mk (i:=1000) ?_)
 refine Gn ?_;refine Gs [(8,_)] ?_;refine G2 ?_;refine Gt ?_
 have RL:k=4:=by omega
 subst RL
 exact ⟨eX,pI.trans aO,fun q hq=>by have:=gj q hq;have:=pI.size;omega⟩
abbrev kj:Value:=.slice none 0 0
def eB (v:Value):List Value:=[.int .u8 69,.int .u8 0,St [],St [],St [],In 0,In 0,kj,kj,kj,v]
theorem bV {h:aj} {T:TypeId} {sz n q:Nat} {v:Value} {xs:List Value} (ho:Own h v T sz n xs) (hq:v.ownBlock=some q):∃ cur,h[q]?=some (.cells cur T (0,0)):=by
 obtain ⟨_,⟨e1,_⟩ | ⟨g,cap,cur,e1,hg,_⟩⟩:=ho
 · rw [e1] at hq;cases hq
 · rw [e1] at hq
   have:g=q:=by simpa [Value.ownBlock] using hq
   exact ⟨cur,this▸hg⟩
theorem wW {h:aj} (c x:List UInt8):ai Tryz.prog 157 ⟨[St c,St x]⟩ h fun u h'=>∃ v,u=.agg ⟨eB v⟩∧Own h' v 194 2 4 ((kF ([69,82,82,79,82]:List UInt8) c x).flatMap bz.cells)∧Ext No h h'∧∀ q,v.ownBlock=some q→h.size≤q:=by
 have kt:∀ h',ai Tryz.prog 228 ⟨[St ([69,82,82,79,82]:List UInt8),St c,St x]⟩ h' fun u gg=>∃ v,u=.agg ⟨eB v⟩∧Own gg v 194 2 4 ((kF ([69,82,82,79,82]:List UInt8) c x).flatMap bz.cells)∧Ext No h' gg∧∀ q,v.ownBlock=some q→h'.size≤q:=fun h'=>by
   refine calls [(0,_),(1,_),(2,_)] Tryz.func228 rfl Tryz.ntmps228 rfl ⟨rfl,rfl,rfl,trivial⟩ ?_
   refine WC.sr ?_;refine WL.al (au (fun w=>Tryz.zeroValue140 w)) rfl rfl rfl ?_
   rintro _ h1 ⟨b1,rfl,b0,aT,aB⟩
   refine Gn ?_;refine G2 ?_;refine WL.call (vs:=[_,_,_]) rfl Tryz.call89 rfl (Hs ([69,82,82,79,82]:List UInt8) c x) rfl rfl rfl ?_
   rintro v2 h2 ⟨dv,aK,fg⟩
   obtain ⟨A2,c2,rfl,_⟩:=dv.slice
   refine WL.step (aH (vs:=[_,_]) (cs:=[_,_,_,_,_,_,_,_,_,_,_]) (fun | [a0,iy]=>[a0,(.int .u8 0),(St []),(St []),(St []),(.int .i64 0),(.int .i64 0),(.slice none 0 0),(.slice none 0 0),(.slice none 0 0),iy] | _=>[]) rfl rfl (by kernel_rfl)) rfl rfl rfl ?_
   refine WL.az (aq Tryz.sizeOf140 rfl rfl rfl (aK.obj aT aQ) rfl (by simp [Value.oneCell'])) rfl rfl ?_
   rintro _ h3 ⟨bC,aS⟩
   refine Gn ?_;refine Gs [(6,_)] ?_;refine WC.ret ?_
   repeat' (ae first | refine bq ?_ | refine ba ?_)
   refine cA _ ⟨⟨_,rfl,bJ Tryz.isAgg140 Tryz.sizeOf140 bC rfl⟩,trivial⟩ ?_
   exact ⟨_,rfl,dv.ext aS (fun q hq e=>by obtain ⟨_,z⟩:=bV dv hq;rw [e,aK.obj aT aQ] at z;simp at z),(aB.trans aK).trans' aS (fun q hq e=>by omega),fun q hq=>by have:=fg q hq;have:=aB.size;omega⟩
 refine calls [(0,_),(1,_)] Tryz.func157 rfl Tryz.ntmps157 rfl ⟨rfl,rfl,trivial⟩ ?_
 refine WC.sr ?_;refine WL.al (au (fun w=>Tryz.zeroValue140 w)) rfl rfl rfl ?_
 rintro _ h1 ⟨b1,rfl,b0,aT,aB⟩
 refine Gn ?_;refine G2 ?_;refine WL.call (vs:=[_,_,_]) rfl Tryz.call228 rfl (kt _) rfl rfl rfl ?_
 rintro _ h2 ⟨v2,rfl,dv,aK,fg⟩
 obtain ⟨A2,c2,rfl,_⟩:=dv.slice
 refine WL.az (aq Tryz.sizeOf140 rfl rfl rfl (aK.obj aT aQ) rfl (by simp [eB,Value.oneCell'])) rfl rfl ?_
 rintro _ h3 ⟨bC,aS⟩
 refine Gn ?_;refine Gs [(4,_)] ?_;refine WC.ret ?_
 repeat' (ae first | refine bq ?_ | refine ba ?_)
 refine cA _ ⟨⟨_,rfl,bJ Tryz.isAgg140 Tryz.sizeOf140 bC rfl⟩,trivial⟩ ?_
 exact ⟨_,rfl,dv.ext aS (fun q hq e=>by obtain ⟨_,z⟩:=bV dv hq;rw [e,aK.obj aT aQ] at z;simp at z),(aB.trans aK).trans' aS (fun q hq e=>by omega),fun q hq=>by have:=fg q hq;have:=aB.size;omega⟩
theorem lk {α : Type} (p : α → Bool) (l : List α) : (!l.any fun x => !p x) = l.all p := by
 induction l with
 | nil => rfl
 | cons a l ih => rw [List.any_cons, List.all_cons, ← ih]; cases p a <;> simp
theorem th {h : aj} {b : Nat} {t : TypeId} (x : cI) (p : cI → Bool) {fk : Nat} (jc : ∀ (args : Array Value) (w : World), (callFunc fk args).run Tryz.prog w = .ok (.enter fk args) w) (hb : h[b]? = some (.cells ⟨[.func (.func fk) ⟨[]⟩ ⟨[]⟩]⟩ t (0, 0)))
   (hp : ∀ h', Ext No h h' → ai Tryz.prog fk ⟨[.agg ⟨cI.cells x⟩]⟩ h' fun u gg => u = .bool (p x) ∧ Ext No h' gg) :
   ai Tryz.prog 233 ⟨[.agg ⟨cI.cells x⟩, .pointer (some ⟨b, 0, none⟩)]⟩ h fun u h' => u = .bool (!p x) ∧ Ext No h h' := by
 refine calls [(0, _), (1, _)] Tryz.func233 rfl Tryz.ntmps233 rfl ⟨rfl, rfl, trivial⟩ ?_
 refine WC.sr ?_; refine WL.al (aI rfl) rfl rfl rfl ?_
 rintro _ h1 ⟨b1, rfl, b0, aT, aB⟩
 refine Go ?_; refine WC.sr ?_; refine WL.ld rfl (by first | exact ab (aB.obj hb aQ) rfl | assumption) rfl rfl rfl ?_
 refine WL.step (aA Tryz.isAgg212 Tryz.sizeOf212 rfl rfl (by exact At.ax aT)) rfl rfl rfl ?_
 refine WL.fT (vs := [_]) rfl rfl jc rfl (hp _ aB) rfl rfl rfl ?_
 rintro _ h2 ⟨rfl, aK⟩
 refine Go ?_; refine Gs [(3, _)] ?_; refine Gt ?_
 exact ⟨rfl, aB.trans aK⟩
theorem vd {h : aj} {v : Value} (l : List cI) (p : cI → Bool) (hr : Rd h v 7 l.length (l.flatMap cI.cells)) (hl : l.length ≤ 65535) {fk : Nat} (jc : ∀ (args : Array Value) (w : World), (callFunc fk args).run Tryz.prog w = .ok (.enter fk args) w)
   (hp : ∀ x ∈ l, ∀ h', Ext No h h' → ai Tryz.prog fk ⟨[.agg ⟨cI.cells x⟩]⟩ h' fun u gg => u = .bool (p x) ∧ Ext No h' gg) :
   ai Tryz.prog 192 ⟨[v, .func (.func fk) ⟨[]⟩ ⟨[]⟩]⟩ h fun u h' => u = .bool (l.all p) ∧ Ext No h h' := by
 have ve : ∀ {h' : aj} {b : Nat} {t : TypeId}, Ext No h h' → h'[b]? = some (.cells ⟨[.func (.func fk) ⟨[]⟩ ⟨[]⟩]⟩ t (0, 0)) → ai Tryz.prog 232 ⟨[v, .func (.func 233) ⟨[]⟩ ⟨[.pointer (some ⟨b, 0, none⟩)]⟩]⟩ h' fun u gg => u = .bool (l.any fun x => !p x) ∧ Ext No h' gg := by
   intro h' b t hx hb
   refine calls [(0, _), (1, _)] Tryz.func232 rfl Tryz.ntmps232 rfl ⟨rfl, rfl, trivial⟩ ?_
   refine G2 ?_; refine G2 ?_; refine WL.call (vs := [_, _]) rfl Tryz.call269 rfl (pc l (fun x => !p x) Tryz.call233 (fs := []) (us := [.pointer (some ⟨b, 0, none⟩)]) (hr.av hx) (by unfold maxLen; omega) (fun x xW h2 aK => th x p jc (aK.obj hb aQ) (fun h3 aS => hp x xW h3 ((hx.trans aK).trans aS)))) rfl rfl rfl ?_
   rintro _ h1 ⟨rfl, aB⟩
   refine WL.step (dH rfl rfl) rfl rfl rfl (Go ?_); refine Gs [(4, _)] ?_; refine Gt ?_
   exact ⟨by rw [ey], aB⟩
 obtain ⟨A, c, rfl, _⟩ := id hr
 refine calls [(0, _), (1, _)] Tryz.func192 rfl Tryz.ntmps192 rfl ⟨rfl, rfl, trivial⟩ ?_
 refine WC.sr ?_; refine WL.al (aI rfl) rfl rfl rfl ?_
 rintro _ h1 ⟨b1, rfl, b0, aT, aB⟩
 refine Go ?_; refine G2 ?_
 refine bU 8 ?_ TT.mk
 refine Gg ?_; refine WL.step (fe (vs := []) (us := [_]) rfl rfl) rfl rfl rfl ?_; refine WL.call (vs := [_, _]) rfl Tryz.call232 rfl (ve aB aT) rfl rfl rfl ?_
 rintro _ h2 ⟨rfl, aK⟩
 refine Gg ?_; refine Go ?_; refine Gs [(4, _)] ?_; refine Gt ?_
 exact ⟨by rw [← lk], aB.trans aK⟩
theorem tm {h : aj} {b : Nat} {t : TypeId} (x : bz) (p : bz → Bool) {fk : Nat} (jc : ∀ (args : Array Value) (w : World), (callFunc fk args).run Tryz.prog w = .ok (.enter fk args) w) (hb : h[b]? = some (.cells ⟨[.func (.func fk) ⟨[]⟩ ⟨[]⟩]⟩ t (0, 0)))
   (hp : ∀ h', Ext No h h' → ai Tryz.prog fk ⟨[.agg ⟨bz.cells x⟩]⟩ h' fun u gg => u = .bool (p x) ∧ Ext No h' gg) :
   ai Tryz.prog 236 ⟨[.agg ⟨bz.cells x⟩, .pointer (some ⟨b, 0, none⟩)]⟩ h fun u h' => u = .bool (!p x) ∧ Ext No h h' := by
 refine calls [(0, _), (1, _)] Tryz.func236 rfl Tryz.ntmps236 rfl ⟨rfl, rfl, trivial⟩ ?_
 refine WC.sr ?_; refine WL.al (aI rfl) rfl rfl rfl ?_
 rintro _ h1 ⟨b1, rfl, b0, aT, aB⟩
 refine Go ?_; refine WC.sr ?_; refine WL.ld rfl (by first | exact ab (aB.obj hb aQ) rfl | assumption) rfl rfl rfl ?_
 refine WL.step (aA Tryz.isAgg194 Tryz.sizeOf194 rfl rfl (by exact At.ax aT)) rfl rfl rfl ?_
 refine WL.fT (vs := [_]) rfl rfl jc rfl (hp _ aB) rfl rfl rfl ?_
 rintro _ h2 ⟨rfl, aK⟩
 refine Go ?_; refine Gs [(3, _)] ?_; refine Gt ?_
 exact ⟨rfl, aB.trans aK⟩
theorem vg {h : aj} {v : Value} (l : List bz) (p : bz → Bool) (hr : Rd h v 2 l.length (l.flatMap bz.cells)) (hl : l.length ≤ 65535) {fk : Nat} (jc : ∀ (args : Array Value) (w : World), (callFunc fk args).run Tryz.prog w = .ok (.enter fk args) w)
   (hp : ∀ x ∈ l, ∀ h', Ext No h h' → ai Tryz.prog fk ⟨[.agg ⟨bz.cells x⟩]⟩ h' fun u gg => u = .bool (p x) ∧ Ext No h' gg) :
   ai Tryz.prog 194 ⟨[v, .func (.func fk) ⟨[]⟩ ⟨[]⟩]⟩ h fun u h' => u = .bool (l.all p) ∧ Ext No h h' := by
 have ve : ∀ {h' : aj} {b : Nat} {t : TypeId}, Ext No h h' → h'[b]? = some (.cells ⟨[.func (.func fk) ⟨[]⟩ ⟨[]⟩]⟩ t (0, 0)) → ai Tryz.prog 235 ⟨[v, .func (.func 236) ⟨[]⟩ ⟨[.pointer (some ⟨b, 0, none⟩)]⟩]⟩ h' fun u gg => u = .bool (l.any fun x => !p x) ∧ Ext No h' gg := by
   intro h' b t hx hb
   refine calls [(0, _), (1, _)] Tryz.func235 rfl Tryz.ntmps235 rfl ⟨rfl, rfl, trivial⟩ ?_
   refine G2 ?_; refine G2 ?_; refine WL.call (vs := [_, _]) rfl Tryz.call272 rfl (pd l (fun x => !p x) Tryz.call236 (fs := []) (us := [.pointer (some ⟨b, 0, none⟩)]) (hr.av hx) (by unfold maxLen; omega) (fun x xW h2 aK => tm x p jc (aK.obj hb aQ) (fun h3 aS => hp x xW h3 ((hx.trans aK).trans aS)))) rfl rfl rfl ?_
   rintro _ h1 ⟨rfl, aB⟩
   refine WL.step (dH rfl rfl) rfl rfl rfl (Go ?_); refine Gs [(4, _)] ?_; refine Gt ?_
   exact ⟨by rw [ey], aB⟩
 obtain ⟨A, c, rfl, _⟩ := id hr
 refine calls [(0, _), (1, _)] Tryz.func194 rfl Tryz.ntmps194 rfl ⟨rfl, rfl, trivial⟩ ?_
 refine WC.sr ?_; refine WL.al (aI rfl) rfl rfl rfl ?_
 rintro _ h1 ⟨b1, rfl, b0, aT, aB⟩
 refine Go ?_; refine G2 ?_
 refine bU 8 ?_ TT.mk
 refine Gg ?_; refine WL.step (fe (vs := []) (us := [_]) rfl rfl) rfl rfl rfl ?_; refine WL.call (vs := [_, _]) rfl Tryz.call235 rfl (ve aB aT) rfl rfl rfl ?_
 rintro _ h2 ⟨rfl, aK⟩
 refine Gg ?_; refine Go ?_; refine Gs [(4, _)] ?_; refine Gt ?_
 exact ⟨by rw [← lk], aB.trans aK⟩
theorem tq {h : aj} {b : Nat} {t : TypeId} (x : bj) (p : bj → Bool) {fk : Nat} (jc : ∀ (args : Array Value) (w : World), (callFunc fk args).run Tryz.prog w = .ok (.enter fk args) w) (hb : h[b]? = some (.cells ⟨[.func (.func fk) ⟨[]⟩ ⟨[]⟩]⟩ t (0, 0)))
   (hp : ∀ h', Ext No h h' → ai Tryz.prog fk ⟨[.agg ⟨bj.cells x⟩]⟩ h' fun u gg => u = .bool (p x) ∧ Ext No h' gg) :
   ai Tryz.prog 237 ⟨[.agg ⟨bj.cells x⟩, .pointer (some ⟨b, 0, none⟩)]⟩ h fun u h' => u = .bool (!p x) ∧ Ext No h h' := by
 refine calls [(0, _), (1, _)] Tryz.func237 rfl Tryz.ntmps237 rfl ⟨rfl, rfl, trivial⟩ ?_
 refine WC.sr ?_; refine WL.al (aI rfl) rfl rfl rfl ?_
 rintro _ h1 ⟨b1, rfl, b0, aT, aB⟩
 refine Go ?_; refine WC.sr ?_; refine WL.ld rfl (by first | exact ab (aB.obj hb aQ) rfl | assumption) rfl rfl rfl ?_
 refine WL.step (aA Tryz.isAgg85 Tryz.sizeOf85 rfl rfl (by exact At.ax aT)) rfl rfl rfl ?_
 refine WL.fT (vs := [_]) rfl rfl jc rfl (hp _ aB) rfl rfl rfl ?_
 rintro _ h2 ⟨rfl, aK⟩
 refine Go ?_; refine Gs [(3, _)] ?_; refine Gt ?_
 exact ⟨rfl, aB.trans aK⟩
theorem vh {h : aj} {v : Value} (l : List bj) (p : bj → Bool) (hr : Rd h v 2 l.length (l.flatMap bj.cells)) (hl : l.length ≤ 65535) {fk : Nat} (jc : ∀ (args : Array Value) (w : World), (callFunc fk args).run Tryz.prog w = .ok (.enter fk args) w)
   (hp : ∀ x ∈ l, ∀ h', Ext No h h' → ai Tryz.prog fk ⟨[.agg ⟨bj.cells x⟩]⟩ h' fun u gg => u = .bool (p x) ∧ Ext No h' gg) :
   ai Tryz.prog 196 ⟨[v, .func (.func fk) ⟨[]⟩ ⟨[]⟩]⟩ h fun u h' => u = .bool (l.all p) ∧ Ext No h h' := by
 have ve : ∀ {h' : aj} {b : Nat} {t : TypeId}, Ext No h h' → h'[b]? = some (.cells ⟨[.func (.func fk) ⟨[]⟩ ⟨[]⟩]⟩ t (0, 0)) → ai Tryz.prog 46 ⟨[v, .func (.func 237) ⟨[]⟩ ⟨[.pointer (some ⟨b, 0, none⟩)]⟩]⟩ h' fun u gg => u = .bool (l.any fun x => !p x) ∧ Ext No h' gg := by
   intro h' b t hx hb
   refine calls [(0, _), (1, _)] Tryz.func46 rfl Tryz.ntmps46 rfl ⟨rfl, rfl, trivial⟩ ?_
   refine G2 ?_; refine G2 ?_; refine WL.call (vs := [_, _]) rfl Tryz.call83 rfl (jS l (fun x => !p x) Tryz.call237 (fs := []) (us := [.pointer (some ⟨b, 0, none⟩)]) (hr.av hx) (by unfold maxLen; omega) (fun x xW h2 aK => tq x p jc (aK.obj hb aQ) (fun h3 aS => hp x xW h3 ((hx.trans aK).trans aS)))) rfl rfl rfl ?_
   rintro _ h1 ⟨rfl, aB⟩
   refine WL.step (dH rfl rfl) rfl rfl rfl (Go ?_); refine Gs [(4, _)] ?_; refine Gt ?_
   exact ⟨by rw [ey], aB⟩
 obtain ⟨A, c, rfl, _⟩ := id hr
 refine calls [(0, _), (1, _)] Tryz.func196 rfl Tryz.ntmps196 rfl ⟨rfl, rfl, trivial⟩ ?_
 refine WC.sr ?_; refine WL.al (aI rfl) rfl rfl rfl ?_
 rintro _ h1 ⟨b1, rfl, b0, aT, aB⟩
 refine Go ?_; refine G2 ?_
 refine bU 8 ?_ TT.mk
 refine Gg ?_; refine WL.step (fe (vs := []) (us := [_]) rfl rfl) rfl rfl rfl ?_; refine WL.call (vs := [_, _]) rfl Tryz.call46 rfl (ve aB aT) rfl rfl rfl ?_
 rintro _ h2 ⟨rfl, aK⟩
 refine Gg ?_; refine Go ?_; refine Gs [(4, _)] ?_; refine Gt ?_
 exact ⟨by rw [← lk], aB.trans aK⟩
theorem wX {h : aj} {v : Value} (l : List bj) (p : bj → Bool) {fk : Nat} {fs us : List Value} (jc : ∀ (args : Array Value) (w : World), (callFunc fk args).run Tryz.prog w = .ok (.enter fk args) w) (hr : Rd h v 2 l.length (l.flatMap bj.cells)) (hm : l.length ≤ maxLen)
   (hp : ∀ x ∈ l, ∀ h', Ext No h h' → ai Tryz.prog fk ⟨fs ++ [.agg ⟨bj.cells x⟩] ++ us⟩ h' fun u gg => u = .bool (p x) ∧ Ext No h' gg) :
   ai Tryz.prog 46 ⟨[v, .func (.func fk) ⟨fs⟩ ⟨us⟩]⟩ h fun u h' => u = .bool (l.any p) ∧ Ext No h h' := by
 refine calls [(0, _), (1, _)] Tryz.func46 rfl Tryz.ntmps46 rfl ⟨rfl, rfl, trivial⟩ ?_
 refine G2 ?_; refine G2 ?_; refine WL.call (vs := [_, _]) rfl Tryz.call83 rfl (jS l p jc hr hm hp) rfl rfl rfl ?_
 rintro _ h1 ⟨rfl, aB⟩
 refine WL.step (dH rfl rfl) rfl rfl rfl (Go ?_); refine Gs [(4, _)] ?_; refine Gt ?_
 exact ⟨by rw [ey], aB⟩
theorem D4 {h : aj} {v : Value} (l : List fU) (p : fU → Bool) {fk : Nat} {fs us : List Value} (jc : ∀ (args : Array Value) (w : World), (callFunc fk args).run Tryz.prog w = .ok (.enter fk args) w) (hr : Rd h v 3 l.length (l.flatMap fU.cells)) (hm : l.length ≤ maxLen)
   (hp : ∀ x ∈ l, ∀ h', Ext No h h' → ai Tryz.prog fk ⟨fs ++ [.agg ⟨fU.cells x⟩] ++ us⟩ h' fun u gg => u = .bool (p x) ∧ Ext No h' gg) :
   ai Tryz.prog 270 ⟨[v, .func (.func fk) ⟨fs⟩ ⟨us⟩]⟩ h fun u h' => u = .bool (l.any p) ∧ Ext No h h' := by
 refine calls [(0, _), (1, _)] Tryz.func270 rfl Tryz.ntmps270 rfl ⟨rfl, rfl, trivial⟩ ?_
 refine G2 ?_; refine G2 ?_; refine WL.call (vs := [_, _]) rfl Tryz.call300 rfl (pa l p jc hr hm hp) rfl rfl rfl ?_
 rintro _ h1 ⟨rfl, aB⟩
 refine WL.step (dH rfl rfl) rfl rfl rfl (Go ?_); refine Gs [(4, _)] ?_; refine Gt ?_
 exact ⟨by rw [ey], aB⟩
def fU.okB (b : fU) : Bool := decide (b.lo ≤ b.n) && decide (b.n ≤ b.hi)
theorem AV {h : aj} (b : fU) : ai Tryz.prog 271 ⟨[.agg ⟨b.cells⟩]⟩ h fun u h' => u = .bool (!b.okB) ∧ Ext No h h' := by
 obtain ⟨n, lo, hi⟩ := b
 dsimp only [fU.cells, fU.okB]
 refine calls [(0, _)] Tryz.func271 rfl Tryz.ntmps271 rfl ⟨rfl, trivial⟩ ?_
 refine WC.sr ?_; refine WL.al (aI rfl) rfl rfl rfl ?_
 rintro _ h3 ⟨b3, rfl, gN, bC, aS⟩
 refine Go ?_; refine G2 ?_; refine Ld ?_; refine Go ?_; refine Ld ?_; refine Go ?_
 refine bU 8 (Hb.mk fun hb => ?_) (Hb.mk fun hb => ?_)
 aa (refine Gg ?_; first | refine WL.pass rfl rfl rfl ?_ | refine Ld ?_)
 aa (refine Gg ?_; first | refine WL.pass rfl rfl rfl ?_ | refine Ld ?_)
 aa (refine Gg ?_; refine Go ?_; refine Gs [(2, _)] ?_; refine Gt ?_)
 aa (
  refine ⟨congrArg Value.bool ?_, aS⟩
  by_cases q1 : lo ≤ n
  aa by_cases q2 : n ≤ hi
  aa first | (simp [q1, q2]; done) | (simp [q1, q2]; omega) | (exfalso; omega))
theorem Kj {h : aj} {v : Value} (l : List fU) (hr : Rd h v 3 l.length (l.flatMap fU.cells)) (hm : l.length ≤ maxLen) : ai Tryz.prog 234 ⟨[v]⟩ h fun u h' => u = .bool (l.all fU.okB) ∧ Ext No h h' := by
 refine calls [(0, _)] Tryz.func234 rfl Tryz.ntmps234 rfl ⟨rfl, trivial⟩ ?_
 refine G2 ?_; refine G2 ?_; refine WL.call (vs := [_, _]) rfl Tryz.call270 rfl (D4 l (fun b => !b.okB) Tryz.call271 (fs := []) (us := []) hr hm (fun x hx h' AW => AV x)) rfl rfl rfl ?_
 rintro _ h1 ⟨rfl, aB⟩
 refine Go ?_; refine Gs [(2, _)] ?_; refine Gt ?_
 exact ⟨by rw [← lk], aB⟩
instance (c : cI) : Decidable c.okB := by unfold cI.okB; exact inferInstance
instance (c : bz) : Decidable c.okB := by unfold bz.okB; exact inferInstance
instance (c : bj) : Decidable c.okB := by unfold bj.okB; exact inferInstance
theorem vi {h : aj} (c : cI) : ai Tryz.prog 193 ⟨[.agg ⟨c.cells⟩]⟩ h fun u h' => u = .bool (decide c.okB) ∧ Ext No h h' := by
 obtain ⟨nm, t, a, o, s, m, f⟩ := c
 dsimp only [cI.cells]
 refine calls [(0, _)] Tryz.func193 rfl Tryz.ntmps193 rfl ⟨rfl, trivial⟩ ?_
 refine WC.sr ?_; refine WL.al (aI rfl) rfl rfl rfl ?_
 rintro _ g1 ⟨b1, rfl, b0, aT, aB⟩
 refine Go ?_; refine G2 ?_; refine Ld ?_; refine WL.call (vs := [_]) rfl Tryz.call187 rfl (fI nm) rfl rfl rfl ?_
 rintro _ hz ⟨rfl, _⟩
 subst hz
 refine Go ?_
 refine bU 6 (Hb.mk fun hb => ?_) (Hb.mk fun hb => ?_)
 aa (refine Gg ?_; first | refine WL.pass rfl rfl rfl ?_ | refine Ld ?_)
 aa (first | refine WL.pass rfl rfl rfl ?_ | (refine WL.step (aH (vs := [_, _, _]) (cs := [_, _, _]) (fun | [a0, a1, a2] => [a0, a1, a2] | _ => []) rfl rfl (by kernel_rfl)) rfl rfl rfl ?_))
 aa (refine Gg ?_; first | refine WL.pass rfl rfl rfl ?_ | refine Ld ?_)
 aa (first | refine WL.pass rfl rfl rfl ?_ | (refine WL.step (aH (vs := [_, _, _]) (cs := [_, _, _]) (fun | [a0, a1, a2] => [a0, a1, a2] | _ => []) rfl rfl (by kernel_rfl)) rfl rfl rfl ?_))
 aa (refine Gg ?_; first | refine WL.pass rfl rfl rfl ?_ | refine Ld ?_)
 aa (first | refine WL.pass rfl rfl rfl ?_ | (refine WL.step (aH (vs := [_, _, _]) (cs := [_, _, _]) (fun | [a0, a1, a2] => [a0, a1, a2] | _ => []) rfl rfl (by kernel_rfl)) rfl rfl rfl ?_))
 aa (refine Gg ?_; first | refine WL.pass rfl rfl rfl ?_ | refine Ld ?_)
 aa (first | refine WL.pass rfl rfl rfl ?_ | (refine WL.step (aH (vs := [_, _, _]) (cs := [_, _, _]) (fun | [a0, a1, a2] => [a0, a1, a2] | _ => []) rfl rfl (by kernel_rfl)) rfl rfl rfl ?_))
 aa (refine Gg ?_; first | refine WL.pass rfl rfl rfl ?_ | refine Ld ?_)
 aa (first | refine WL.pass rfl rfl rfl ?_ | (refine WL.step (aH (vs := [_, _, _]) (cs := [_, _, _]) (fun | [a0, a1, a2] => [a0, a1, a2] | _ => []) rfl rfl (by kernel_rfl)) rfl rfl rfl ?_))
 aa (refine Gg ?_; first | refine WL.pass rfl rfl rfl ?_ | refine Ld ?_)
 aa (first | refine WL.pass rfl rfl rfl ?_ | (refine WL.step (aH (vs := [_, _, _]) (cs := [_, _, _]) (fun | [a0, a1, a2] => [a0, a1, a2] | _ => []) rfl rfl (by kernel_rfl)) rfl rfl rfl ?_))
 aa (
  first
    | (refine WL.pass rfl rfl rfl ?_)
    | (refine WL.al (aw (vs := [_, _, _, _, _, _]) (cs := [_, _, _, _, _, _, _, _, _, _, _, _, _, _, _, _, _, _]) (fun | [.agg ⟨[a0, a1, a2]⟩, .agg ⟨[a3, a4, a5]⟩, .agg ⟨[a6, a7, a8]⟩, .agg ⟨[a9, iy, Aw]⟩, .agg ⟨[a12, G5, G6]⟩, .agg ⟨[G7, JY, JZ]⟩] => [a0, a1, a2, a3, a4, a5, a6, a7, a8, a9, iy, Aw, a12, G5, G6, G7, JY, JZ] | _ => []) Tryz.underlying337 rfl rfl (by kernel_rfl)) rfl rfl rfl ?_
       rintro _ g2 ⟨b2, rfl, gI, bR, aK⟩))
 aa (
  first
    | (refine WL.pass rfl rfl rfl ?_)
    | (refine WL.call (vs := [_]) rfl Tryz.call234 rfl (Kj [⟨t, 0, 4294967295⟩, ⟨a, 0, 65535⟩, ⟨o, 0, 4294967295⟩, ⟨s, -32768, 32767⟩, ⟨m, -2147483648, 2147483647⟩, ⟨f, 0, 65535⟩] (bG bR rfl) (by simp [maxLen])) rfl rfl rfl ?_
       rintro _ g3 ⟨rfl, aS⟩))
 aa (refine Go ?_; refine Gs [(2, _)] ?_; refine Gt ?_)
 aa (
  first
   | (refine ⟨congrArg Value.bool ?_, (aB.trans aK).trans aS⟩
      simp [cI.okB, fU.okB, *]; done)
   | (refine ⟨congrArg Value.bool ?_, aB⟩
      simp [cI.okB, *]; done))
theorem yh {h : aj} (c : bz) : ai Tryz.prog 195 ⟨[.agg ⟨c.cells⟩]⟩ h fun u h' => u = .bool (decide c.okB) ∧ Ext No h h' := by
 obtain ⟨k, t⟩ := c
 dsimp only [bz.cells]
 refine calls [(0, _)] Tryz.func195 rfl Tryz.ntmps195 rfl ⟨rfl, trivial⟩ ?_
 refine WC.sr ?_; refine WL.al (aI rfl) rfl rfl rfl ?_
 rintro _ g1 ⟨b1, rfl, b0, aT, aB⟩
 refine Go ?_; refine G2 ?_; refine Ld ?_; refine Go ?_
 refine bU 6 (Hb.mk fun hb => ?_) (Hb.mk fun hb => ?_)
 aa (refine Gg ?_; first | refine WL.pass rfl rfl rfl ?_ | refine Ld ?_)
 aa (
  first
    | (refine WL.pass rfl rfl rfl ?_)
    | (refine WL.call (vs := [_]) rfl Tryz.call187 rfl (fI t) rfl rfl rfl ?_
       rintro _ hz ⟨rfl, _⟩
       subst hz))
 aa (refine Go ?_; refine Gs [(2, _)] ?_; refine Gt ?_; refine ⟨congrArg Value.bool ?_, aB⟩; simp [bz.okB, *])
theorem AX {h h0 : aj} (c : bj) (hk : c.ok h0) (hl : c.bytes.length ≤ 1048576) : ai Tryz.prog 197 ⟨[.agg ⟨c.cells⟩]⟩ h fun u h' => u = .bool (decide c.okB) ∧ Ext No h h' := by
 obtain ⟨nl, v, bs⟩ := c
 obtain ⟨A, cc, e, _⟩ := hk.1
 simp only at e hl
 subst e
 dsimp only [bj.cells]
 cases nl
 aa
   refine calls [(0, _)] Tryz.func197 rfl Tryz.ntmps197 rfl ⟨rfl, trivial⟩ ?_
   aa (refine WC.sr ?_; refine WL.al (aI rfl) rfl rfl rfl ?_; rintro _ g1 ⟨b1, rfl, b0, aT, aB⟩; refine Go ?_; refine G2 ?_; refine Ld ?_; refine Go ?_; refine bU 5 ?_ TT.mk; refine Gg ?_; first | refine WL.pass rfl rfl rfl ?_ | refine Ld ?_)
   aa (refine Gg ?_; refine Go ?_; first | refine bU 12 ?_ TT.mk | (refine bU 12 (Hb.mk fun hb => ?_) (Hb.mk fun hb => ?_)))
   aa (refine Gg ?_; first | refine WL.pass rfl rfl rfl ?_ | refine Ld ?_)
   aa (refine Gg ?_; refine Go ?_; refine Gs [(2, _)] ?_; refine Gt ?_)
   aa (
    refine ⟨congrArg Value.bool ?_, aB⟩
    first
     | exact (decide_eq_true (p := bj.okB _) ⟨fun z => (by show bs.length = 0; omega), hl⟩).symm
     | exact (decide_eq_true (p := bj.okB _) ⟨(fun z => by cases z), hl⟩).symm
     | exact (decide_eq_false (p := bj.okB _) (fun z => (by have : bs.length = 0 := z.1 rfl; omega))).symm
     | exact decide_eq_decide.2 ⟨fun z => ⟨fun z => (by show bs.length = 0; omega), hl⟩, fun z => (by omega)⟩
     | exact decide_eq_decide.2 ⟨fun z => ⟨(fun z => by cases z), hl⟩, fun z => (by omega)⟩)
def lV (n : Int) : Bool := decide (0 ≤ n) && decide (n ≤ 4294967295)
theorem qY {h : aj} (n : Int) : ai Tryz.prog 199 ⟨[In n]⟩ h fun u h' => u = .bool (lV n) ∧ h' = h := by
 unfold lV
 refine calls [(0, _)] Tryz.func199 rfl Tryz.ntmps199 rfl ⟨rfl, trivial⟩ ?_
 refine G2 ?_; refine G2 ?_
 refine bU 5 (Hb.mk fun hb => ?_) (Hb.mk fun hb => ?_)
 aa (refine Gg ?_; refine Go ?_; refine Gs [(2, _)] ?_; refine Gt ?_)
 aa (
  refine ⟨congrArg Value.bool ?_, rfl⟩
  by_cases q1 : 0 ≤ n
  aa by_cases q2 : n ≤ 4294967295
  aa first | (simp [q1, q2]; done) | (simp [q1, q2]; omega) | (exfalso; omega))
theorem vj {h : aj} {v : Value} (l : List Int) (hr : Rd h v 1 l.length (ints l)) (hl : l.length ≤ 65535) :
   ai Tryz.prog 198 ⟨[v, .func (.func 199) ⟨[]⟩ ⟨[]⟩]⟩ h fun u h' => u = .bool (l.all lV) ∧ Ext No h h' := by
 have hf : ∀ {h : aj} {b : Nat} {t : TypeId} (x : Int), x ∈ l → h[b]? = some (.cells ⟨[.func (.func 199) ⟨[]⟩ ⟨[]⟩]⟩ t (0, 0)) → ai Tryz.prog 238 ⟨[In x, .pointer (some ⟨b, 0, none⟩)]⟩ h fun u h' => u = .bool (!lV x) ∧ h' = h := by
   intro h b t x hx hb
   refine calls [(0, _), (1, _)] Tryz.func238 rfl Tryz.ntmps238 rfl ⟨rfl, rfl, trivial⟩ ?_
   refine G2 ?_; refine WC.sr ?_; refine Ld ?_; refine Go ?_; refine WL.fT (vs := [_]) rfl rfl Tryz.call199 rfl (qY x) rfl rfl rfl ?_
   rintro _ hz ⟨rfl, _⟩
   subst hz
   refine Go ?_; refine Gs [(3, _)] ?_; refine Gt ?_
   exact ⟨rfl, rfl⟩
 obtain ⟨A, c, rfl, _⟩ := id hr
 have ve : ∀ {h' : aj} {b : Nat} {t : TypeId}, Ext No h h' → h'[b]? = some (.cells ⟨[.func (.func 199) ⟨[]⟩ ⟨[]⟩]⟩ t (0, 0)) → ai Tryz.prog 182 ⟨[.slice A l.length c, .func (.func 238) ⟨[]⟩ ⟨[.pointer (some ⟨b, 0, none⟩)]⟩]⟩ h' fun u gg => u = .bool (l.any fun x => !lV x) ∧ gg = h' := by
   intro h' b t hx hb
   refine calls [(0, _), (1, _)] Tryz.func182 rfl Tryz.ntmps182 rfl ⟨rfl, rfl, trivial⟩ ?_
   refine G2 ?_; refine G2 ?_; refine WL.call (vs := [_, _]) rfl Tryz.call229 rfl (jR l (fun x => !lV x) Tryz.call238 (fs := []) (us := [.pointer (some ⟨b, 0, none⟩)]) (hr.av hx) (by unfold maxLen; omega) (fun x xW => hf x xW hb)) rfl rfl rfl ?_
   rintro _ hz ⟨rfl, _⟩
   subst hz
   refine WL.step (dH rfl rfl) rfl rfl rfl (Go ?_); refine Gs [(4, _)] ?_; refine Gt ?_
   exact ⟨by rw [ey], rfl⟩
 refine calls [(0, _), (1, _)] Tryz.func198 rfl Tryz.ntmps198 rfl ⟨rfl, rfl, trivial⟩ ?_
 refine WC.sr ?_; refine WL.al (aI rfl) rfl rfl rfl ?_
 rintro _ h1 ⟨b1, rfl, b0, aT, aB⟩
 refine Go ?_; refine G2 ?_
 refine bU 8 ?_ TT.mk
 refine Gg ?_; refine WL.step (fe (vs := []) (us := [_]) rfl rfl) rfl rfl rfl ?_; refine WL.call (vs := [_, _]) rfl Tryz.call182 rfl (ve aB aT) rfl rfl rfl ?_
 rintro _ hz ⟨rfl, _⟩
 subst hz
 refine Gg ?_; refine Go ?_; refine Gs [(4, _)] ?_; refine Gt ?_
 exact ⟨by rw [← lk], aB⟩
structure Bk.wf (b:Bk):Prop where
 kind:0≤b.kind∧b.kind≤255
 status:0≤b.status∧b.status≤255
 FX:∀ f∈b.fields,0≤f.k∧f.k≤255
theorem AY {h:aj} {v w:Value} (l m:List cI) (hr:Rd h v 7 l.length (l.flatMap cI.cells)) (hs:Rd h w 7 m.length (m.flatMap cI.cells)) (uP:l.length≤maxLen) (Df:m.length≤maxLen) :
   ai Tryz.prog 239 ⟨[v,w]⟩ h fun u h'=>u=.bool (decide (l=m))∧h'=h:=by
 obtain ⟨A,c,rfl,_⟩:=id hr
 obtain ⟨B,d,rfl,_⟩:=id hs
 unfold maxLen at uP Df
 refine calls [(0,_),(1,_)] Tryz.func239 rfl Tryz.ntmps239 rfl ⟨rfl,rfl,trivial⟩ ?_
 refine G2 ?_;refine G3 ?_;refine Gs [(0,_),(1,_),(10,_)] ?_
 refine aJ 1 2 (Hb.mk fun hb=>?_) (Hb.mk fun hb=>?_)
 aa try (
 refine ay 1 ?_
 refine G2 ?_;refine Gt ?_
 first
  | exact ⟨by rw [decide_eq_false (fun e=>by subst e;omega)],rfl⟩
  | exact ⟨by rw [decide_eq_false (fun e=>lW (by subst e;rw [hy] at hz;exact Option.some.inj hz))],rfl⟩
  | exact ⟨by rw [decide_eq_true (by rw [List.take_of_length_le (by omega),List.take_of_length_le (by omega)] at hn;exact hn)],rfl⟩
 skip)
 aa (refine ay 2 ?_)
 refine WC.skip ?_;refine Gn ?_;refine G3 ?_;refine WC.block ?_;refine WC.bO (X:=Nat) (fun x=>([(13,In (x:Int))]:Fr)) [(0,_),(1,_),(12,_)] (fun k h'=>h'=h∧k≤l.length∧l.length=m.length∧l.take k=m.take k) (fun k=>l.length - k) (0) ⟨rfl,rfl,rfl,rfl,trivial⟩ (by exact ⟨rfl,Nat.zero_le _,by omega,by simp⟩) ?_
 rintro k h9 ⟨hz,hk,lg,hn⟩
 subst h9
 refine WC.sub [(13,_),(0,_),(1,_),(12,_)] ⟨rfl,rfl,rfl,rfl,trivial⟩ ?_;refine G2 ?_;refine WC.seq ?_
 refine aJ 3 4 (Hb.mk fun hb=>?_) (Hb.mk fun hb=>?_)
 aa try (
 refine ay 3 ?_
 refine WC.skip ?_
 skip)
 aa try (
 refine ay 4 ?_
 refine WC.exit ?_
 repeat' (ae first | refine aZ ?_ | refine aF rfl ?_ | refine aL ?_ | refine aN ?_ | refine aV ?_)
 refine Br.out (i:=1000) ?_
 skip)
 aa (refine Gn ?_;first | refine Br.ad ?_ | refine WC.seq ?_)
 aa (first | refine Br.ad ?_ | refine WC.block ?_)
 aa (first | refine Br.ad ?_ | refine WC.sr ?_)
 aa (
  first
    | (refine Br.ad ?_)
    | (obtain ⟨bL,oL,hA,gx,cX⟩:=Rd.at_ hr (by omega)
       obtain ⟨bM,oM,hB,Nz,Ht⟩:=Rd.at_ hs (by omega)
       obtain ⟨y,hy⟩:∃ y,l[k]?=some y:=⟨_,List.getElem?_eq_getElem (by omega)⟩
       obtain ⟨z,hz⟩:∃ z,m[k]?=some z:=⟨_,List.getElem?_eq_getElem (by omega)⟩
       have wL:At h bL (oL+k * 7) (cI.cells y):=At.elem cI.len cX hy
       have FO:At h bM (oM+k * 7) (cI.cells z):=At.elem cI.len Ht hz
       by_cases lW:y=z))
 aa (first | refine Br.ad ?_ | refine WL.step (an rfl) rfl rfl rfl ?_)
 aa (refine Go ?_;first | refine Br.ad ?_ | refine WC.seq ?_)
 aa (first | refine Br.ad ?_ | (refine WC.gu dB (by kernel_rfl) ?_))
 aa (first | refine Br.ad ?_ | refine WQ.aM (an rfl) rfl rfl rfl ?_)
 aa (first | refine Br.ad ?_ | refine WQ.aM (an rfl) rfl rfl rfl ?_)
 aa (first | refine Br.ad ?_ | (refine WQ.aM (aG Tryz.underlying137 Tryz.sizeOf212 rfl rfl rfl (by omega) (by first | rfl | assumption)) rfl rfl rfl ?_))
 aa (first | refine Br.ad ?_ | (refine WQ.aM (aA Tryz.isAgg212 Tryz.sizeOf212 rfl rfl (by assumption)) rfl rfl rfl ?_))
 aa (first | refine Br.ad ?_ | refine WQ.aM (an rfl) rfl rfl rfl ?_)
 aa (first | refine Br.ad ?_ | refine WQ.aM (an rfl) rfl rfl rfl ?_)
 aa (first | refine Br.ad ?_ | (refine WQ.aM (aG Tryz.underlying137 Tryz.sizeOf212 rfl rfl rfl (by omega) (by first | rfl | assumption)) rfl rfl rfl ?_))
 aa (first | refine Br.ad ?_ | (refine WQ.aM (aA Tryz.isAgg212 Tryz.sizeOf212 rfl rfl (by assumption)) rfl rfl rfl ?_))
 aa (first | refine Br.ad ?_ | (first | (refine WQ.aM (bW.kM (congrArg (·.sQ) lW) (nn (us:=y.sQ) (vs:=z.sQ) ([.s,.i .i64,.i .i64,.i .i64,.i .i64,.i .i64,.i .i64]) (by kernel_rfl) rfl rfl rfl rfl)) rfl rfl rfl ?_) | (refine WQ.aM (bW.kL (fun e=>lW ((cI.inj _ _).1 e)) (nn (us:=y.sQ) (vs:=z.sQ) ([.s,.i .i64,.i .i64,.i .i64,.i .i64,.i .i64,.i .i64]) (by kernel_rfl) rfl rfl rfl rfl)) rfl rfl rfl ?_)))
 aa (first | refine Br.ad ?_ | refine WQ.nil ?_)
 aa (refine Gn ?_;first | refine Br.ad ?_ | refine Gs [(0,_),(1,_),(12,_),(13,_),(24,_)] ?_)
 aa (first | refine Br.ad ?_ | refine aJ 5 6 ?_ TT.mk)
 aa try (
 refine ay 5 ?_
 refine G2 ?_;refine Gs [(4,_)] ?_;refine Gt ?_
 first
  | exact ⟨by rw [decide_eq_false (fun e=>by subst e;omega)],rfl⟩
  | exact ⟨by rw [decide_eq_false (fun e=>lW (by subst e;rw [hy] at hz;exact Option.some.inj hz))],rfl⟩
  | exact ⟨by rw [decide_eq_true (by rw [List.take_of_length_le (by omega),List.take_of_length_le (by omega)] at hn;exact hn)],rfl⟩
 skip)
 aa try (
 refine ay 6 ?_
 refine WC.skip ?_
 skip)
 aa (refine Gn ?_;first | refine Br.ad ?_ | refine WC.region ?_)
 aa (refine Go ?_;first | refine Br.ad ?_ | (exact ⟨k+1,⟨rfl,rfl,rfl,rfl,trivial⟩,(by exact ⟨rfl,by omega,lg,by rw [List.take_add_one,List.take_add_one,hn,hy,hz,lW]⟩),(by omega)⟩))
 try (refine Br.mk (i:=1000) ?_)
 refine Gn ?_;refine Gs [] ?_;refine G2 ?_;refine Gt ?_
 first
  | exact ⟨by rw [decide_eq_false (fun e=>by subst e;omega)],rfl⟩
  | exact ⟨by rw [decide_eq_false (fun e=>lW (by subst e;rw [hy] at hz;exact Option.some.inj hz))],rfl⟩
  | exact ⟨by rw [decide_eq_true (by rw [List.take_of_length_le (by omega),List.take_of_length_le (by omega)] at hn;exact hn)],rfl⟩
theorem Ba {h:aj} {v w:Value} (l m:List bz) (hr:Rd h v 2 l.length (l.flatMap bz.cells)) (hs:Rd h w 2 m.length (m.flatMap bz.cells)) (uP:l.length≤maxLen) (Df:m.length≤maxLen) :
   ai Tryz.prog 240 ⟨[v,w]⟩ h fun u h'=>u=.bool (decide (l=m))∧h'=h:=by
 obtain ⟨A,c,rfl,_⟩:=id hr
 obtain ⟨B,d,rfl,_⟩:=id hs
 unfold maxLen at uP Df
 refine calls [(0,_),(1,_)] Tryz.func240 rfl Tryz.ntmps240 rfl ⟨rfl,rfl,trivial⟩ ?_
 refine G2 ?_;refine G3 ?_;refine Gs [(0,_),(1,_),(10,_)] ?_
 refine aJ 1 2 (Hb.mk fun hb=>?_) (Hb.mk fun hb=>?_)
 aa try (
 refine ay 1 ?_
 refine G2 ?_;refine Gt ?_
 first
  | exact ⟨by rw [decide_eq_false (fun e=>by subst e;omega)],rfl⟩
  | exact ⟨by rw [decide_eq_false (fun e=>lW (by subst e;rw [hy] at hz;exact Option.some.inj hz))],rfl⟩
  | exact ⟨by rw [decide_eq_true (by rw [List.take_of_length_le (by omega),List.take_of_length_le (by omega)] at hn;exact hn)],rfl⟩
 skip)
 aa (refine ay 2 ?_)
 refine WC.skip ?_;refine Gn ?_;refine G3 ?_;refine WC.block ?_;refine WC.bO (X:=Nat) (fun x=>([(13,In (x:Int))]:Fr)) [(0,_),(1,_),(12,_)] (fun k h'=>h'=h∧k≤l.length∧l.length=m.length∧l.take k=m.take k) (fun k=>l.length - k) (0) ⟨rfl,rfl,rfl,rfl,trivial⟩ (by exact ⟨rfl,Nat.zero_le _,by omega,by simp⟩) ?_
 rintro k h9 ⟨hz,hk,lg,hn⟩
 subst h9
 refine WC.sub [(13,_),(0,_),(1,_),(12,_)] ⟨rfl,rfl,rfl,rfl,trivial⟩ ?_;refine G2 ?_;refine WC.seq ?_
 refine aJ 3 4 (Hb.mk fun hb=>?_) (Hb.mk fun hb=>?_)
 aa try (
 refine ay 3 ?_
 refine WC.skip ?_
 skip)
 aa try (
 refine ay 4 ?_
 refine WC.exit ?_
 repeat' (ae first | refine aZ ?_ | refine aF rfl ?_ | refine aL ?_ | refine aN ?_ | refine aV ?_)
 refine Br.out (i:=1000) ?_
 skip)
 aa (refine Gn ?_;first | refine Br.ad ?_ | refine WC.seq ?_)
 aa (first | refine Br.ad ?_ | refine WC.block ?_)
 aa (first | refine Br.ad ?_ | refine WC.sr ?_)
 aa (
  first
    | (refine Br.ad ?_)
    | (obtain ⟨bL,oL,hA,gx,cX⟩:=Rd.at_ hr (by omega)
       obtain ⟨bM,oM,hB,Nz,Ht⟩:=Rd.at_ hs (by omega)
       obtain ⟨y,hy⟩:∃ y,l[k]?=some y:=⟨_,List.getElem?_eq_getElem (by omega)⟩
       obtain ⟨z,hz⟩:∃ z,m[k]?=some z:=⟨_,List.getElem?_eq_getElem (by omega)⟩
       have wL:At h bL (oL+k * 2) (bz.cells y):=At.elem bz.len cX hy
       have FO:At h bM (oM+k * 2) (bz.cells z):=At.elem bz.len Ht hz
       by_cases lW:y=z))
 aa (first | refine Br.ad ?_ | refine WL.step (an rfl) rfl rfl rfl ?_)
 aa (refine Go ?_;first | refine Br.ad ?_ | refine WC.seq ?_)
 aa (first | refine Br.ad ?_ | (refine WC.gu dB (by kernel_rfl) ?_))
 aa (first | refine Br.ad ?_ | refine WQ.aM (an rfl) rfl rfl rfl ?_)
 aa (first | refine Br.ad ?_ | refine WQ.aM (an rfl) rfl rfl rfl ?_)
 aa (first | refine Br.ad ?_ | (refine WQ.aM (aG Tryz.underlying138 Tryz.sizeOf194 rfl rfl rfl (by omega) (by first | rfl | assumption)) rfl rfl rfl ?_))
 aa (first | refine Br.ad ?_ | (refine WQ.aM (aA Tryz.isAgg194 Tryz.sizeOf194 rfl rfl (by assumption)) rfl rfl rfl ?_))
 aa (first | refine Br.ad ?_ | refine WQ.aM (an rfl) rfl rfl rfl ?_)
 aa (first | refine Br.ad ?_ | refine WQ.aM (an rfl) rfl rfl rfl ?_)
 aa (first | refine Br.ad ?_ | (refine WQ.aM (aG Tryz.underlying138 Tryz.sizeOf194 rfl rfl rfl (by omega) (by first | rfl | assumption)) rfl rfl rfl ?_))
 aa (first | refine Br.ad ?_ | (refine WQ.aM (aA Tryz.isAgg194 Tryz.sizeOf194 rfl rfl (by assumption)) rfl rfl rfl ?_))
 aa (first | refine Br.ad ?_ | (first | (refine WQ.aM (bW.kM (congrArg (·.sQ) lW) (nn (us:=y.sQ) (vs:=z.sQ) ([.i .u8,.s]) (by kernel_rfl) rfl rfl rfl rfl)) rfl rfl rfl ?_) | (refine WQ.aM (bW.kL (fun e=>lW ((bz.inj _ _).1 e)) (nn (us:=y.sQ) (vs:=z.sQ) ([.i .u8,.s]) (by kernel_rfl) rfl rfl rfl rfl)) rfl rfl rfl ?_)))
 aa (first | refine Br.ad ?_ | refine WQ.nil ?_)
 aa (refine Gn ?_;first | refine Br.ad ?_ | refine Gs [(0,_),(1,_),(12,_),(13,_),(24,_)] ?_)
 aa (first | refine Br.ad ?_ | refine aJ 5 6 ?_ TT.mk)
 aa try (
 refine ay 5 ?_
 refine G2 ?_;refine Gs [(4,_)] ?_;refine Gt ?_
 first
  | exact ⟨by rw [decide_eq_false (fun e=>by subst e;omega)],rfl⟩
  | exact ⟨by rw [decide_eq_false (fun e=>lW (by subst e;rw [hy] at hz;exact Option.some.inj hz))],rfl⟩
  | exact ⟨by rw [decide_eq_true (by rw [List.take_of_length_le (by omega),List.take_of_length_le (by omega)] at hn;exact hn)],rfl⟩
 skip)
 aa try (
 refine ay 6 ?_
 refine WC.skip ?_
 skip)
 aa (refine Gn ?_;first | refine Br.ad ?_ | refine WC.region ?_)
 aa (refine Go ?_;first | refine Br.ad ?_ | (exact ⟨k+1,⟨rfl,rfl,rfl,rfl,trivial⟩,(by exact ⟨rfl,by omega,lg,by rw [List.take_add_one,List.take_add_one,hn,hy,hz,lW]⟩),(by omega)⟩))
 try (refine Br.mk (i:=1000) ?_)
 refine Gn ?_;refine Gs [] ?_;refine G2 ?_;refine Gt ?_
 first
  | exact ⟨by rw [decide_eq_false (fun e=>by subst e;omega)],rfl⟩
  | exact ⟨by rw [decide_eq_false (fun e=>lW (by subst e;rw [hy] at hz;exact Option.some.inj hz))],rfl⟩
  | exact ⟨by rw [decide_eq_true (by rw [List.take_of_length_le (by omega),List.take_of_length_le (by omega)] at hn;exact hn)],rfl⟩
theorem Hu {h:aj} (a b:bj) (ha:a.ok h) (hb:b.ok h) :
   ai Tryz.prog 241 ⟨[.agg ⟨a.cells⟩,.agg ⟨b.cells⟩]⟩ h fun u h'=>u=.bool (decide (a.pl=b.pl))∧Ext No h h':=by
 obtain ⟨n1,v1,l1⟩:=a
 obtain ⟨n2,v2,l2⟩:=b
 obtain ⟨ha,_⟩:=ha
 obtain ⟨hb,_⟩:=hb
 simp only at ha hb
 obtain ⟨A,c,rfl,_⟩:=id ha
 obtain ⟨B,d,rfl,_⟩:=id hb
 dsimp only [bj.cells]
 cases n1
 aa cases n2
 aa
   refine calls [(0,_),(1,_)] Tryz.func241 rfl Tryz.ntmps241 rfl ⟨rfl,rfl,trivial⟩ ?_
   aa (refine WC.sr ?_;refine WL.al (aI rfl) rfl rfl rfl ?_;rintro _ h1 ⟨b1,rfl,b0,aT,aB⟩;refine WL.al (aI rfl) rfl rfl rfl ?_;rintro _ h2 ⟨b2,rfl,gI,bR,aK⟩;have sK:=aK.obj aT aQ;have hx:=aB.trans aK;refine Go ?_;refine G2 ?_;refine Ld ?_;refine Go ?_;refine Ld ?_;first | (refine WL.step (bW.fN (by rfl) (ng Tryz.underlying4 rfl rfl)) rfl rfl rfl ?_) | (refine WL.step (bW.fO (by decide) (ng Tryz.underlying4 rfl rfl)) rfl rfl rfl ?_))
   aa (refine Go ?_;refine bU 10 ?_ TT.mk;refine Gg ?_;first | refine WL.pass rfl rfl rfl ?_ | refine Ld ?_)
   aa (refine Gg ?_;first | refine WL.pass rfl rfl rfl ?_ | refine Ld ?_)
   aa (
    first
      | (refine WL.pass rfl rfl rfl ?_)
      | (refine WL.call (vs:=[_,_]) rfl Tryz.call12 rfl (mM l1 l2 (ha.av hx) (hb.av hx)) rfl rfl rfl ?_
         rintro _ hz ⟨rfl,_⟩
         subst hz))
   aa (refine Go ?_;refine Gs [(4,_)] ?_;refine Gt ?_;exact ⟨by simp [bj.pl],hx⟩)
theorem vk {h:aj} {v w:Value} (l m:List bj) (hl:cN h v l) (hm:cN h w m) :
   ai Tryz.prog 189 ⟨[v,w,.func (.func 241) ⟨[]⟩ ⟨[]⟩]⟩ h fun u h'=>u=.bool (decide (l.map bj.pl=m.map bj.pl))∧Ext No h h':=by
 obtain ⟨hr,⟨lg,A,c,rfl,_⟩,ho⟩:=hl
 obtain ⟨hs,⟨Df,B,d,rfl,_⟩,hp⟩:=hm
 unfold reachBytes at lg Df
 refine calls [(0,_),(1,_),(2,_)] Tryz.func189 rfl Tryz.ntmps189 rfl ⟨rfl,rfl,rfl,trivial⟩ ?_
 refine G2 ?_;refine G3 ?_;refine Gs [(0,_),(1,_),(2,_),(14,_)] ?_
 refine aJ 1 2 (Hb.mk fun hb=>?_) (Hb.mk fun hb=>?_)
 aa try (
 refine ay 1 ?_
 refine G2 ?_;refine Gs [(6,_)] ?_;refine Gt ?_
 first
  | exact ⟨by rw [decide_eq_false (fun e=>by have:=congrArg List.length e;simp only [List.length_map] at this;omega)],.refl _ _⟩
  | exact ⟨by rw [decide_eq_false (ix hy hz lW)],oV.trans aP⟩
  | exact ⟨by rw [decide_eq_true (by rw [List.take_of_length_le (by omega),List.take_of_length_le (by omega)] at hn;exact hn)],aB⟩
 skip)
 aa (refine ay 2 ?_)
 refine WC.skip ?_;refine Gn ?_;refine G3 ?_;refine WC.block ?_;refine WC.bO (X:=Nat) (fun x=>([(17,In (x:Int))]:Fr)) [(1,_),(2,_),(15,_),(16,_)] (fun k h'=>Ext No h h'∧k≤l.length∧l.length=m.length∧(l.take k).map bj.pl=(m.take k).map bj.pl) (fun k=>l.length - k) (0) ⟨rfl,rfl,rfl,rfl,rfl,trivial⟩ (by exact ⟨.refl _ _,Nat.zero_le _,by omega,by simp⟩) ?_
 rintro k h1 ⟨aB,hk,hlen,hn⟩
 refine WC.sub [(17,_),(1,_),(2,_),(15,_),(16,_)] ⟨rfl,rfl,rfl,rfl,rfl,trivial⟩ ?_;refine G2 ?_;refine WC.seq ?_
 refine aJ 3 4 (Hb.mk fun hb=>?_) (Hb.mk fun hb=>?_)
 aa try (
 refine ay 3 ?_
 refine WC.skip ?_
 skip)
 aa try (
 refine ay 4 ?_
 refine WC.exit ?_
 repeat' (ae first | refine aZ ?_ | refine aF rfl ?_ | refine aL ?_ | refine aN ?_ | refine aV ?_)
 refine Br.out (i:=1000) ?_
 skip)
 aa (refine Gn ?_;first | refine Br.ad ?_ | refine WC.seq ?_)
 aa (first | refine Br.ad ?_ | refine WC.block ?_)
 aa (first | refine Br.ad ?_ | refine WC.sr ?_)
 aa (
  first
    | (refine Br.ad ?_)
    | (obtain ⟨bL,oL,hA,gx,cX⟩:=Rd.at_ (hr.av aB) (by omega)
       obtain ⟨bM,oM,hB,Nz,Ht⟩:=Rd.at_ (hs.av aB) (by omega)
       obtain ⟨y,hy⟩:∃ y,l[k]?=some y:=⟨_,List.getElem?_eq_getElem (by omega)⟩
       obtain ⟨z,hz⟩:∃ y,m[k]?=some y:=⟨_,List.getElem?_eq_getElem (by omega)⟩
       have qZ:=ho y (List.mem_of_getElem? hy)
       have Kk:=hp z (List.mem_of_getElem? hz)
       have wL:At h1 bL (oL+k * 2) y.cells:=At.elem bj.len cX hy
       have FO:At h1 bM (oM+k * 2) z.cells:=At.elem bj.len Ht hz
       have Hv:∀ v∈y.cells,v.oneCell'=true:=by obtain ⟨A1,c1,e1,_⟩:=qZ.1;simp [bj.cells,Value.oneCell',e1]
       have D3:∀ v∈z.cells,v.oneCell'=true:=by obtain ⟨A1,c1,e1,_⟩:=Kk.1;simp [bj.cells,Value.oneCell',e1]))
 aa (first | refine Br.ad ?_ | refine WL.step (an rfl) rfl rfl rfl ?_)
 aa (first | refine Br.ad ?_ | (refine WL.step (aG Tryz.underlying40 Tryz.sizeOf85 rfl rfl rfl (by omega) (by first | rfl | assumption)) rfl rfl rfl ?_))
 aa (first | refine Br.ad ?_ | (refine WL.step (aA Tryz.isAgg85 Tryz.sizeOf85 rfl rfl (by assumption)) rfl rfl rfl ?_))
 aa (
  first
    | (refine Br.ad ?_)
    | (refine WL.al (au (fun w=>Tryz.zeroValue85 w)) rfl rfl rfl ?_
       rintro _ h2 ⟨b2,rfl,gI,bR,aK⟩))
 aa (refine Go ?_)
 aa (
  first
    | (refine Br.ad ?_)
    | (refine WL.az (aq Tryz.sizeOf85 rfl rfl rfl (by assumption) rfl Hv) rfl rfl ?_
       rintro _ h3 ⟨bC,aS⟩))
 aa (first | refine Br.ad ?_ | (have gV:Ext No h1 h3:=aK.trans' aS (fun q hq e=>by omega)))
 aa (refine Gn ?_;first | refine Br.ad ?_ | refine Gs [(1,_),(2,_),(7,_),(8,_),(15,_),(16,_),(17,_)] ?_)
 aa (first | refine Br.ad ?_ | refine WC.sr ?_)
 aa (refine Go ?_;first | refine Br.ad ?_ | (refine WL.step (aG Tryz.underlying40 Tryz.sizeOf85 rfl rfl rfl (by omega) (by first | rfl | assumption)) rfl rfl rfl ?_))
 aa (first | refine Br.ad ?_ | (refine WL.step (aA Tryz.isAgg85 Tryz.sizeOf85 rfl rfl (by exact FO.ext gV aQ)) rfl rfl rfl ?_))
 aa (
  first
    | (refine Br.ad ?_)
    | (refine WL.al (au (fun w=>Tryz.zeroValue85 w)) rfl rfl rfl ?_
       rintro _ h4 ⟨b4,rfl,pH,bN,bh⟩))
 aa (
  first
    | (refine Br.ad ?_)
    | (refine WL.az (aq Tryz.sizeOf85 rfl rfl rfl (by assumption) rfl D3) rfl rfl ?_
       rintro _ h5 ⟨cd,aO⟩))
 aa (
  first
    | (refine Br.ad ?_)
    | (have Bb:Ext No h3 h5:=bh.trans' aO (fun q hq e=>by omega)
       have vm:=Bb.obj bC aQ
       have oV:=aB.trans (gV.trans Bb)))
 aa (refine Gn ?_;first | refine Br.ad ?_ | refine Gs [(1,_),(2,_),(8,_),(9,_),(15,_),(16,_),(17,_)] ?_)
 aa (first | refine Br.ad ?_ | refine WC.sr ?_)
 aa (refine Go ?_;first | refine Br.ad ?_ | (refine WL.step (aA Tryz.isAgg85 Tryz.sizeOf85 rfl rfl (by exact At.ax vm)) rfl rfl rfl ?_))
 aa (first | refine Br.ad ?_ | (refine WL.step (aA Tryz.isAgg85 Tryz.sizeOf85 rfl rfl (by exact At.ax cd)) rfl rfl rfl ?_))
 aa (
  first
    | (refine Br.ad ?_)
    | (refine WL.fT (vs:=[_,_]) rfl rfl Tryz.call241 rfl (Hu y z (qZ.av oV) (Kk.av oV)) rfl rfl rfl ?_
       rintro _ h6 ⟨rfl,aP⟩))
 aa (
  first
    | (refine Br.ad ?_)
    | (by_cases lW:y.pl=z.pl
       aa first | rw [decide_eq_true lW] | rw [decide_eq_false lW]))
 aa (refine Go ?_;first | refine Br.ad ?_ | refine Gs [(1,_),(2,_),(15,_),(16,_),(17,_),(30,_)] ?_)
 aa (first | refine Br.ad ?_ | refine aJ 5 6 ?_ TT.mk)
 aa try (
 refine ay 5 ?_
 refine G2 ?_;refine Gs [(6,_)] ?_;refine Gt ?_
 first
  | exact ⟨by rw [decide_eq_false (fun e=>by have:=congrArg List.length e;simp only [List.length_map] at this;omega)],.refl _ _⟩
  | exact ⟨by rw [decide_eq_false (ix hy hz lW)],oV.trans aP⟩
  | exact ⟨by rw [decide_eq_true (by rw [List.take_of_length_le (by omega),List.take_of_length_le (by omega)] at hn;exact hn)],aB⟩
 skip)
 aa try (
 refine ay 6 ?_
 refine WC.skip ?_
 skip)
 aa (refine Gn ?_;first | refine Br.ad ?_ | refine WC.region ?_)
 aa (refine Go ?_;first | refine Br.ad ?_ | (exact ⟨k+1,⟨rfl,rfl,rfl,rfl,rfl,trivial⟩,(by exact ⟨oV.trans aP,by omega,hlen,map_take hn hy hz lW⟩),(by omega)⟩))
 try (refine Br.mk (i:=1000) ?_)
 refine Gn ?_;refine Gs [] ?_;refine G2 ?_;refine Gt ?_
 first
  | exact ⟨by rw [decide_eq_false (fun e=>by have:=congrArg List.length e;simp only [List.length_map] at this;omega)],.refl _ _⟩
  | exact ⟨by rw [decide_eq_false (ix hy hz lW)],oV.trans aP⟩
  | exact ⟨by rw [decide_eq_true (by rw [List.take_of_length_le (by omega),List.take_of_length_le (by omega)] at hn;exact hn)],aB⟩
theorem _root_.Go.RK.ai.dec {P:Program} {k:FuncId} {args:Array Value} {h:aj} {p:Prop} [Decidable p] {K:aj→Prop} (hc:ai P k args h fun u h'=>u=.bool (decide p)∧K h') :
   ai P k args h fun u h'=>((u=.bool true∧p)∨(u=.bool false∧¬p))∧K h':=hc.mono fun v h' q=>by
 by_cases e:p
 · exact ⟨.inl ⟨by rw [q.1,decide_eq_true e],e⟩,q.2⟩
 · exact ⟨.inr ⟨by rw [q.1,decide_eq_false e],e⟩,q.2⟩
theorem _root_.Go.RK.ai.bl {P:Program} {k:FuncId} {args:Array Value} {h:aj} {b:Bool} {K:aj→Prop} (hc:ai P k args h fun u h'=>u=.bool b∧K h') :
   ai P k args h fun u h'=>((u=.bool true∧b=true)∨(u=.bool false∧b=false))∧K h':=hc.mono fun v h' q=>by
 cases b
 · exact ⟨.inr ⟨q.1,rfl⟩,q.2⟩
 · exact ⟨.inl ⟨q.1,rfl⟩,q.2⟩
theorem vn {h:aj} (a b:Bk) (ha:a.ok h) (hb:b.ok h) :
   ai Tryz.prog 201 ⟨[.agg ⟨a.cells⟩,.agg ⟨b.cells⟩]⟩ h fun u h'=>(∃ x,u=.bool x∧(x=true ↔ a.pl=b.pl))∧Ext No h h':=by
 obtain ⟨k1,s1,t1,n1,v1,x1,y1,PN,l1,Ut,c1,Uu,r1,PO,f1⟩:=a
 obtain ⟨k2,s2,t2,n2,v2,x2,y2,PQ,l2,Uv,c2,Uw,r2,PR,f2⟩:=b
 obtain ⟨⟨ao,j0⟩,⟨ac,PS⟩,ar,af,NA⟩:=ha
 obtain ⟨⟨bo,FV⟩,⟨bc,PU⟩,br,bf,Kl⟩:=hb
 simp only at ao ac ar af bo bc br bf j0 PS NA FV PU Kl
 obtain ⟨Ao,co,rfl,_⟩:=id ao
 obtain ⟨Bo,PV,rfl,_⟩:=id bo
 dsimp only [Bk.cells]
 have NB:(k1=k2∧s1=s2∧x1=x2∧y1=y2)∨k1 ≠ k2∨(k1=k2∧s1 ≠ s2)∨(k1=k2∧s1=s2∧x1 ≠ x2)∨(k1=k2∧s1=s2∧x1=x2∧y1 ≠ y2):=by omega
 by_cases ht:t1=t2∧n1=n2∧v1=v2
 aa try obtain ⟨rfl,rfl,rfl⟩:=ht
 aa rcases NB with ⟨rfl,rfl,rfl,rfl⟩ | q | ⟨rfl,q⟩ | ⟨rfl,rfl,q⟩ | ⟨rfl,rfl,rfl,q⟩
 aa
   refine calls [(0,_),(1,_)] Tryz.func201 rfl Tryz.ntmps201 rfl ⟨rfl,rfl,trivial⟩ ?_
   aa (refine WC.sr ?_;refine WL.al (aI rfl) rfl rfl rfl ?_;rintro _ h1 ⟨b1,rfl,b0,aT,aB⟩;refine WL.al (aI rfl) rfl rfl rfl ?_;rintro _ h2 ⟨b2,rfl,gI,bR,aK⟩;have sK:=aK.obj aT aQ;have hx:=aB.trans aK;refine Go ?_;refine G2 ?_;refine Ld ?_;refine Go ?_;refine Ld ?_;refine Go ?_;refine Ld ?_;refine WL.step (aH (vs:=[_,_,_]) (cs:=[_,_,_]) (fun | [a0,a1,a2]=>[a0,a1,a2] | _=>[]) rfl rfl (by kernel_rfl)) rfl rfl rfl (Go ?_);refine Ld ?_;refine Go ?_;refine Ld ?_;refine Go ?_;refine Ld ?_;refine WL.step (aH (vs:=[_,_,_]) (cs:=[_,_,_]) (fun | [a0,a1,a2]=>[a0,a1,a2] | _=>[]) rfl rfl (by kernel_rfl)) rfl rfl rfl ?_;first | (refine WL.step (bW.fN rfl (qO (us:=[t1,n1,v1]) (vs:=[t1,n1,v1]) Tryz.underlying251 (show Tryz.prog.info? 9=some Tryz.t9 by kernel_rfl) Tryz.underlying9 (by kernel_rfl) (by kernel_rfl) (by kernel_rfl) rfl rfl rfl rfl)) rfl rfl rfl ?_) | (refine WL.step (bW.fO (fun e=>ht (by simpa using e)) (qO (us:=[t1,n1,v1]) (vs:=[t2,n2,v2]) Tryz.underlying251 (show Tryz.prog.info? 9=some Tryz.t9 by kernel_rfl) Tryz.underlying9 (by kernel_rfl) (by kernel_rfl) (by kernel_rfl) rfl rfl rfl rfl)) rfl rfl rfl ?_))
   aa (refine Go ?_;refine Gs [(2,_),(3,_),(5,_)] ?_;refine G2 ?_;refine Ld ?_;refine Go ?_;refine Ld ?_;refine Go ?_;refine bU 28 ?_ TT.mk;refine Gg ?_;first | refine WL.pass rfl rfl rfl ?_ | refine Ld ?_)
   aa (refine Gg ?_;first | refine WL.pass rfl rfl rfl ?_ | refine Ld ?_)
   aa (refine Gg ?_;refine Go ?_;refine bU 35 ?_ TT.mk;refine Gg ?_;first | refine WL.pass rfl rfl rfl ?_ | refine Ld ?_)
   aa (refine Gg ?_;first | refine WL.pass rfl rfl rfl ?_ | refine Ld ?_)
   aa (refine Gg ?_;refine Go ?_;refine bU 42 ?_ TT.mk;refine Gg ?_;first | refine WL.pass rfl rfl rfl ?_ | refine Ld ?_)
   aa (refine Gg ?_;first | refine WL.pass rfl rfl rfl ?_ | refine Ld ?_)
   aa (refine Gg ?_;refine Go ?_;refine Gs [(2,_),(3,_),(5,_),(6,_)] ?_;refine G2 ?_;refine Ld ?_;refine Go ?_;refine Ld ?_;refine WL.call (vs:=[_,_]) rfl Tryz.call188 rfl ((ju l1 l2 (ao.av hx) (bo.av hx) j0).dec) rfl rfl rfl ?_;rintro _ _ ⟨⟨rfl,ho⟩ | ⟨rfl,ho⟩,rfl⟩)
   aa (refine Go ?_;refine bU 54 ?_ TT.mk;refine Gg ?_;first | refine WL.pass rfl rfl rfl ?_ | refine Ld ?_)
   aa (refine Gg ?_;first | refine WL.pass rfl rfl rfl ?_ | refine Ld ?_)
   aa (
    first
      | (refine WL.pass rfl rfl rfl ?_)
      | (refine WL.call (vs:=[_,_]) rfl Tryz.call239 rfl ((AY c1 c2 (ac.av hx) (bc.av hx) PS PU).dec) rfl rfl rfl ?_
         rintro _ _ ⟨⟨rfl,hc⟩ | ⟨rfl,hc⟩,rfl⟩))
   aa (refine Go ?_;refine bU 61 ?_ TT.mk;refine Gg ?_;first | refine WL.pass rfl rfl rfl ?_ | refine Ld ?_)
   aa (refine Gg ?_;first | refine WL.pass rfl rfl rfl ?_ | refine Ld ?_)
   aa (
    first
      | (refine WL.pass rfl rfl rfl ?_)
      | (refine WL.call (vs:=[_,_]) rfl Tryz.call240 rfl ((Ba f1 f2 (af.av hx) (bf.av hx) NA Kl).dec) rfl rfl rfl ?_
         rintro _ _ ⟨⟨rfl,hf⟩ | ⟨rfl,hf⟩,rfl⟩))
   aa (refine Go ?_;refine Gs [(2,_),(3,_),(5,_),(6,_),(7,_)] ?_;refine G2 ?_;refine bU 69 ?_ TT.mk;refine Gg ?_;refine Go ?_;refine bU 72 ?_ TT.mk;refine Gg ?_;refine Go ?_;refine bU 75 ?_ TT.mk;refine Gg ?_;first | refine WL.pass rfl rfl rfl ?_ | refine Ld ?_)
   aa (refine Gg ?_;first | refine WL.pass rfl rfl rfl ?_ | refine Ld ?_)
   aa (
    first
      | (refine WL.pass rfl rfl rfl ?_)
      | (refine WL.call (vs:=[_,_,_]) rfl Tryz.call189 rfl (vk _ _ (ar.av hx) (br.av hx)) rfl rfl rfl ?_
         rintro _ h3 ⟨rfl,aS⟩))
   aa (refine Go ?_;refine Gs [(4,_)] ?_;refine Gt ?_)
   aa (
    first
     | (refine ⟨⟨false,rfl,⟨fun z=>(by cases z),fun z=>?_⟩⟩,hx⟩
        exfalso
        simp only [Bk.pl,Prod.mk.injEq] at z
        obtain ⟨z1,z2,z3,z4,z5,z6,z7,z8,z9,Ux,RM⟩:=z
        first | exact ht ⟨z3,z4,z5⟩ | exact q z1 | exact q z2 | exact q z6 | exact q z7 | exact ho z8 | exact hc z9 | exact hf RM)
     | (refine ⟨⟨_,rfl,?_⟩,hx.trans aS⟩
        simp [Bk.pl,ho,hc,hf]))
def lX (k : Int) : Prop := k = 82 ∨ k = 83 ∨ k = 75 ∨ k = 90 ∨ k = 49 ∨ k = 50 ∨ k = 51 ∨ k = 110 ∨ k = 115 ∨ k = 73 ∨ k = 67 ∨ k = 68 ∨ k = 84 ∨ k = 116 ∨ k = 69 ∨ k = 78
theorem pK (k : UInt8) : qP.contains k = true ↔ lX (k.toNat : Int) := by
 simp only [qP, List.contains_cons, List.contains_nil, Bool.or_eq_true, beq_iff_eq, ← UInt8.toNat_inj, lX, Bool.or_false]
 simp
 omega
theorem yi {h : aj} (k : Int) (h0 : 0 ≤ k ∧ k ≤ 255) : ai Tryz.prog 191 ⟨[.int .u8 k]⟩ h fun u h' => (∃ x, u = .bool x ∧ (x = true ↔ lX k)) ∧ Ext No h h' := by
 obtain ⟨c, rfl⟩ : ∃ c : UInt8, k = (c.toNat : Int) := ⟨UInt8.ofNat k.toNat, by rw [UInt8.toNat_ofNat']; omega⟩
 have e1 := Lib.contains_iff_indexByte [82, 83, 75, 90, 49, 50, 51, 110, 115, 73, 67, 68, 84, 116, 69, 78] c
 refine calls [(0, _)] Tryz.func191 rfl Tryz.ntmps191 rfl ⟨rfl, trivial⟩ ?_
 refine G2 ?_; refine WC.sr ?_; refine WL.al (aw (vs := [_, _, _, _, _, _, _, _, _, _, _, _, _, _, _, _]) (cs := [_, _, _, _, _, _, _, _, _, _, _, _, _, _, _, _]) (fun | [a0, a1, a2, a3, a4, a5, a6, a7, a8, a9, iy, Aw, a12, G5, G6, G7] => [a0, a1, a2, a3, a4, a5, a6, a7, a8, a9, iy, Aw, a12, G5, G6, G7] | _ => []) Tryz.underlying23 rfl rfl (by kernel_rfl)) rfl rfl rfl ?_
 rintro _ h1 ⟨b1, rfl, b0, aT, aB⟩
 refine WL.al (iv Tryz.underlying23 Tryz.underlying5 rfl (by assumption)) rfl rfl rfl ?_
 rintro _ h2 ⟨rfl, ⟨z2, bR⟩, aK⟩
 refine Go ?_; refine WL.call (vs := [_, _]) rfl Tryz.call126 rfl (dM [82, 83, 75, 90, 49, 50, 51, 110, 115, 73, 67, 68, 84, 116, 69, 78] c (bG bR rfl) (by simp)) rfl rfl rfl ?_
 rintro _ hz ⟨rfl, _⟩
 subst hz
 refine WL.step (dH rfl rfl) rfl rfl rfl (Go ?_); refine Gs [(2, _)] ?_; refine Gt ?_
 exact ⟨⟨_, rfl, by rw [← e1]; exact pK c⟩, aB.trans' aK (fun q hq e => by omega)⟩
theorem re {h : aj} (s : List UInt8) (hm : s.length ≤ 1000000) : ai Tryz.prog 104 ⟨[St s]⟩ h fun u h' => u = .bool (bn s) ∧ h' = h := by
 have DQ : bn s = true ↔ ∀ c ∈ s, c ≠ 0 := by
   unfold bn
   rw [Bool.not_eq_true', ← Bool.not_eq_true, List.contains_iff_mem]
   exact ⟨fun z c hc e => z (e ▸ hc), fun z hc => z 0 hc rfl⟩
 refine calls [(0, _)] Tryz.func104 rfl Tryz.ntmps104 rfl ⟨rfl, trivial⟩ ?_
 refine G2 ?_; refine G3 ?_; refine WC.block ?_; refine WC.bO (X := Nat) (fun x => ([(3, In (x : Int))] : Fr)) [(0, _)] (fun k h' => h = h' ∧ k ≤ s.length ∧ ∀ c ∈ s.take k, c ≠ 0) (fun k => s.length - k) (0) ⟨rfl, rfl, trivial⟩ (by exact ⟨rfl, Nat.zero_le _, fun c hc => by cases hc⟩) ?_
 rintro k h2 ⟨e, hk, hn⟩
 subst e
 refine WC.sub [(3, _), (0, _)] ⟨rfl, rfl, trivial⟩ ?_; refine G3 ?_
 refine aJ 1 2 (Hb.mk fun hb => ?_) (Hb.mk fun hb => ?_)
 aa try (
 refine ay 1 ?_
 refine WC.skip ?_
 skip)
 aa try (
 refine ay 2 ?_
 refine WC.exit ?_
 repeat' (ae first | refine aZ ?_ | refine aF rfl ?_ | refine aL ?_ | refine aN ?_ | refine aV ?_)
 refine Br.out (i := 1000) ?_
 skip)
 aa (refine Gn ?_; first | refine Br.ad ?_ | refine Gs [(0, _), (3, _)] ?_)
 aa (first | refine Br.ad ?_ | refine WC.seq ?_)
 aa (first | refine Br.ad ?_ | refine WC.block ?_)
 aa (first | refine Br.ad ?_ | refine WC.seq ?_)
 aa (first | refine Br.ad ?_ | (obtain ⟨y, hy⟩ : ∃ y, s[k]? = some y := ⟨_, List.getElem?_eq_getElem (by omega)⟩))
 aa (first | refine Br.ad ?_ | refine WC.region ?_)
 aa (refine Go ?_; first | refine Br.ad ?_ | (refine WL.step (da Tryz.underlying9 rfl rfl (by omega) (by assumption)) rfl rfl rfl ?_))
 aa (refine Go ?_; first | refine Br.ad ?_ | (refine aJ 3 4 (Hb.mk fun hb => ?_) (Hb.mk fun hb => ?_)))
 aa try (
 refine ay 3 ?_
 refine G2 ?_; refine Gs [(2, _)] ?_; refine Gt ?_
 first
  | (refine ⟨congrArg Value.bool ?_, rfl⟩; symm; rw [DQ]; rw [List.take_of_length_le (by omega)] at hn; exact hn)
  | (refine ⟨congrArg Value.bool ?_, rfl⟩; cases hq : bn s; rfl; exact absurd (UInt8.toNat_inj.1 (by simpa using hb)) (DQ.1 hq _ (List.mem_of_getElem? hy)))
 skip)
 aa try (
 refine ay 4 ?_
 refine WC.skip ?_
 skip)
 aa (refine Gn ?_; first | refine Br.ad ?_ | refine Gs [(0, _), (3, _)] ?_)
 aa (first | refine Br.ad ?_ | refine WC.region ?_)
 aa (refine Go ?_; first | refine Br.ad ?_ | (exact ⟨k + 1, ⟨rfl, rfl, trivial⟩, (by exact ⟨rfl, by omega, fun c hc => by rw [List.take_add_one, hy] at hc; simp only [Option.toList_some, List.mem_append, List.mem_singleton] at hc; rcases hc with hc | rfl; exact hn c hc; exact (fun e => by subst e; simp at *)⟩), (by omega)⟩))
 try (refine Br.mk (i := 1000) ?_)
 refine Gn ?_; refine Gs [] ?_; refine G2 ?_; refine Gt ?_
 first
  | (refine ⟨congrArg Value.bool ?_, rfl⟩; symm; rw [DQ]; rw [List.take_of_length_le (by omega)] at hn; exact hn)
  | (refine ⟨congrArg Value.bool ?_, rfl⟩; cases hq : bn s; rfl; exact absurd (UInt8.toNat_inj.1 (by simpa using hb)) (DQ.1 hq _ (List.mem_of_getElem? hy)))
theorem tr {α : Type} {p : α → Prop} {l : List α} {k : Nat} {y : α} (hy : l[k]? = some y) (hn : ∀ c ∈ l.take k, p c) (hp : p y) : ∀ c ∈ l.take (k + 1), p c := fun c hc => by
 rw [List.take_add_one, hy] at hc
 simp only [Option.toList_some, List.mem_append, List.mem_singleton] at hc
 rcases hc with hc | rfl
 · exact hn c hc
 · exact hp
theorem Bc {h : aj} {v : Value} (l : List bj) (hl : cN h v l) (hm : l.length ≤ 65535) (ht : ∀ c ∈ l, c.bytes.length ≤ 1048576) :
   ai Tryz.prog 109 ⟨[v]⟩ h fun u h' => u = .bool (decide (∀ c ∈ l, c.okB)) ∧ h' = h := by
 obtain ⟨hr, ⟨_, A, c, rfl, _⟩, ho⟩ := hl
 refine calls [(0, _)] Tryz.func109 rfl Tryz.ntmps109 rfl ⟨rfl, trivial⟩ ?_
 refine G2 ?_; refine G3 ?_
 refine aJ 1 2 ?_ TT.mk
 aa (refine ay 2 ?_)
 refine WC.skip ?_; refine Gn ?_; refine Gs [(0, _)] ?_; refine G3 ?_; refine WC.block ?_; refine WC.bO (X := Nat) (fun x => ([(3, In (x : Int))] : Fr)) [(0, _)] (fun k h' => h' = h ∧ k ≤ l.length ∧ ∀ c ∈ l.take k, c.okB) (fun k => l.length - k) (0) ⟨rfl, rfl, trivial⟩ (by exact ⟨rfl, Nat.zero_le _, by simp⟩) ?_
 rintro k h1 ⟨hz, hk, hn⟩
 subst h1
 refine WC.sub [(3, _), (0, _)] ⟨rfl, rfl, trivial⟩ ?_; refine G3 ?_
 refine aJ 3 4 (Hb.mk fun hb => ?_) (Hb.mk fun hb => ?_)
 aa try (
 refine ay 3 ?_
 refine WC.skip ?_
 skip)
 aa try (
 refine ay 4 ?_
 refine WC.exit ?_
 repeat' (ae first | refine aZ ?_ | refine aF rfl ?_ | refine aL ?_ | refine aN ?_ | refine aV ?_)
 refine Br.out (i := 1000) ?_
 skip)
 aa (refine Gn ?_; first | refine Br.ad ?_ | refine Gs [(0, _), (3, _)] ?_)
 aa (first | refine Br.ad ?_ | refine WC.seq ?_)
 aa (first | refine Br.ad ?_ | refine WC.block ?_)
 aa (first | refine Br.ad ?_ | refine WC.sr ?_)
 aa (
  first
    | (refine Br.ad ?_)
    | (obtain ⟨bL, oL, hA, gx, cX⟩ := Rd.at_ hr (by omega)
       obtain ⟨y, hy⟩ : ∃ y, l[k]? = some y := ⟨_, List.getElem?_eq_getElem (by omega)⟩
       have FT := ht y (List.mem_of_getElem? hy)
       have qZ := (ho y (List.mem_of_getElem? hy)).1
       have wL : At h bL (oL + k * 2) y.cells := At.elem bj.len cX hy
       obtain ⟨yn, yv, yb⟩ := y
       dsimp only [bj.cells] at wL FT qZ
       obtain ⟨yA, yc, rfl, _⟩ := id qZ
       cases yn
       aa by_cases c2 : yb.length = 0))
 aa (first | refine Br.ad ?_ | refine WL.step (an rfl) rfl rfl rfl ?_)
 aa (refine Go ?_; first | refine Br.ad ?_ | (refine WL.step (aG Tryz.underlying40 Tryz.sizeOf85 rfl rfl rfl (by omega) (by first | rfl | assumption)) rfl rfl rfl ?_))
 aa (refine Go ?_; first | refine Br.ad ?_ | (refine WL.ld rfl (by first | exact wL.get 0 rfl rfl | assumption) rfl rfl rfl ?_))
 aa (refine Go ?_; first | refine Br.ad ?_ | refine bU 18 ?_ TT.mk)
 aa (refine Gg ?_; first | refine Br.ad ?_ | (first | (refine WL.pass rfl rfl rfl ?_) | (refine WL.step (aG Tryz.underlying40 Tryz.sizeOf85 rfl rfl rfl (by omega) (by first | rfl | assumption)) rfl rfl rfl ?_)))
 aa (refine Gg ?_; first | refine Br.ad ?_ | (first | (refine WL.pass rfl rfl rfl ?_) | (refine WL.ld rfl (by first | exact wL.get 1 rfl rfl | assumption) rfl rfl rfl ?_)))
 aa (refine Gg ?_; refine Go ?_; first | refine Br.ad ?_ | refine bU 27 ?_ TT.mk)
 aa (refine Gg ?_; first | refine Br.ad ?_ | (first | (refine WL.pass rfl rfl rfl ?_) | (refine WL.step (aG Tryz.underlying40 Tryz.sizeOf85 rfl rfl rfl (by omega) (by first | rfl | assumption)) rfl rfl rfl ?_)))
 aa (refine Gg ?_; first | refine Br.ad ?_ | (first | (refine WL.pass rfl rfl rfl ?_) | (refine WL.ld rfl (by first | exact wL.get 1 rfl rfl | assumption) rfl rfl rfl ?_)))
 aa (refine Gg ?_; refine Go ?_; first | refine Br.ad ?_ | refine Gs [(0, _), (3, _), (35, _)] ?_)
 aa (first | refine Br.ad ?_ | refine aJ 5 6 ?_ TT.mk)
 aa try (
 refine ay 5 ?_
 refine G2 ?_; refine Gt ?_
 first
  | exact ⟨congrArg Value.bool (decide_eq_true (by rw [List.take_of_length_le (by omega)] at hn; exact hn)).symm, rfl⟩
  | (refine ⟨congrArg Value.bool (decide_eq_false (fun z => ?_)).symm, rfl⟩
     obtain ⟨d1, d2⟩ := z _ (List.mem_of_getElem? hy)
     first | exact c2 (d1 rfl) | (exfalso; omega))
 skip)
 aa try (
 refine ay 6 ?_
 aa (refine WC.skip ?_)
 skip)
 aa (refine Gn ?_; first | refine Br.ad ?_ | refine WC.region ?_)
 aa (refine Go ?_; first | refine Br.ad ?_ | (exact ⟨k + 1, ⟨rfl, rfl, trivial⟩, (by exact ⟨rfl, by omega, tr hy hn ⟨(fun z => by first | exact c2 | cases z), FT⟩⟩), (by omega)⟩))
 try (refine Br.mk (i := 1000) ?_)
 refine Gn ?_; refine Gs [] ?_; refine G2 ?_; refine Gt ?_
 first
  | exact ⟨congrArg Value.bool (decide_eq_true (by rw [List.take_of_length_le (by omega)] at hn; exact hn)).symm, rfl⟩
  | (refine ⟨congrArg Value.bool (decide_eq_false (fun z => ?_)).symm, rfl⟩
     obtain ⟨d1, d2⟩ := z _ (List.mem_of_getElem? hy)
     first | exact c2 (d1 rfl) | (exfalso; omega))
structure Bk.Km (b:Bk):Prop where
 aU:b.aU.length≤100
 dt:b.dt.length≤100
 row:b.row.length≤100
 fields:b.fields.length≤100
 names:∀ c∈b.dt,c.nm.length≤1000
 cells:∀ c∈b.row,c.bytes.length≤1000
 texts:∀ f∈b.fields,f.t.length≤200000
 tag:b.tag.length≤1000
 name:b.name.length≤1000
 value:b.value.length≤1000
instance (b:Bk):Decidable b.mW:=by unfold Bk.mW;exact inferInstance
theorem Bd (k st:Int):k ≠ 90∨(k=90∧st=73)∨(k=90∧st=84)∨(k=90∧st=69)∨(k=90∧st ≠ 73∧st ≠ 84∧st ≠ 69):=by omega
theorem vq {h:aj} (b:Bk):ai Tryz.prog 200 ⟨[.agg ⟨b.cells⟩]⟩ h fun u h'=>u=.bool (decide b.mW)∧Ext No h h':=by
 obtain ⟨k,st,t,n,v,x,y,vo,lo,vc,lc,vr,lr,vf,lf⟩:=b
 dsimp only [Bk.cells]
 rcases Bd k st with q | ⟨q,q1⟩ | ⟨q,q1⟩ | ⟨q,q1⟩ | ⟨q,q1,q2,q3⟩
 aa
   refine calls [(0,_)] Tryz.func200 rfl Tryz.ntmps200 rfl ⟨rfl,trivial⟩ ?_
   aa (refine WC.sr ?_;refine WL.al (aI rfl) rfl rfl rfl ?_;rintro _ h1 ⟨b1,rfl,b0,aT,aB⟩;refine Go ?_;refine G2 ?_;refine Ld ?_;refine Go ?_;refine bU 6 ?_ TT.mk;refine Gg ?_;first | refine WL.pass rfl rfl rfl ?_ | refine Ld ?_)
   aa (refine Gg ?_;refine Go ?_;refine bU 11 ?_ TT.mk;refine Gg ?_;first | refine WL.pass rfl rfl rfl ?_ | refine Ld ?_)
   aa (refine Gg ?_;refine Go ?_;refine bU 16 ?_ TT.mk;refine Gg ?_;first | refine WL.pass rfl rfl rfl ?_ | refine Ld ?_)
   aa (refine Gg ?_;refine Go ?_;refine Gs [(2,_)] ?_;refine Gt ?_)
   aa (
    refine ⟨congrArg Value.bool ?_,aB⟩
    first
     | exact (decide_eq_true (p:=Bk.mW _) (by unfold Bk.mW;simp only;omega)).symm
     | exact (decide_eq_false (p:=Bk.mW _) (by unfold Bk.mW;simp only;omega)).symm)
theorem Be {k:Int} (h0:0≤k∧k≤255):(∃ c:UInt8,Value.int .u8 k=By c∧qP.contains c=true) ↔ lX k:=by
 obtain ⟨c,rfl⟩:∃ c:UInt8,k=(c.toNat:Int):=⟨UInt8.ofNat k.toNat,by rw [UInt8.toNat_ofNat'];omega⟩
 rw [← pK]
 constructor
 · rintro ⟨d,e,hd⟩
   have:c=d:=by simp only [By,Value.int.injEq,true_and] at e;exact UInt8.toNat_inj.1 (by omega)
   rw [this];exact hd
 · exact fun hd=>⟨c,rfl,hd⟩
theorem dS {α:Type} {p:α→Prop} [DecidablePred p] {l:List α}:(l.all fun c=>decide (p c))=true ↔ ∀ c∈l,p c:=by simp
theorem nr {l:List Int}:l.all lV=true ↔ ∀ n∈l,0≤n∧n≤4294967295:=by simp [lV]
theorem gD {n:Int}:lV n=true ↔ 0≤n∧n≤4294967295:=by simp [lV]
theorem mP {h:aj} (b:Bk) (hb:b.ok h) (NC:0≤b.kind∧b.kind≤255) (Bg:b.Km) :
   ai Tryz.prog 139 ⟨[.agg ⟨b.cells⟩]⟩ h fun u h'=>(∃ e,u=In e∧(e=0 ↔ b.may))∧Ext No h h':=by
 have pf:=fun {h':aj} (hx:Ext No h h')=>DP (h:=h') b (hb.av hx)
 have Hw:=fun {h':aj}=>(vq (h:=h') b).dec
 have yj:=fun {h':aj} (hx:Ext No h h')=>vn (h:=h') b (uy b) (hb.av hx) (GY (hb.av hx))
 have PW:=Be NC
 have jh:lX b.kind→bn b.tag=true→bn b.name=true→bn b.value=true→(∀ c∈b.dt,c.okB)→(∀ c∈b.fields,c.okB)→(∀ c∈b.row,c.okB)→(∀ n∈b.aU,0≤n∧n≤4294967295)→(0≤b.n∧b.n≤4294967295)→(0≤b.m∧b.m≤4294967295)→b.mW→b.pl=(uy b).pl→b.may:=fun a1 a2 a3 a4 a5 a6 a7 a8 a9 iy Aw a12 =>
   ⟨PW.2 a1,a2,a3,a4,⟨by have:=Bg.dt;omega,a5⟩,⟨by have:=Bg.fields;omega,a6⟩,⟨by have:=Bg.row;omega,a7⟩,⟨by have:=Bg.aU;omega,a8⟩,a9,iy,Aw,a12.symm⟩
 have Bi:¬ lX b.kind→¬ b.may:=fun a z=>a (PW.1 z.kind)
 have DS:bn b.tag=false→¬ b.may:=fun a z=>by rw [z.tag] at a;cases a
 have Hx:bn b.name=false→¬ b.may:=fun a z=>by rw [z.name] at a;cases a
 have Ko:bn b.value=false→¬ b.may:=fun a z=>by rw [z.value] at a;cases a
 have Kp:(b.dt.all fun c=>decide c.okB)=false→¬ b.may:=fun a z=>by rw [dS.2 z.dt.2] at a;cases a
 have Jc:(b.fields.all fun c=>decide c.okB)=false→¬ b.may:=fun a z=>by rw [dS.2 z.fields.2] at a;cases a
 have Kq:(b.row.all fun c=>decide c.okB)=false→¬ b.may:=fun a z=>by rw [dS.2 z.row.2] at a;cases a
 have Kr:b.aU.all lV=false→¬ b.may:=fun a z=>by rw [nr.2 z.aU.2] at a;cases a
 have zw:lV b.n=false→¬ b.may:=fun a z=>by rw [gD.2 z.n] at a;cases a
 have Bj:lV b.m=false→¬ b.may:=fun a z=>by rw [gD.2 z.m] at a;cases a
 have Bm:¬ b.mW→¬ b.may:=fun a z=>a z.st
 have lY:¬ b.pl=(uy b).pl→¬ b.may:=fun a z=>a z.own.symm
 generalize Jd:uy b=ob at pf yj jh lY
 generalize b.may=BM at jh Bi DS Hx Ko Kp Jc Kq Kr zw Bj Bm lY ⊢
 obtain ⟨ho,hc,hr,hf⟩:=hb
 obtain ⟨ND,NF,Mj,Ml,Ks,Kt,Mm,NG,NH,Hy⟩:=Bg
 generalize Je:b.pl=PL at yj jh lY
 generalize Uy:b.mW=ST at Hw jh Bm
 obtain ⟨k,st,t,n,v,x,y,vo,lo,vc,lc,vr,lr,vf,lf⟩:=b
 simp only at NC ho hc hr hf ND NF Mj Ml Ks Kt Mm NG NH Hy jh Bi DS Hx Ko Kp Jc Kq Kr zw Bj
 dsimp only [Bk.cells] at pf Hw yj ⊢
 refine calls [(0,_)] Tryz.func139 rfl Tryz.ntmps139 rfl ⟨rfl,trivial⟩ ?_
 refine WC.sr ?_;refine WL.al (aI rfl) rfl rfl rfl ?_
 rintro _ g1 ⟨b1,rfl,b0,aT,aB⟩
 refine Go ?_;refine G3 ?_;refine Ld ?_;refine WL.call (vs:=[_]) rfl Tryz.call191 rfl (yi k NC) rfl rfl rfl ?_
 rintro _ g2 ⟨⟨kx,rfl,yl⟩,aK⟩
 have bR:=aK.obj aT aQ
 have iI:=aB.trans aK
 cases kx
 aa (refine Go ?_;refine Gs [(1,_),(8,_)] ?_;refine aJ 1 2 ?_ TT.mk)
 aa try (
 refine ay 1 ?_
 refine G2 ?_;refine Gt ?_
 first
  | exact ⟨⟨0,rfl,⟨fun _=>jh (yl.1 rfl) c1 c2 c3 (dS.1 c4) (dS.1 c5) (dS.1 c6) (nr.1 c7) (gD.1 c8) (gD.1 c9) D5 (ym.1 rfl),fun _=>rfl⟩⟩,mJ.trans cl⟩
  | (refine ⟨⟨_,rfl,⟨fun z=>absurd z (by decide),fun z=>absurd z ?_⟩⟩,?_⟩
     · first | exact Bi (fun z=>Bool.false_ne_true (yl.2 z)) | exact DS c1 | exact Hx c2 | exact Ko c3 | exact Kp c4 | exact Jc c5 | exact Kq c6 | exact Kr c7 | exact zw c8 | exact Bj c9 | exact Bm D5 | exact lY (fun z=>Bool.false_ne_true (ym.2 z))
     · first | exact mJ.trans cl | exact FY | exact Mn | exact oV | exact pI | exact mV | exact iI)
 skip)
 aa (refine ay 2 ?_)
 refine WC.skip ?_;refine Gn ?_;refine G2 ?_;refine Ld ?_;refine WL.call (vs:=[_]) rfl Tryz.call187 rfl ((fI t).bl) rfl rfl rfl ?_
 rintro _ h9 ⟨⟨rfl,c1⟩ | ⟨rfl,c1⟩,mQ⟩
 aa subst h9
 aa (refine Go ?_;refine bU 12 ?_ TT.mk;refine Gg ?_;first | refine WL.pass rfl rfl rfl ?_ | refine Ld ?_)
 aa (
  first
    | (refine WL.pass rfl rfl rfl ?_)
    | (refine WL.call (vs:=[_]) rfl Tryz.call187 rfl ((fI n).bl) rfl rfl rfl ?_
       rintro _ h9 ⟨⟨rfl,c2⟩ | ⟨rfl,c2⟩,mQ⟩
       aa subst h9))
 aa (refine Go ?_;refine bU 17 ?_ TT.mk;refine Gg ?_;first | refine WL.pass rfl rfl rfl ?_ | refine Ld ?_)
 aa (
  first
    | (refine WL.pass rfl rfl rfl ?_)
    | (refine WL.call (vs:=[_]) rfl Tryz.call187 rfl ((fI v).bl) rfl rfl rfl ?_
       rintro _ h9 ⟨⟨rfl,c3⟩ | ⟨rfl,c3⟩,mQ⟩
       aa subst h9))
 aa (refine Go ?_;refine Gs [(1,_),(3,_)] ?_;refine G2 ?_;refine Ld ?_)
 aa (
  refine WL.call (vs:=[_,_]) rfl Tryz.call192 rfl ((vd lc (fun c=>decide c.okB) (hc.1.av iI) (by omega) Tryz.call193 (fun c hc _ _=>vi c)).bl) rfl rfl rfl ?_
  rintro _ g3 ⟨⟨rfl,c4⟩ | ⟨rfl,c4⟩,aS⟩
  aa have bC:=aS.obj bR aQ
  aa have mV:=iI.trans aS)
 aa (refine Go ?_;refine bU 25 ?_ TT.mk;refine Gg ?_;first | refine WL.pass rfl rfl rfl ?_ | refine Ld ?_)
 aa (
  first
    | (refine WL.pass rfl rfl rfl ?_)
    | (refine WL.call (vs:=[_,_]) rfl Tryz.call194 rfl ((vg lf (fun c=>decide c.okB) (hf.1.av mV) (by omega) Tryz.call195 (fun c hc _ _=>yh c)).bl) rfl rfl rfl ?_
       rintro _ g4 ⟨⟨rfl,c5⟩ | ⟨rfl,c5⟩,bh⟩
       aa have bN:=bh.obj bC aQ
       aa have pI:=mV.trans bh))
 aa (refine Go ?_;refine bU 30 ?_ TT.mk;refine Gg ?_;first | refine WL.pass rfl rfl rfl ?_ | refine Ld ?_)
 aa (
  first
    | (refine WL.pass rfl rfl rfl ?_)
    | (refine WL.call (vs:=[_,_]) rfl Tryz.call196 rfl ((vh lr (fun c=>decide c.okB) (hr.1.av pI) (by omega) Tryz.call197 (fun c hc _ _=>AX c (hr.2.2 c hc) (by have:=Kt c hc;omega))).bl) rfl rfl rfl ?_
       rintro _ g5 ⟨⟨rfl,c6⟩ | ⟨rfl,c6⟩,aO⟩
       aa have cd:=aO.obj bN aQ
       aa have oV:=pI.trans aO))
 aa (refine Go ?_;refine bU 35 ?_ TT.mk;refine Gg ?_;first | refine WL.pass rfl rfl rfl ?_ | refine Ld ?_)
 aa (
  first
    | (refine WL.pass rfl rfl rfl ?_)
    | (refine WL.call (vs:=[_,_]) rfl Tryz.call198 rfl ((vj lo (ho.1.av oV) (by omega)).bl) rfl rfl rfl ?_
       rintro _ g6 ⟨⟨rfl,c7⟩ | ⟨rfl,c7⟩,aP⟩
       aa have cj:=aP.obj cd aQ
       aa have Mn:=oV.trans aP))
 aa (refine Go ?_;refine Gs [(1,_),(3,_),(4,_)] ?_;refine WC.seq ?_;refine WC.seq ?_;refine WC.cg (fun h'=>h'[b1]?=some (.cells ⟨[.int .u8 k,.int .u8 st,St t,St n,St v,In x,In y,vo,vc,vr,vf]⟩ 140 (0,0))) 30 30 rfl dB ?_;refine WH.tk 0 rfl (fun hq hC=>an rfl) rfl rfl rfl ?_ (hC:=(by first | exact ck | exact bP | exact cq | exact cj | exact cd | exact bN | exact bC));refine WH.tk 1 rfl (fun hq hC=>dI rfl) rfl rfl rfl ?_ (hC:=(by first | exact ck | exact bP | exact cq | exact cj | exact cd | exact bN | exact bC));refine WH.tk 2 rfl (fun hq hC=>an rfl) rfl rfl rfl ?_ (hC:=(by first | exact ck | exact bP | exact cq | exact cj | exact cd | exact bN | exact bC));try ((aW (refine WH.part 42 (b:=true) rfl (fun _=>?_) (fun _=>?_)));(aW (refine WH.part 42 (b:=false) rfl (fun _=>?_) (fun _=>?_)));(refine WH.part 42 rfl (fun hb=>?_) (fun hb=>?_))))
 aa (first | (refine WH.ps 3 rfl rfl rfl rfl ?_ (hC:=(by first | exact ck | exact bP | exact cq | exact cj | exact cd | exact bN | exact bC))) | (refine WH.tk 3 rfl (fun hq hC=>an rfl) rfl rfl rfl ?_ (hC:=(by first | exact ck | exact bP | exact cq | exact cj | exact cd | exact bN | exact bC))))
 aa (first | (refine WH.ps 4 rfl rfl rfl rfl ?_ (hC:=(by first | exact ck | exact bP | exact cq | exact cj | exact cd | exact bN | exact bC))) | (refine WH.tk 4 rfl (fun hq hC=>dI rfl) rfl rfl rfl ?_ (hC:=(by first | exact ck | exact bP | exact cq | exact cj | exact cd | exact bN | exact bC))))
 aa (first | (refine WH.tk 5 rfl (fun hq hC=>cP rfl rfl) rfl rfl rfl ?_ (hC:=(by first | exact ck | exact bP | exact cq | exact cj | exact cd | exact bN | exact bC))) | (refine WH.tk 5 rfl (fun hq hC=>cQ rfl rfl) rfl rfl rfl ?_ (hC:=(by first | exact ck | exact bP | exact cq | exact cj | exact cd | exact bN | exact bC))))
 aa (refine WH.tk 6 rfl (fun hq hC=>an rfl) rfl rfl rfl ?_ (hC:=(by first | exact ck | exact bP | exact cq | exact cj | exact cd | exact bN | exact bC));try ((aW (refine WH.part 46 (b:=true) rfl (fun _=>?_) (fun _=>?_)));(aW (refine WH.part 46 (b:=false) rfl (fun _=>?_) (fun _=>?_)));(refine WH.part 46 rfl (fun hb=>?_) (fun hb=>?_))))
 aa (first | (refine WH.ps 7 rfl rfl rfl rfl ?_ (hC:=(by first | exact ck | exact bP | exact cq | exact cj | exact cd | exact bN | exact bC))) | (refine WH.tk 7 rfl (fun hq hC=>ag rfl Tryz.underlying140 rfl Tryz.sizeOf3) rfl rfl rfl ?_ (hC:=(by first | exact ck | exact bP | exact cq | exact cj | exact cd | exact bN | exact bC))))
 aa (first | (refine WH.ps 8 rfl rfl rfl rfl ?_ (hC:=(by first | exact ck | exact bP | exact cq | exact cj | exact cd | exact bN | exact bC))) | (refine WH.tk 8 rfl (fun hq hC=>aC Tryz.isAgg3 rfl (ab hC rfl)) rfl rfl rfl ?_ (hC:=(by first | exact ck | exact bP | exact cq | exact cj | exact cd | exact bN | exact bC))))
 aa (first
   | (refine WH.ps 9 rfl rfl rfl rfl ?_ (hC:=(by first | exact ck | exact bP | exact cq | exact cj | exact cd | exact bN | exact bC)))
   | (refine WH.one 9 (by kernel_rfl) ?_
      refine aE.call (vs:=[_]) rfl rfl Tryz.call199 rfl ((qY x).bl) rfl rfl rfl ?_ (fun _=>by kernel_rfl)
      rintro _ h9 ⟨⟨rfl,c8⟩ | ⟨rfl,c8⟩,mQ⟩
      aa subst h9
      aa (refine ⟨fun _=>by first | assumption | trivial,?_⟩)
      skip))
 aa (first | (refine WH.ps 10 rfl rfl rfl rfl ?_ (hC:=(by first | exact ck | exact bP | exact cq | exact cj | exact cd | exact bN | exact bC))) | (refine WH.tk 10 rfl (fun hq hC=>dI rfl) rfl rfl rfl ?_ (hC:=(by first | exact ck | exact bP | exact cq | exact cj | exact cd | exact bN | exact bC))))
 aa (first | (refine WH.tk 11 rfl (fun hq hC=>cP rfl rfl) rfl rfl rfl ?_ (hC:=(by first | exact ck | exact bP | exact cq | exact cj | exact cd | exact bN | exact bC))) | (refine WH.tk 11 rfl (fun hq hC=>cQ rfl rfl) rfl rfl rfl ?_ (hC:=(by first | exact ck | exact bP | exact cq | exact cj | exact cd | exact bN | exact bC))))
 aa (refine WH.tk 12 rfl (fun hq hC=>an rfl) rfl rfl rfl ?_ (hC:=(by first | exact ck | exact bP | exact cq | exact cj | exact cd | exact bN | exact bC));try ((aW (refine WH.part 52 (b:=true) rfl (fun _=>?_) (fun _=>?_)));(aW (refine WH.part 52 (b:=false) rfl (fun _=>?_) (fun _=>?_)));(refine WH.part 52 rfl (fun hb=>?_) (fun hb=>?_))))
 aa (first | (refine WH.ps 13 rfl rfl rfl rfl ?_ (hC:=(by first | exact ck | exact bP | exact cq | exact cj | exact cd | exact bN | exact bC))) | (refine WH.tk 13 rfl (fun hq hC=>ag rfl Tryz.underlying140 rfl Tryz.sizeOf3) rfl rfl rfl ?_ (hC:=(by first | exact ck | exact bP | exact cq | exact cj | exact cd | exact bN | exact bC))))
 aa (first | (refine WH.ps 14 rfl rfl rfl rfl ?_ (hC:=(by first | exact ck | exact bP | exact cq | exact cj | exact cd | exact bN | exact bC))) | (refine WH.tk 14 rfl (fun hq hC=>aC Tryz.isAgg3 rfl (ab hC rfl)) rfl rfl rfl ?_ (hC:=(by first | exact ck | exact bP | exact cq | exact cj | exact cd | exact bN | exact bC))))
 aa (first
   | (refine WH.ps 15 rfl rfl rfl rfl ?_ (hC:=(by first | exact ck | exact bP | exact cq | exact cj | exact cd | exact bN | exact bC)))
   | (refine WH.one 15 (by kernel_rfl) ?_
      refine aE.call (vs:=[_]) rfl rfl Tryz.call199 rfl ((qY y).bl) rfl rfl rfl ?_ (fun _=>by kernel_rfl)
      rintro _ h9 ⟨⟨rfl,c9⟩ | ⟨rfl,c9⟩,mQ⟩
      aa subst h9
      aa (refine ⟨fun _=>by first | assumption | trivial,?_⟩)
      skip))
 aa (first | (refine WH.ps 16 rfl rfl rfl rfl ?_ (hC:=(by first | exact ck | exact bP | exact cq | exact cj | exact cd | exact bN | exact bC))) | (refine WH.tk 16 rfl (fun hq hC=>dI rfl) rfl rfl rfl ?_ (hC:=(by first | exact ck | exact bP | exact cq | exact cj | exact cd | exact bN | exact bC))))
 aa (first | (refine WH.tk 17 rfl (fun hq hC=>cP rfl rfl) rfl rfl rfl ?_ (hC:=(by first | exact ck | exact bP | exact cq | exact cj | exact cd | exact bN | exact bC))) | (refine WH.tk 17 rfl (fun hq hC=>cQ rfl rfl) rfl rfl rfl ?_ (hC:=(by first | exact ck | exact bP | exact cq | exact cj | exact cd | exact bN | exact bC))))
 aa (refine WH.tk 18 rfl (fun hq hC=>an rfl) rfl rfl rfl ?_ (hC:=(by first | exact ck | exact bP | exact cq | exact cj | exact cd | exact bN | exact bC));try ((aW (refine WH.part 58 (b:=true) rfl (fun _=>?_) (fun _=>?_)));(aW (refine WH.part 58 (b:=false) rfl (fun _=>?_) (fun _=>?_)));(refine WH.part 58 rfl (fun hb=>?_) (fun hb=>?_))))
 aa (first | (refine WH.ps 19 rfl rfl rfl rfl ?_ (hC:=(by first | exact ck | exact bP | exact cq | exact cj | exact cd | exact bN | exact bC))) | (refine WH.tk 19 rfl (fun hq hC=>aA Tryz.isAgg140 Tryz.sizeOf140 rfl rfl (by exact At.ax hC)) rfl rfl rfl ?_ (hC:=(by first | exact ck | exact bP | exact cq | exact cj | exact cd | exact bN | exact bC))))
 aa (first
   | (refine WH.ps 20 rfl rfl rfl rfl ?_ (hC:=(by first | exact ck | exact bP | exact cq | exact cj | exact cd | exact bN | exact bC)))
   | (refine WH.one 20 (by kernel_rfl) ?_
      refine aE.call (vs:=[_]) rfl rfl Tryz.call200 rfl (Hw) rfl rfl rfl ?_ (fun _=>by kernel_rfl)
      rintro _ g7 ⟨⟨rfl,D5⟩ | ⟨rfl,D5⟩,bu⟩
      aa have cq:=bu.obj cj aQ
      aa have FY:=Mn.trans bu
      aa (refine ⟨fun _=>cq,?_⟩)
      skip))
 aa (first | (refine WH.ps 21 rfl rfl rfl rfl ?_ (hC:=(by first | exact ck | exact bP | exact cq | exact cj | exact cd | exact bN | exact bC))) | (refine WH.tk 21 rfl (fun hq hC=>dI rfl) rfl rfl rfl ?_ (hC:=(by first | exact ck | exact bP | exact cq | exact cj | exact cd | exact bN | exact bC))))
 aa (first | (refine WH.tk 22 rfl (fun hq hC=>cP rfl rfl) rfl rfl rfl ?_ (hC:=(by first | exact ck | exact bP | exact cq | exact cj | exact cd | exact bN | exact bC))) | (refine WH.tk 22 rfl (fun hq hC=>cQ rfl rfl) rfl rfl rfl ?_ (hC:=(by first | exact ck | exact bP | exact cq | exact cj | exact cd | exact bN | exact bC))))
 aa (refine WH.tk 23 rfl (fun hq hC=>an rfl) rfl rfl rfl ?_ (hC:=(by first | exact ck | exact bP | exact cq | exact cj | exact cd | exact bN | exact bC));try ((aW (refine WH.part 63 (b:=true) rfl (fun _=>?_) (fun _=>?_)));(aW (refine WH.part 63 (b:=false) rfl (fun _=>?_) (fun _=>?_)));(refine WH.part 63 rfl (fun hb=>?_) (fun hb=>?_))))
 aa (first | (refine WH.ps 24 rfl rfl rfl rfl ?_ (hC:=(by first | exact ck | exact bP | exact cq | exact cj | exact cd | exact bN | exact bC))) | (refine WH.tk 24 rfl (fun hq hC=>aA Tryz.isAgg140 Tryz.sizeOf140 rfl rfl (by exact At.ax hC)) rfl rfl rfl ?_ (hC:=(by first | exact ck | exact bP | exact cq | exact cj | exact cd | exact bN | exact bC))))
 aa (first | (refine WH.ps 25 rfl rfl rfl rfl ?_ (hC:=(by first | exact ck | exact bP | exact cq | exact cj | exact cd | exact bN | exact bC))) | (refine WH.tk 25 rfl (fun hq hC=>aA Tryz.isAgg140 Tryz.sizeOf140 rfl rfl (by exact At.ax hC)) rfl rfl rfl ?_ (hC:=(by first | exact ck | exact bP | exact cq | exact cj | exact cd | exact bN | exact bC))))
 aa (first
   | (refine WH.ps 26 rfl rfl rfl rfl ?_ (hC:=(by first | exact ck | exact bP | exact cq | exact cj | exact cd | exact bN | exact bC)))
   | (refine WH.one 26 (by kernel_rfl) ?_
      refine aE.call (vs:=[_]) rfl rfl Tryz.call202 rfl (pf FY) rfl rfl rfl ?_ (fun _=>by kernel_rfl)
      rintro _ g8 ⟨rfl,bH⟩
      have bP:=bH.obj cq aQ
      have mJ:=FY.trans bH
      refine ⟨fun _=>bP,?_⟩
      skip))
 aa (first
   | (refine WH.ps 27 rfl rfl rfl rfl ?_ (hC:=(by first | exact ck | exact bP | exact cq | exact cj | exact cd | exact bN | exact bC)))
   | (refine WH.one 27 (by kernel_rfl) ?_
      refine aE.call (vs:=[_,_]) rfl rfl Tryz.call201 rfl (yj mJ) rfl rfl rfl ?_ (fun _=>by kernel_rfl)
      rintro _ g9 ⟨⟨sx,rfl,ym⟩,cl⟩
      have ck:=cl.obj bP aQ
      cases sx
      aa (refine ⟨fun _=>ck,?_⟩)
      skip))
 aa (first | (refine WH.ps 28 rfl rfl rfl rfl ?_ (hC:=(by first | exact ck | exact bP | exact cq | exact cj | exact cd | exact bN | exact bC))) | (refine WH.tk 28 rfl (fun hq hC=>dI rfl) rfl rfl rfl ?_ (hC:=(by first | exact ck | exact bP | exact cq | exact cj | exact cd | exact bN | exact bC))))
 aa (first | (refine WH.tk 29 rfl (fun hq hC=>cP rfl rfl) rfl rfl rfl ?_ (hC:=(by first | exact ck | exact bP | exact cq | exact cj | exact cd | exact bN | exact bC))) | (refine WH.tk 29 rfl (fun hq hC=>cQ rfl rfl) rfl rfl rfl ?_ (hC:=(by first | exact ck | exact bP | exact cq | exact cj | exact cd | exact bN | exact bC))))
 aa (refine WH.done (by kernel_rfl) ?_;refine Gn ?_;refine Gs [(69,_)] ?_;refine aJ 3 4 ?_ TT.mk)
 aa try (
 refine ay 3 ?_
 aa (refine G2 ?_;refine Gt ?_)
 aa (
  first
   | exact ⟨⟨0,rfl,⟨fun _=>jh (yl.1 rfl) c1 c2 c3 (dS.1 c4) (dS.1 c5) (dS.1 c6) (nr.1 c7) (gD.1 c8) (gD.1 c9) D5 (ym.1 rfl),fun _=>rfl⟩⟩,mJ.trans cl⟩
   | (refine ⟨⟨_,rfl,⟨fun z=>absurd z (by decide),fun z=>absurd z ?_⟩⟩,?_⟩
      · first | exact Bi (fun z=>Bool.false_ne_true (yl.2 z)) | exact DS c1 | exact Hx c2 | exact Ko c3 | exact Kp c4 | exact Jc c5 | exact Kq c6 | exact Kr c7 | exact zw c8 | exact Bj c9 | exact Bm D5 | exact lY (fun z=>Bool.false_ne_true (ym.2 z))
      · first | exact mJ.trans cl | exact FY | exact Mn | exact oV | exact pI | exact mV | exact iI))
 skip)
 aa (refine ay 4 ?_)
 refine WC.skip ?_;refine Gn ?_;refine G2 ?_;refine Gt ?_
 first
  | exact ⟨⟨0,rfl,⟨fun _=>jh (yl.1 rfl) c1 c2 c3 (dS.1 c4) (dS.1 c5) (dS.1 c6) (nr.1 c7) (gD.1 c8) (gD.1 c9) D5 (ym.1 rfl),fun _=>rfl⟩⟩,mJ.trans cl⟩
  | (refine ⟨⟨_,rfl,⟨fun z=>absurd z (by decide),fun z=>absurd z ?_⟩⟩,?_⟩
     · first | exact Bi (fun z=>Bool.false_ne_true (yl.2 z)) | exact DS c1 | exact Hx c2 | exact Ko c3 | exact Kp c4 | exact Jc c5 | exact Kq c6 | exact Kr c7 | exact zw c8 | exact Bj c9 | exact Bm D5 | exact lY (fun z=>Bool.false_ne_true (ym.2 z))
     · first | exact mJ.trans cl | exact FY | exact Mn | exact oV | exact pI | exact mV | exact iI)
structure Wr (g h:aj) (b:Nat) (v:Value) (l:List UInt8):Prop where
 bB:h[b]?=some (.cells ⟨[v]⟩ 207 (0,0))
 own:Own h v 5 1 l.length (bK l)
 lo:g.size≤b∧∀ q,v.ownBlock=some q→g.size≤q
 ext:Ext No g h
def NI (b:Nat) (v:Value) (q:Nat):Prop:=q=b∨v.ownBlock=some q
section
variable {g h:aj} {b:Nat} {v:Value} {l:List UInt8}
theorem Wr.ne (w:Wr g h b v l):v.ownBlock ≠ some b:=fun e=>by obtain ⟨_,z⟩:=bV w.own e;rw [w.bB] at z;simp at z
theorem Wr.stay {h':aj} (w:Wr g h b v l) (x:Ext No h h'):Wr g h' b v l:=⟨x.obj w.bB aQ,w.own.ext x (fun _ _=>aQ),w.lo,w.ext.trans x⟩
theorem Bn (w:Wr g h b v l) (s:List UInt8) (hl:l.length+s.length≤1000000000):ai Tryz.prog 141 ⟨[.pointer (some ⟨b,0,none⟩),St s]⟩ h fun _ h'=>∃ v',Wr g h' b v' (l++s++[0])∧Ext (NI b v) h h'∧∀ q,v'.ownBlock=some q→v.ownBlock=some q∨h.size≤q:=by
 have ep:=w.ne
 have FZ:=w.bB
 have j3:=ak FZ
 have ho:=w.own
 have lo:=w.lo
 have Ku:=w.ext
 have RN:=Ku.size
 refine calls [(0,_),(1,_)] Tryz.func141 rfl Tryz.ntmps141 rfl ⟨rfl,rfl,trivial⟩ ?_
 refine WC.region (Go ?_);refine WL.step (ah rfl) rfl rfl rfl (Go ?_);refine WL.ld rfl (by first | exact ab FZ rfl | assumption) rfl rfl rfl (Go ?_)
 refine WL.al (gw rfl Tryz.underlying23 Tryz.underlying9 (show Tryz.prog.info? 5=some Tryz.t5 by kernel_rfl) rfl rfl rfl rfl rfl ho (by omega)) rfl rfl rfl ?_
 rintro v1 h1 ⟨kE,aB,I9,_⟩
 refine WL.al (aw (vs:=[_]) (cs:=[_]) (fun | [a0]=>[a0] | _=>[]) Tryz.underlying23 rfl rfl (by kernel_rfl)) rfl rfl rfl ?_
 rintro _ h2 ⟨b2,rfl,gI,bR,aK⟩
 refine WL.al (aX (sz:=1) (bytes:=1) rfl Tryz.underlying23 (show Tryz.prog.info? 5=some Tryz.t5 by kernel_rfl) rfl rfl rfl rfl (by decide) rfl rfl (kE.ext aK (fun _ _=>aQ)) (bG bR rfl) (by simp [Value.oneCell']) (by simp only [maxLen];omega) (by omega)) rfl rfl rfl ?_
 rintro v3 h3 ⟨ee,aS,x8⟩
 have iO:∀ q,v1.ownBlock=some q→v.ownBlock=some q∨h.size≤q:=I9
 have s1:=aB.size
 have s2:=aK.size
 have im:∀ q,v3.ownBlock=some q→v.ownBlock=some q∨h.size≤q:=fun q hq=>x8.elim (fun e=>iO q (e▸hq)) (fun e=>.inr (by rw [e] at hq;cases hq;omega))
 have mV:Ext (fun q=>v.ownBlock=some q) h h3:=(aB.trans (aK.mono fun _ _ e=>e.elim)).trans' aS (fun q hq e=>(iO q e).elim id (fun z=>by omega))
 obtain ⟨A3,c3,rfl,_⟩:=ee.slice
 have bC:=mV.obj FZ ep
 refine WL.step (ah rfl) rfl rfl rfl (Go ?_);refine WL.az (aD Tryz.sizeOf23 rfl rfl bC (Nat.le_of_ble_eq_true rfl) rfl rfl) rfl rfl ?_
 rintro _ h4 ⟨bN,bh⟩
 refine Gn ?_
 refine fQ [] trivial ?_
 refine ⟨_,⟨bN,?_,⟨lo.1,fun q hq=>?_⟩,?_⟩,(mV.mono fun q _ e=>.inr e).trans (bh.mono fun q _ e=>.inl e),im⟩
 · rw [show (l++s++[(0:UInt8)]).length=l.length+s.length+1 by simp [Nat.add_assoc],show bK (l++s++[0])=bK l++bK s++[Value.int .u8 0] by simp only [bK,List.map_append,List.map_cons,List.map_nil];rfl];exact ee.ext bh (fun q hq e=>by obtain ⟨_,z⟩:=bV ee hq;rw [e,bC] at z;simp at z)
 · exact (im q hq).elim (fun e=>lo.2 q e) (fun e=>by omega)
 · exact (Ku.trans' mV (fun q hq e=>by have:=lo.2 q e;omega)).trans' bh (fun q hq e=>by have:=lo.1;omega)
end
def fF (F:List bz):List UInt8:=F.flatMap fun f=>[UInt8.ofNat f.k.toNat]++f.t++[0]
theorem NJ {k:Int} (h0:0≤k) (h1:k≤255):By (UInt8.ofNat k.toNat)=.int .u8 k:=by
 show Value.int .u8 ((UInt8.ofNat k.toNat).toNat:Int)=.int .u8 k
 rw [UInt8.toNat_ofNat']
 congr 1
 omega
theorem yo {F:List bz} {k:Nat} {y:bz} (hy:F[k]?=some y):fF (F.take (k+1))=fF (F.take k)++[UInt8.ofNat y.k.toNat]++y.t++[0]:=by
 unfold fF
 rw [List.take_add_one,hy,List.flatMap_append]
 simp
theorem tu (F:List bz) (n:Nat) (hF:∀ f∈F,f.t.length≤n):(fF F).length≤F.length * (n+2):=by
 induction F with
 | nil=>simp [fF]
 | cons a F ih =>
   have h1:=ih (fun f hf=>hF f (by simp [hf]))
   have h2:=hF a (by simp)
   have:fF (a :: F)=[UInt8.ofNat a.k.toNat]++a.t++[0]++fF F:=by simp [fF]
   rw [this]
   simp only [List.length_append,List.length_cons,List.length_nil] at *
   rw [Nat.add_mul]
   omega
theorem Bq {g h:aj} {b:Nat} {v:Value} (F:List bz) (w:Wr g h b kj []) (hr:Rd g v 2 F.length (F.flatMap bz.cells)) (hF:∀ f∈F,f.t.length≤200000∧0≤f.k∧f.k≤255) (hm:F.length≤100) :
   ai Tryz.prog 144 ⟨[.pointer (some ⟨b,0,none⟩),v]⟩ h fun _ h'=>∃ v',Wr g h' b v' (fF F++[0])∧Ext (fun q=>q=b) h h':=by
 obtain ⟨A,c,rfl,_⟩:=id hr
 have hlen:∀ k,(fF (F.take k)).length≤100 * 200002:=fun k=>Nat.le_trans (tu (F.take k) 200000 (fun f hf=>(hF f (List.mem_of_mem_take hf)).1)) (Nat.mul_le_mul (by rw [List.length_take];omega) (Nat.le_refl _))
 refine calls [(0,_),(1,_)] Tryz.func144 rfl Tryz.ntmps144 rfl ⟨rfl,rfl,trivial⟩ ?_
 refine G3 ?_;refine WC.block ?_;refine WC.bO (X:=Nat × Value) (fun x=>([(8,In (x.1:Int))]:Fr)) [(0,_),(6,_),(7,_)] (fun y h'=>y.1≤F.length∧Wr g h' b y.2 (fF (F.take y.1))∧Ext (fun q=>q=b) h h'∧∀ q,y.2.ownBlock=some q→h.size≤q) (fun y=>F.length - y.1) ((0,kj)) ⟨rfl,rfl,rfl,rfl,trivial⟩ (by exact ⟨Nat.zero_le _,w,.refl _ _,by simp [Value.ownBlock]⟩) ?_
 rintro ⟨k,u⟩ h1 ⟨hk,w1,aB,iO⟩
 dsimp only at hk w1 iO
 refine WC.sub [(8,_),(0,_),(6,_),(7,_)] ⟨rfl,rfl,rfl,rfl,trivial⟩ ?_
 dsimp only
 refine G2 ?_;refine WC.seq ?_
 refine aJ 1 2 (Hb.mk fun hb=>?_) (Hb.mk fun hb=>?_)
 aa try (
 refine ay 1 ?_
 refine WC.skip ?_
 skip)
 aa try (
 refine ay 2 ?_
 refine WC.exit ?_
 repeat' (ae first | refine aZ ?_ | refine aF rfl ?_ | refine aL ?_ | refine aN ?_ | refine aV ?_)
 refine Br.out (i:=1000) ?_
 skip)
 aa (refine Gn ?_;first | refine Br.ad ?_ | refine WC.seq ?_)
 aa (first | refine Br.ad ?_ | refine WC.block ?_)
 aa (first | refine Br.ad ?_ | refine WC.sr ?_)
 aa (
  first
    | (refine Br.ad ?_)
    | (obtain ⟨bL,oL,hA,gx,cX⟩:=Rd.at_ hr (by omega)
       obtain ⟨⟨yk,yt⟩,hy⟩:∃ y,F[k]?=some y:=⟨_,List.getElem?_eq_getElem (by omega)⟩
       have NK:=hF _ (List.mem_of_getElem? hy)
       dsimp only at NK
       have r8:At h1 bL (oL+k * 2) [.int .u8 yk,St yt]:=At.elem bz.len (cX.ext w1.ext aQ) hy
       have jI:=hlen k))
 aa (first | refine Br.ad ?_ | (refine WL.step (aG Tryz.underlying138 Tryz.sizeOf194 rfl rfl rfl (by omega) (by first | rfl | assumption)) rfl rfl rfl ?_))
 aa (first | refine Br.ad ?_ | (refine WL.step (aA Tryz.isAgg194 Tryz.sizeOf194 rfl rfl (by exact r8)) rfl rfl rfl ?_))
 aa (
  first
    | (refine Br.ad ?_)
    | (refine WL.al (au (fun w=>Tryz.zeroValue194 w)) rfl rfl rfl ?_
       rintro _ h2 ⟨b5,rfl,r6,cd,aK⟩))
 aa (
  first
    | (refine Br.ad ?_)
    | (refine WL.az (aq Tryz.sizeOf194 rfl rfl rfl cd rfl (by simp [Value.oneCell'])) rfl rfl ?_
       rintro _ h3 ⟨D6,aS⟩))
 aa (
  first
    | (refine Br.ad ?_)
    | (have mV:Ext No h1 h3:=aK.trans' aS (fun q hq e=>by omega)
       have w3:=w1.stay mV
       have n3:=w3.ne
       have n5:¬ u.ownBlock=some b5:=fun e=>by have:=w1.own.lt e;omega
       have l1:=ak w1.bB
       have s3:=mV.size
       have sh:=aB.size))
 aa (refine Gn ?_;first | refine Br.ad ?_ | refine WC.seq ?_)
 aa (first | refine Br.ad ?_ | (refine WC.cg (fun h'=>Ext (fun q=>u.ownBlock=some q) h3 h') 9 12 rfl dB ?_))
 aa (first | refine Br.ad ?_ | (refine WH.tk 0 rfl (fun hq hC=>an rfl) rfl rfl rfl ?_))
 aa (first | refine Br.ad ?_ | (refine WH.tk 1 rfl (fun hq hC=>an rfl) rfl rfl rfl ?_))
 aa (first | refine Br.ad ?_ | (refine WH.tk 2 rfl (fun hq hC=>ah rfl) rfl rfl rfl ?_))
 aa (first | refine Br.ad ?_ | (refine WH.tk 3 rfl (fun hq hC=>ag rfl Tryz.underlying207 rfl Tryz.sizeOf23) rfl rfl rfl ?_))
 aa (first | refine Br.ad ?_ | (refine WH.tk 4 rfl (fun hq hC=>aC Tryz.isAgg23 rfl (by first | exact hC.cell (by first | exact ab w3.bB rfl | assumption) (by first | exact n3 | exact n5))) rfl rfl rfl ?_))
 aa (first | refine Br.ad ?_ | (refine WH.tk 5 rfl (fun hq hC=>ag rfl Tryz.underlying194 rfl Tryz.sizeOf5) rfl rfl rfl ?_))
 aa (first | refine Br.ad ?_ | (refine WH.tk 6 rfl (fun hq hC=>aC Tryz.isAgg5 rfl (by first | exact hC.cell (by first | exact ab D6 rfl | assumption) (by first | exact n3 | exact n5))) rfl rfl rfl ?_))
 aa (first | refine Br.ad ?_ | (refine WH.one 7 (by kernel_rfl) ?_))
 aa (
  first
    | (refine Br.ad ?_)
    | (refine aE.run rfl (aw (vs:=[_]) (cs:=[_]) (fun | [a0]=>[a0] | _=>[]) Tryz.underlying23 rfl rfl (by kernel_rfl)) rfl rfl rfl ?_ (fun _=>by kernel_rfl)
       rintro _ h7 ⟨b7,rfl,zu,cq,bu⟩))
 aa (first | refine Br.ad ?_ | (refine ⟨fun _=>bu.mono fun _ _ e=>e.elim,?_⟩))
 aa (first | refine Br.ad ?_ | (have F0:Ext (fun q=>u.ownBlock=some q) h3 h7:=bu.mono fun _ _ e=>e.elim))
 aa (first | refine Br.ad ?_ | (refine WH.one 8 (by kernel_rfl) ?_))
 aa (
  first
    | (refine Br.ad ?_)
    | (refine aE.run rfl (aX (sz:=1) (bytes:=1) rfl Tryz.underlying23 (show Tryz.prog.info? 5=some Tryz.t5 by kernel_rfl) rfl rfl rfl rfl (by decide) rfl rfl (w3.own.ext bu (fun _ _=>aQ)) (bG cq rfl) (by simp [Value.oneCell']) (by simp only [maxLen];omega) (by omega)) rfl rfl rfl ?_ (fun _=>by kernel_rfl)
       rintro v8 h8 ⟨kC,bH,uX⟩))
 aa (first | refine Br.ad ?_ | (refine ⟨fun _=>F0.trans bH,?_⟩))
 aa (
  first
    | (refine Br.ad ?_)
    | (have zx:=F0.trans bH
       have bP:=zx.obj w3.bB n3
       obtain ⟨A8,c8,rfl,_⟩:=kC.slice))
 aa (first | refine Br.ad ?_ | (refine WH.one 9 (by kernel_rfl) ?_))
 aa (
  first
    | (refine Br.ad ?_)
    | (refine aE.run rfl (bW.r (ah rfl)) rfl rfl rfl ?_ (fun _=>by kernel_rfl)
       rintro _ hz ⟨rfl,_⟩
       subst hz))
 aa (first | refine Br.ad ?_ | (refine ⟨fun e=>(by cases e),?_⟩))
 aa (first | refine Br.ad ?_ | (refine WH.one 10 (by kernel_rfl) ?_))
 aa (
  first
    | (refine Br.ad ?_)
    | (refine aE.run rfl (bW.r (ag rfl Tryz.underlying207 rfl Tryz.sizeOf23)) rfl rfl rfl ?_ (fun _=>by kernel_rfl)
       rintro _ hz ⟨rfl,_⟩
       subst hz))
 aa (first | refine Br.ad ?_ | (refine ⟨fun e=>(by cases e),?_⟩))
 aa (first | refine Br.ad ?_ | (refine WH.one 11 (by kernel_rfl) ?_))
 aa (
  first
    | (refine Br.ad ?_)
    | (refine aE.cY rfl (aD Tryz.sizeOf23 rfl rfl bP (Nat.le_of_ble_eq_true rfl) rfl rfl) rfl rfl ?_ (fun _=>by kernel_rfl)
       rintro _ h9 ⟨ck,cl⟩))
 aa (first | refine Br.ad ?_ | (refine ⟨fun e=>(by cases e),?_⟩))
 aa (
  first
    | (refine Br.ad ?_)
    | (have s7:=bu.size
       have G8:∀ q,(Value.slice A8 ((fF (F.take k)).length+1) c8).ownBlock=some q→u.ownBlock=some q∨h3.size≤q:=fun q hq=>uX.elim (fun e=>.inl (e▸hq)) (fun e=>.inr (by rw [e] at hq;cases hq;omega))
       have w9:Wr g h9 b (.slice A8 ((fF (F.take k)).length+1) c8) (fF (F.take k)++[UInt8.ofNat yk.toNat]):=⟨ck,by rw [show (fF (F.take k)++[UInt8.ofNat yk.toNat]).length=(fF (F.take k)).length+1 by simp,show bK (fF (F.take k)++[UInt8.ofNat yk.toNat])=bK (fF (F.take k))++[Value.int .u8 yk] by simp only [bK,List.map_append,List.map_cons,List.map_nil];rw [NJ NK.2.1 NK.2.2]];exact kC.ext cl (fun q hq e=>by obtain ⟨_,z⟩:=bV kC hq;rw [e,bP] at z;simp at z),⟨w1.lo.1,fun q hq=>(G8 q hq).elim (fun e=>w1.lo.2 q e) (fun e=>by have:=w1.ext.size;omega)⟩,(w3.ext.trans' zx (fun q hq e=>by have:=w1.lo.2 q e;omega)).trans' cl (fun q hq e=>by have:=w1.lo.1;omega)⟩
       have RO:b5 ≠ b:=by omega
       have Hz:=cl.obj (zx.obj D6 n5) RO))
 aa (first | refine Br.ad ?_ | (refine WH.done (by kernel_rfl) ?_))
 aa (refine Gn ?_;first | refine Br.ad ?_ | refine Gs [(0,_),(5,_),(6,_),(7,_),(8,_)] ?_)
 aa (first | refine Br.ad ?_ | refine WC.region ?_)
 aa (refine Go ?_;first | refine Br.ad ?_ | (refine WL.ld rfl (by first | exact ab Hz rfl | assumption) rfl rfl rfl ?_))
 aa (
  first
    | (refine Br.ad ?_)
    | (refine WL.call (vs:=[_,_]) rfl Tryz.call141 rfl (Bn w9 yt (by simp only [List.length_append,List.length_cons,List.length_nil];omega)) rfl rfl rfl ?_
       rintro _ jf ⟨v10,RP,cC,NL⟩))
 aa (refine Gn ?_;first | refine Br.ad ?_ | refine Gs [(0,_),(6,_),(7,_),(8,_)] ?_)
 aa (first | refine Br.ad ?_ | refine WC.region ?_)
 aa (refine Go ?_;first | refine Br.ad ?_ | (exact ⟨(k+1,_),⟨rfl,rfl,rfl,rfl,trivial⟩,(by exact ⟨by omega,by rw [yo hy];exact RP,(((aB.trans' mV (fun q hq e=>e.elim)).trans' zx (fun q hq e=>by have:=iO q e;omega)).trans' cl (fun q hq e=>e)).trans' cC (fun q hq e=>e.elim id (fun z=>(G8 q z).elim (fun z=>by have:=iO q z;omega) (fun z=>by omega))),fun q hq=>(NL q hq).elim (fun z=>(G8 q z).elim (fun z=>iO q z) (fun z=>by omega)) (fun z=>by have:=zx.size;have:=cl.size;omega)⟩),(by simp;omega)⟩))
 try (refine Br.mk (i:=1000) ?_)
 refine Gn ?_;refine Gs [(0,_)] ?_;refine WC.region ?_
 have Uz:k=F.length:=by omega
 have jI:=hlen k
 have sh:=aB.size
 have n1:=w1.ne
 refine WL.step (an rfl) rfl rfl rfl (Go ?_);refine WL.step (ah rfl) rfl rfl rfl (Go ?_);refine WL.ld rfl (by first | exact ab w1.bB rfl | assumption) rfl rfl rfl ?_
 refine WL.al (aw (vs:=[_]) (cs:=[_]) (fun | [a0]=>[a0] | _=>[]) Tryz.underlying23 rfl rfl (by kernel_rfl)) rfl rfl rfl ?_
 rintro _ h2 ⟨b2,rfl,gI,bR,aK⟩
 refine WL.al (aX (sz:=1) (bytes:=1) rfl Tryz.underlying23 (show Tryz.prog.info? 5=some Tryz.t5 by kernel_rfl) rfl rfl rfl rfl (by decide) rfl rfl (w1.own.ext aK (fun _ _=>aQ)) (bG bR rfl) (by simp [Value.oneCell']) (by simp only [maxLen];omega) (by omega)) rfl rfl rfl ?_
 rintro v3 h3 ⟨ee,aS,x8⟩
 have Kv:Ext (fun q=>u.ownBlock=some q) h1 h3:=(aK.mono fun _ _ e=>e.elim).trans aS
 have bC:=Kv.obj w1.bB n1
 obtain ⟨A3,c3,rfl,_⟩:=ee.slice
 have s2:=aK.size
 refine WL.step (ah rfl) rfl rfl rfl (Go ?_);refine WL.az (aD Tryz.sizeOf23 rfl rfl bC (Nat.le_of_ble_eq_true rfl) rfl rfl) rfl rfl ?_
 rintro _ h4 ⟨bN,bh⟩
 refine Gn ?_
 refine fQ [] trivial ?_
 have im:∀ q,(Value.slice A3 ((fF (F.take k)).length+1) c3).ownBlock=some q→u.ownBlock=some q∨h1.size≤q:=fun q hq=>x8.elim (fun e=>.inl (e▸hq)) (fun e=>.inr (by rw [e] at hq;cases hq;omega))
 have e0:F.take k=F:=List.take_of_length_le (by omega)
 refine ⟨_,⟨bN,?_,⟨w1.lo.1,fun q hq=>(im q hq).elim (fun e=>w1.lo.2 q e) (fun e=>by have:=w1.ext.size;omega)⟩,(w1.ext.trans' Kv (fun q hq e=>by have:=w1.lo.2 q e;omega)).trans' bh (fun q hq e=>by have:=w1.lo.1;omega)⟩,(aB.trans' Kv (fun q hq e=>by have:=iO q e;omega)).trans bh⟩
 rw [e0] at ee ⊢
 rw [show (fF F++[(0:UInt8)]).length=(fF F).length+1 by simp,show bK (fF F++[0])=bK (fF F)++[Value.int .u8 0] by simp only [bK,List.map_append,List.map_cons,List.map_nil];rfl]
 exact ee.ext bh (fun q hq e=>by obtain ⟨_,z⟩:=bV ee hq;rw [e,bC] at z;simp at z)
theorem Jf {n:Int} (h : -32768≤n∧n≤65535):Rt n 2:=by
 unfold Rt
 rw [show (256:Int) ^ 2=65536 from rfl]
 omega
theorem rf {n:Int} (h : -2147483648≤n∧n≤4294967295):Rt n 4:=by
 unfold Rt
 rw [show (256:Int) ^ 4=4294967296 from rfl]
 omega
theorem Jg:Sz 2:=.inr (.inl rfl)
theorem D7:Sz 4:=.inr (.inr rfl)
theorem Bt {α:Type} {f:α→List UInt8} {n:Nat} (l:List α) (h:∀ x∈l,(f x).length≤n):(l.flatMap f).length≤l.length * n:=by
 induction l with
 | nil=>simp
 | cons a l ih =>
   have h1:=ih (fun x hx=>h x (by simp [hx]))
   have h2:=h a (by simp)
   simp only [List.flatMap_cons,List.length_append,List.length_cons,Nat.add_mul,Nat.one_mul]
   omega
theorem ma {α:Type} {f:α→List UInt8} {n:Nat} (l:List α) (k:Nat) (h:∀ x∈l,(f x).length≤n):((l.take k).flatMap f).length≤l.length * n :=
 Nat.le_trans (Bt _ fun x hx=>h x (List.mem_of_mem_take hx)) (Nat.mul_le_mul_right n (by rw [List.length_take];omega))
theorem jz {α:Type} {f:α→List UInt8} {l:List α} {k:Nat} {y:α} (hy:l[k]?=some y):(l.take (k+1)).flatMap f=(l.take k).flatMap f++f y:=by
 rw [List.take_add_one,hy,List.flatMap_append]
 simp
def ji (c:cI):List UInt8:=c.nm++[0]++be c.t 4++be c.a 2++be c.o 4++be c.s 2++be c.m 4++be c.f 2
def dV (c:bj):List UInt8:=if c.null then be 4294967295 4 else be c.bytes.length 4++c.bytes
theorem n9 {c:cI} (h:c.nm.length≤1000):(ji c).length≤1100:=by simp [ji,bA];omega
theorem oa {c:bj} (h:c.bytes.length≤1000):(dV c).length≤1100:=by unfold dV;split <;> simp [bA] <;> omega
def iK (h:aj) (b:Nat) (v:Value) (h':aj) (v':Value):Prop:=Ext (NI b v) h h'∧∀ q,v'.ownBlock=some q→v.ownBlock=some q∨h.size≤q
theorem iK.stay {h h':aj} {b:Nat} {v:Value} (x:Ext No h h'):iK h b v h' v:=⟨x.mono fun _ _ e=>e.elim,fun _ e=>.inl e⟩
theorem iK.trans {h h1 h2:aj} {b:Nat} {v v1 v2:Value} (a:iK h b v h1 v1) (c:iK h1 b v1 h2 v2):iK h b v h2 v2 :=
 ⟨a.1.trans' c.1 (fun q hq e=>e.elim .inl (fun e=>(a.2 q e).elim .inr (fun z=>absurd hq (by omega)))),fun q e=>(c.2 q e).elim (fun e=>a.2 q e) (fun z=>.inr (by have:=a.1.size;omega))⟩
section
variable {g h h':aj} {b:Nat} {v:Value} {l:List UInt8}
theorem Wr.obj (w:Wr g h b v l) (x:Ext (NI b v) h h') {q:Nat} {o:Array Value} {T:TypeId} {z:Nat × Nat} (hq:h[q]?=some (.cells o T z)) (hT:T ≠ 5) (ep:q ≠ b):h'[q]?=some (.cells o T z) :=
 x.obj hq (fun e=>e.elim ep (fun e=>by obtain ⟨_,k⟩:=bV w.own e;rw [hq] at k;simp only [Option.some.injEq,Obj.cells.injEq] at k;exact hT k.2.1))
theorem Bu (w:Wr g h b v l) (s:List UInt8) (hl:l.length+s.length≤1000000000):ai Tryz.prog 141 ⟨[.pointer (some ⟨b,0,none⟩),St s]⟩ h fun _ h'=>∃ v',Wr g h' b v' (l++s++[0])∧iK h b v h' v' :=
 (Bn w s hl).mono fun _ _ ⟨v',a,x,c⟩=>⟨v',a,x,c⟩
theorem fV (w:Wr g h b v l) (n:Int) (s:Nat) (hs:Sz s) (hr:Rt n s) (hl:l.length≤1000000000):ai Tryz.prog 140 ⟨[.pointer (some ⟨b,0,none⟩),In n,In s]⟩ h fun _ h'=>∃ v',Wr g h' b v' (l++be n s)∧iK h b v h' v':=by
 have FZ:=w.bB
 have j3:=ak FZ
 have ho:=w.own
 have lo:=w.lo
 have Ku:=w.ext
 have RN:=Ku.size
 obtain ⟨A0,c0,rfl,_⟩:=id ho.slice
 refine calls [(0,_),(1,_),(2,_)] Tryz.func140 rfl Tryz.ntmps140 rfl ⟨rfl,rfl,rfl,trivial⟩ ?_
 refine WC.region (Go ?_);refine WL.step (ah rfl) rfl rfl rfl (Go ?_);refine WL.ld rfl (by first | exact ab FZ rfl | assumption) rfl rfl rfl (Go ?_)
 refine WL.call (vs:=[_,_,_]) rfl Tryz.call164 rfl (FM l n s hs hr ho.rd (by omega)) rfl rfl rfl ?_
 rintro v1 h1 ⟨kE,aB,iO⟩
 obtain ⟨A1,c1,rfl,_⟩:=id kE.slice
 refine WL.step (ah rfl) rfl rfl rfl (Go ?_);refine WL.az (aD Tryz.sizeOf23 rfl rfl (aB.obj FZ aQ) (Nat.le_of_ble_eq_true rfl) rfl rfl) rfl rfl ?_
 rintro _ h4 ⟨bN,bh⟩
 refine Gn ?_
 refine fQ [] trivial ?_
 have aT:=aB.obj FZ aQ
 exact ⟨_,⟨bN,kE.ext bh (fun q hq e=>by obtain ⟨_,z⟩:=bV kE hq;rw [e,aT] at z;simp at z),⟨lo.1,fun q hq=>by have:=iO q hq;omega⟩,(Ku.trans aB).trans' bh (fun q hq e=>by have:=lo.1;omega)⟩,⟨(aB.mono fun _ _ e=>e.elim).trans (bh.mono fun q _ e=>.inl e),fun q hq=>.inr (iO q hq)⟩⟩
theorem Bv (w:Wr g h b v l) (c:cI) (hc:c.okB) (hn:c.nm.length≤1000) (hl:l.length≤900000000):ai Tryz.prog 143 ⟨[.pointer (some ⟨b,0,none⟩),.agg ⟨c.cells⟩]⟩ h fun _ h'=>∃ v',Wr g h' b v' (l++ji c)∧iK h b v h' v':=by
 obtain ⟨nm,t,a,o,s,m,f⟩:=c
 obtain ⟨c1,c2,c3,c4,c5,c6,c7⟩:=hc
 dsimp only at c2 c3 c4 c5 c6 c7 hn
 dsimp only [cI.cells]
 have j3:=ak w.bB
 refine calls [(0,_),(1,_)] Tryz.func143 rfl Tryz.ntmps143 rfl ⟨rfl,rfl,trivial⟩ ?_
 refine WC.sr ?_;refine WL.al (aI rfl) rfl rfl rfl ?_
 rintro _ h1 ⟨b1,rfl,b0,aT,aB⟩
 have w1:=w.stay aB
 have s1:iK h b v h1 v:=.stay aB
 have ep:b1 ≠ b:=by omega
 refine Gn ?_;refine G2 ?_;refine WL.ld rfl (by first | exact ab aT rfl | assumption) rfl rfl rfl ?_
 refine WL.call (vs:=[_,_]) rfl Tryz.call141 rfl (Bu w1 nm (by omega)) rfl rfl rfl ?_
 rintro _ h2 ⟨v2,w2,t2⟩
 have bR:=w1.obj t2.1 aT (by decide) ep
 have l2:(l++nm++[(0:UInt8)]).length=l.length+nm.length+1:=by simp [Nat.add_assoc]
 refine Gn ?_;refine Gs [(0,_),(3,_)] ?_;refine G2 ?_;refine WL.ld rfl (by first | exact ab bR rfl | assumption) rfl rfl rfl ?_
 refine WL.call (vs:=[_,_,_]) rfl Tryz.call140 rfl (fV w2 t 4 D7 (rf (by omega)) (by omega)) rfl rfl rfl ?_
 rintro _ h3 ⟨v3,w3,t3⟩
 have bC:=w2.obj t3.1 bR (by decide) ep
 refine Gn ?_;refine Gs [(0,_),(3,_)] ?_;refine G2 ?_;refine WL.ld rfl (by first | exact ab bC rfl | assumption) rfl rfl rfl ?_
 refine WL.call (vs:=[_,_,_]) rfl Tryz.call140 rfl (fV w3 a 2 Jg (Jf (by omega)) (by simp only [List.length_append,bA] at l2 ⊢;omega)) rfl rfl rfl ?_
 rintro _ h4 ⟨v4,w4,t4⟩
 have bN:=w3.obj t4.1 bC (by decide) ep
 refine Gn ?_;refine Gs [(0,_),(3,_)] ?_;refine G2 ?_;refine WL.ld rfl (by first | exact ab bN rfl | assumption) rfl rfl rfl ?_
 refine WL.call (vs:=[_,_,_]) rfl Tryz.call140 rfl (fV w4 o 4 D7 (rf (by omega)) (by simp only [List.length_append,bA] at l2 ⊢;omega)) rfl rfl rfl ?_
 rintro _ h5 ⟨v5,w5,t5⟩
 have cd:=w4.obj t5.1 bN (by decide) ep
 refine Gn ?_;refine Gs [(0,_),(3,_)] ?_;refine G2 ?_;refine WL.ld rfl (by first | exact ab cd rfl | assumption) rfl rfl rfl ?_
 refine WL.call (vs:=[_,_,_]) rfl Tryz.call140 rfl (fV w5 s 2 Jg (Jf (by omega)) (by simp only [List.length_append,bA] at l2 ⊢;omega)) rfl rfl rfl ?_
 rintro _ h6 ⟨v6,w6,t6⟩
 have cj:=w5.obj t6.1 cd (by decide) ep
 refine Gn ?_;refine Gs [(0,_),(3,_)] ?_;refine G2 ?_;refine WL.ld rfl (by first | exact ab cj rfl | assumption) rfl rfl rfl ?_
 refine WL.call (vs:=[_,_,_]) rfl Tryz.call140 rfl (fV w6 m 4 D7 (rf (by omega)) (by simp only [List.length_append,bA] at l2 ⊢;omega)) rfl rfl rfl ?_
 rintro _ h7 ⟨v7,w7,t7⟩
 have cq:=w6.obj t7.1 cj (by decide) ep
 refine Gn ?_;refine Gs [(0,_),(3,_)] ?_;refine WC.region (Go ?_);refine WL.ld rfl (by first | exact ab cq rfl | assumption) rfl rfl rfl ?_
 refine WL.call (vs:=[_,_,_]) rfl Tryz.call140 rfl (fV w7 f 2 Jg (Jf (by omega)) (by simp only [List.length_append,bA] at l2 ⊢;omega)) rfl rfl rfl ?_
 rintro _ h8 ⟨v8,w8,t8⟩
 refine Gn ?_
 refine fQ [] trivial ?_
 exact ⟨v8,by simpa [ji] using w8,((((((s1.trans t2).trans t3).trans t4).trans t5).trans t6).trans t7).trans t8⟩
theorem Kw (w:Wr g h b v l) {vr:Value} (R:List bj) (hR:cN g vr R) (hm:R.length≤100) (hc:∀ c∈R,c.bytes.length≤1000) (hl:l.length≤1000000) :
   ai Tryz.prog 142 ⟨[.pointer (some ⟨b,0,none⟩),vr]⟩ h fun _ h'=>∃ v',Wr g h' b v' (l++be R.length 2++R.flatMap dV)∧iK h b v h' v':=by
 obtain ⟨hr,⟨_,A,cc,rfl,_⟩,dJ⟩:=hR
 have oU:∀ k,((R.take k).flatMap dV).length≤110000:=fun k=>Nat.le_trans (ma R k fun x hx=>oa (hc x hx)) (by omega)
 refine calls [(0,_),(1,_)] Tryz.func142 rfl Tryz.ntmps142 rfl ⟨rfl,rfl,trivial⟩ ?_
 refine G2 ?_;refine WL.call (vs:=[_,_,_]) rfl Tryz.call140 rfl (fV w R.length 2 Jg (Jf (by omega)) (by omega)) rfl rfl rfl ?_
 rintro _ h1 ⟨v1,w1,t1⟩
 refine Gn ?_;refine Gs [(0,_),(1,_)] ?_;refine G2 ?_;refine WC.block ?_;refine WC.bO (X:=Nat × Value) (fun x=>([(12,In (x.1:Int))]:Fr)) [(0,_),(10,_),(11,_)] (fun y h'=>y.1≤R.length∧Wr g h' b y.2 (l++be R.length 2++(R.take y.1).flatMap dV)∧iK h b v h' y.2) (fun y=>R.length - y.1) ((0,v1)) ⟨rfl,rfl,rfl,rfl,trivial⟩ (by exact ⟨Nat.zero_le _,by simpa using w1,t1⟩) ?_
 rintro ⟨k,u⟩ h2 ⟨hk,w2,t2⟩
 dsimp only at hk w2 t2
 refine WC.sub [(12,_),(0,_),(10,_),(11,_)] ⟨rfl,rfl,rfl,rfl,trivial⟩ ?_
 dsimp only
 refine G2 ?_;refine WC.seq ?_
 refine aJ 1 2 (Hb.mk fun hb=>?_) (Hb.mk fun hb=>?_)
 aa try (
 refine ay 1 ?_
 refine WC.skip ?_
 skip)
 aa try (
 refine ay 2 ?_
 refine WC.exit ?_
 repeat' (ae first | refine aZ ?_ | refine aF rfl ?_ | refine aL ?_ | refine aN ?_ | refine aV ?_)
 refine Br.out (i:=1000) ?_
 skip)
 aa (refine Gn ?_;first | refine Br.ad ?_ | refine WC.seq ?_)
 aa (first | refine Br.ad ?_ | refine WC.block ?_)
 aa (first | refine Br.ad ?_ | refine WC.sr ?_)
 aa (
  first
    | (refine Br.ad ?_)
    | (obtain ⟨bL,oL,hA,gx,cX⟩:=Rd.at_ hr (by omega)
       obtain ⟨⟨yn,yv,yb⟩,hy⟩:∃ y,R[k]?=some y:=⟨_,List.getElem?_eq_getElem (by omega)⟩
       have qZ:=(dJ _ (List.mem_of_getElem? hy)).1
       have Kx:=hc _ (List.mem_of_getElem? hy)
       dsimp only at qZ Kx
       obtain ⟨yA,yc,rfl,_⟩:=id qZ
       have r8:At h2 bL (oL+k * 2) [.bool yn,.slice yA yb.length yc]:=At.elem bj.len (cX.ext w2.ext aQ) hy
       have jI:=oU k
       have lL:(l++be (R.length:Int) 2++(R.take k).flatMap dV).length≤2000000:=by simp only [List.length_append,bA];omega
       cases yn))
 aa (first | refine Br.ad ?_ | (refine WL.step (aG Tryz.underlying40 Tryz.sizeOf85 rfl rfl rfl (by omega) (by first | rfl | assumption)) rfl rfl rfl ?_))
 aa (first | refine Br.ad ?_ | (refine WL.step (aA Tryz.isAgg85 Tryz.sizeOf85 rfl rfl (by exact r8)) rfl rfl rfl ?_))
 aa (
  first
    | (refine Br.ad ?_)
    | (refine WL.al (au (fun w=>Tryz.zeroValue85 w)) rfl rfl rfl ?_
       rintro _ h3 ⟨b5,rfl,r6,cd,aS⟩))
 aa (
  first
    | (refine Br.ad ?_)
    | (refine WL.az (aq Tryz.sizeOf85 rfl rfl rfl cd rfl (by simp [Value.oneCell'])) rfl rfl ?_
       rintro _ h4 ⟨sX,bh⟩))
 aa (
  first
    | (refine Br.ad ?_)
    | (have pI:Ext No h2 h4:=aS.trans' bh (fun q hq e=>by omega)
       have w4:=w2.stay pI
       have t4:=t2.trans (.stay pI)
       have j3:=ak w2.bB
       have ep:b5 ≠ b:=by omega))
 aa (refine Gn ?_;first | refine Br.ad ?_ | refine WC.seq ?_)
 aa (first | refine Br.ad ?_ | refine WC.sr ?_)
 aa (refine Go ?_;first | refine Br.ad ?_ | (refine WL.ld rfl (by first | exact ab sX rfl | assumption) rfl rfl rfl ?_))
 aa (refine Gn ?_;first | refine Br.ad ?_ | refine Gs [(0,_),(5,_),(10,_),(11,_),(12,_),(17,_)] ?_)
 aa (first | refine Br.ad ?_ | refine aJ 3 4 ?_ TT.mk)
 aa try (
 refine ay 3 ?_
 refine G2 ?_;refine WL.call (vs:=[_,_,_]) rfl Tryz.call140 rfl (fV w4 4294967295 4 D7 (rf (by omega)) (by omega)) rfl rfl rfl ?_
 rintro _ h5 ⟨v5,w5,t5⟩
 have tE:=t4.trans t5
 have wE:Wr g h5 b v5 (l++be (R.length:Int) 2++(R.take (k+1)).flatMap dV):=by rw [jz hy,show dV ⟨true,.slice yA yb.length yc,yb⟩=be 4294967295 4 from rfl,← List.append_assoc];exact w5
 refine Gn ?_;refine Gs [(0,_),(10,_),(11,_),(12,_)] ?_;refine WC.exit ?_
 repeat' (ae first | refine aZ ?_ | refine aF rfl ?_ | refine aL ?_ | refine aN ?_ | refine aV ?_)
 refine Br.out (i:=1001) ?_
 skip)
 aa try (
 refine ay 4 ?_
 refine WC.skip ?_
 skip)
 aa (refine Gn ?_;first | refine Br.ad ?_ | refine WC.sr ?_)
 aa (refine Go ?_;first | refine Br.ad ?_ | (refine WL.ld rfl (by first | exact ab sX rfl | assumption) rfl rfl rfl ?_))
 aa (refine Go ?_)
 aa (
  first
    | (refine Br.ad ?_)
    | (refine WL.call (vs:=[_,_,_]) rfl Tryz.call140 rfl (fV w4 yb.length 4 D7 (rf (by omega)) (by omega)) rfl rfl rfl ?_
       rintro _ h5 ⟨v5,w5,t5⟩
       have Ky:=w4.obj t5.1 sX (by decide) ep
       have n5:=w5.ne
       have PX:¬ v5.ownBlock=some b5:=fun e=>by obtain ⟨_,z⟩:=bV w5.own e;rw [Ky] at z;simp at z
       have Dd:(l++be (R.length:Int) 2++(R.take k).flatMap dV++be (yb.length:Int) 4).length≤3000000:=by rw [List.length_append,bA];omega))
 aa (refine Gn ?_;first | refine Br.ad ?_ | refine Gs [(0,_),(5,_),(10,_),(11,_),(12,_)] ?_)
 aa (first | refine Br.ad ?_ | (refine WC.cg (fun h'=>Ext (fun q=>v5.ownBlock=some q) h5 h') 8 11 rfl dB ?_))
 aa (first | refine Br.ad ?_ | (refine WH.tk 0 rfl (fun hq hC=>an rfl) rfl rfl rfl ?_))
 aa (first | refine Br.ad ?_ | (refine WH.tk 1 rfl (fun hq hC=>an rfl) rfl rfl rfl ?_))
 aa (first | refine Br.ad ?_ | (refine WH.tk 2 rfl (fun hq hC=>ah rfl) rfl rfl rfl ?_))
 aa (first | refine Br.ad ?_ | (refine WH.tk 3 rfl (fun hq hC=>ag rfl Tryz.underlying207 rfl Tryz.sizeOf23) rfl rfl rfl ?_))
 aa (first | refine Br.ad ?_ | (refine WH.tk 4 rfl (fun hq hC=>aC Tryz.isAgg23 rfl (by first | exact hC.cell (by first | exact ab w5.bB rfl | assumption) (by first | exact n5 | exact PX))) rfl rfl rfl ?_))
 aa (first | refine Br.ad ?_ | (refine WH.tk 5 rfl (fun hq hC=>ag rfl Tryz.underlying85 rfl Tryz.sizeOf23) rfl rfl rfl ?_))
 aa (first | refine Br.ad ?_ | (refine WH.tk 6 rfl (fun hq hC=>aC Tryz.isAgg23 rfl (by first | exact hC.cell (by first | exact ab Ky rfl | assumption) (by first | exact n5 | exact PX))) rfl rfl rfl ?_))
 aa (first | refine Br.ad ?_ | (refine WH.one 7 (by kernel_rfl) ?_))
 aa (
  first
    | (refine Br.ad ?_)
    | (refine aE.run rfl (aX (sz:=1) (bytes:=1) rfl Tryz.underlying23 (show Tryz.prog.info? 5=some Tryz.t5 by kernel_rfl) rfl rfl rfl rfl (by decide) rfl rfl w5.own (qZ.av w5.ext) (by intro c hc;obtain ⟨b,_,rfl⟩:=List.mem_map.1 hc;rfl) (by simp only [maxLen];omega) (by omega)) rfl rfl rfl ?_ (fun _=>by kernel_rfl)
       rintro v8 h8 ⟨kC,bH,uX⟩
       obtain ⟨A8,c8,rfl,_⟩:=kC.slice))
 aa (first | refine Br.ad ?_ | (refine ⟨fun _=>bH,?_⟩))
 aa (first | refine Br.ad ?_ | (refine WH.one 8 (by kernel_rfl) ?_))
 aa (
  first
    | (refine Br.ad ?_)
    | (refine aE.run rfl (bW.r (ah rfl)) rfl rfl rfl ?_ (fun _=>by kernel_rfl)
       rintro _ hz ⟨rfl,_⟩
       subst hz))
 aa (first | refine Br.ad ?_ | (refine ⟨fun e=>(by cases e),?_⟩))
 aa (first | refine Br.ad ?_ | (refine WH.one 9 (by kernel_rfl) ?_))
 aa (
  first
    | (refine Br.ad ?_)
    | (refine aE.run rfl (bW.r (ag rfl Tryz.underlying207 rfl Tryz.sizeOf23)) rfl rfl rfl ?_ (fun _=>by kernel_rfl)
       rintro _ hz ⟨rfl,_⟩
       subst hz))
 aa (first | refine Br.ad ?_ | (refine ⟨fun e=>(by cases e),?_⟩))
 aa (first | refine Br.ad ?_ | (refine WH.one 10 (by kernel_rfl) ?_))
 aa (
  first
    | (refine Br.ad ?_)
    | (refine aE.cY rfl (aD Tryz.sizeOf23 rfl rfl (bH.obj w5.bB n5) (Nat.le_of_ble_eq_true rfl) rfl rfl) rfl rfl ?_ (fun _=>by kernel_rfl)
       rintro _ h9 ⟨ck,cl⟩
       have bP:=bH.obj w5.bB n5
       have sg:=w5.ext.size
       have f8:∀ q,(Value.slice A8 ((l++be (R.length:Int) 2++(R.take k).flatMap dV++be (yb.length:Int) 4).length+yb.length) c8).ownBlock=some q→v5.ownBlock=some q∨h5.size≤q:=fun q hq=>uX.elim (fun e=>.inl (e▸hq)) (fun e=>.inr (by rw [e] at hq;cases hq;exact Nat.le_refl _))
       have tE:=(t4.trans t5).trans ⟨(bH.mono fun q _ e=>.inr e).trans (cl.mono fun q _ e=>.inl e),f8⟩
       have wE:Wr g h9 b _ (l++be (R.length:Int) 2++(R.take (k+1)).flatMap dV):=⟨ck,by rw [jz hy,show dV ⟨false,.slice yA yb.length yc,yb⟩=be yb.length 4++yb from rfl,← List.append_assoc,← List.append_assoc,List.length_append (bs:=yb),show ∀ m:List UInt8,bK (m++yb)=bK m++bK yb from fun m=>List.map_append ..];exact kC.ext cl (fun q hq e=>by obtain ⟨_,z⟩:=bV kC hq;rw [e,bP] at z;simp at z),⟨w5.lo.1,fun q hq=>(f8 q hq).elim (fun e=>w5.lo.2 q e) (fun e=>by omega)⟩,(w5.ext.trans' bH (fun q hq e=>by have:=w5.lo.2 q e;omega)).trans' cl (fun q hq e=>by have:=w5.lo.1;omega)⟩))
 aa (first | refine Br.ad ?_ | (refine ⟨fun e=>(by cases e),?_⟩))
 aa (first | refine Br.ad ?_ | (refine WH.done (by kernel_rfl) ?_))
 aa (refine Gn ?_;try (refine Br.mk (i:=1001) ?_))
 aa (refine Gn ?_;first | refine Br.ad ?_ | refine WC.region ?_)
 aa (refine Go ?_;first | refine Br.ad ?_ | (exact ⟨(k+1,_),⟨rfl,rfl,rfl,rfl,trivial⟩,(by exact ⟨by omega,wE,tE⟩),(by simp;omega)⟩))
 try (refine Br.mk (i:=1000) ?_)
 refine Gn ?_
 refine fQ [] trivial ?_
 exact ⟨u,by rw [List.take_of_length_le (by omega)] at w2;exact w2,t2⟩
end
def eK (b:Bk):List UInt8 :=
 if b.kind=82 then be 0 4
 else if b.kind=83 then b.name++[0]++b.value++[0]
 else if b.kind=75 then be b.n 4++be b.m 4
 else if b.kind=90 then [UInt8.ofNat b.status.toNat]
 else if b.kind=67 then b.tag++[0]
 else if b.kind=68 then be b.row.length 2++b.row.flatMap dV
 else if b.kind=84 then be b.dt.length 2++b.dt.flatMap ji
 else if b.kind=116 then be b.aU.length 2++b.aU.flatMap fun n=>be n 4
 else if b.kind=69∨b.kind=78 then fF b.fields++[0]
 else []
theorem HA {h:aj} (b:Bk) (hb:b.ok h) (hw:b.wf) (Bg:b.Km) (mZ:b.may) (hk:b.kind=90∨b.kind=67∨b.kind=68∨b.kind=84∨b.kind=116∨b.kind=69∨b.kind=82∨b.kind=75∨b.kind=49∨b.kind=50∨b.kind=51∨b.kind=110∨b.kind=115∨b.kind=73) :
   ai Tryz.prog 98 ⟨[.agg ⟨b.cells⟩]⟩ h fun u h'=>∃ v',u=.tuple ⟨[.agg ⟨[.int .u8 b.kind,v']⟩,In 0]⟩∧Own h' v' 5 1 (eK b).length (bK (eK b))∧Ext No h h'∧∀ q,v'.ownBlock=some q→h.size≤q:=by
 have kc:=fun h' (hx:Ext No h h')=>mP b (hb.av hx) hw.kind Bg
 have Hw:=hw.status
 obtain ⟨ND,NF,Mj,Ml,Ks,Kt,Mm,NG,NH,Hy⟩:=Bg
 have PY:=mZ.dt.2
 have PZ:=mZ.aU.2
 have RQ:=mZ.n
 have RR:=mZ.m
 have hF:∀ f∈b.fields,f.t.length≤200000∧0≤f.k∧f.k≤255:=fun f hf=>⟨Mm f hf,hw.FX f hf⟩
 clear hw
 obtain ⟨ho,hc,hr,hf⟩:=hb
 generalize hE:eK b=E
 obtain ⟨k,st,t,n,v,x,y,vo,lo,vc,lc,vr,lr,vf,lf⟩:=b
 dsimp only at hk Hw ho hc hr hf ND NF Mj Ml Ks Kt Mm NG NH Hy PY PZ RQ RR hF ⊢
 have I3:=ho.1
 have P5:=hc.1
 have RS:=hr.1
 have RT:=hf.1
 obtain ⟨Ao,co,rfl,_⟩:=id I3
 obtain ⟨Ac,cc,rfl,_⟩:=id P5
 obtain ⟨Ar,cr,rfl,_⟩:=id RS
 obtain ⟨Af,cf,rfl,_⟩:=id RT
 dsimp only [Bk.cells] at kc ⊢
 rcases hk with rfl | rfl | rfl | rfl | rfl | rfl | rfl | rfl | rfl | rfl | rfl | rfl | rfl | rfl
 aa
   refine calls [(0,_)] Tryz.func98 rfl Tryz.ntmps98 rfl ⟨rfl,trivial⟩ ?_
   aa (refine WC.sr ?_;refine WL.al (aI rfl) rfl rfl rfl ?_;rintro _ h1 ⟨b1,rfl,b0,aT,aB⟩;refine WL.al (au (fun w=>Tryz.zeroValue53 w)) rfl rfl rfl ?_;rintro _ h2 ⟨b2,rfl,gI,bR,aK⟩;have iI:=aB.trans aK;have ca:=aK.obj aT aQ;refine Go ?_;refine WC.seq ?_;refine WC.sr ?_;refine WL.step (aA Tryz.isAgg140 Tryz.sizeOf140 rfl rfl (by exact At.ax ca)) rfl rfl rfl ?_;refine WL.call (vs:=[_]) rfl Tryz.call139 rfl (kc _ iI) rfl rfl rfl ?_;rintro _ h3 ⟨⟨e,rfl,he⟩,aS⟩;obtain rfl:=he.2 mZ;have cE:=aS.obj ca aQ;have na:=aS.obj bR aQ;have mV:=iI.trans aS;refine Go ?_;refine Gs [(1,_),(2,_),(4,_)] ?_;refine G2 ?_;refine aJ 1 2 ?_ TT.mk;refine ay 2 ?_;refine WC.skip ?_;refine Gn ?_;refine WC.sr ?_;refine WL.step (aH (vs:=[]) (cs:=[_]) (fun | []=>[(.slice none 0 0)] | _=>[]) rfl rfl (by kernel_rfl)) rfl rfl rfl ?_;refine WL.al (aI rfl) rfl rfl rfl ?_;rintro _ h4 ⟨b5,rfl,r6,cd,bh⟩;have bT:=bh.obj cE aQ;have l1:=ak cE;have l2:=ak na;have w4:Wr h3 h4 b5 kj []:=⟨cd,Own.nil _ _ _,⟨by omega,by simp [Value.ownBlock]⟩,bh⟩;refine Go ?_;refine Gs [(1,_),(2,_),(5,_)] ?_;refine G3 ?_;refine WL.ld rfl (by first | exact ab bT rfl | assumption) rfl rfl rfl ?_;first | (have RU:E=[]:=(by rw [← hE];rfl);rename aj=>h6) | skip)
   aa (refine Gn ?_;refine WC.block ?_;refine G2 ?_;refine aJ 3 4 ?_ TT.mk)
   aa try (
   refine ay 3 ?_
   aa (refine WC.region (Go ?_);refine WL.call (vs:=[_,_,_]) rfl Tryz.call140 rfl (fV w4 0 4 D7 (rf (by omega)) (by decide)) rfl rfl rfl ?_;rintro _ h6 ⟨v6,D8,t6⟩;(have wE:Wr h3 h6 b5 v6 E:=by rw [← hE];simpa [eK] using D8);refine Gn ?_)
   skip)
   aa try (
   refine ay 4 ?_
   aa (refine G2 ?_;refine Gs [(1,_),(2,_),(5,_),(19,_),(24,_)] ?_;refine aJ 5 6 ?_ TT.mk;refine ay 6 ?_;refine G2 ?_;refine aJ 7 8 ?_ TT.mk)
   aa try (
   refine ay 7 ?_
   aa (refine G2 ?_;refine WL.ld rfl (by first | exact ab bT rfl | assumption) rfl rfl rfl ?_;refine WL.call (vs:=[_,_,_]) rfl Tryz.call140 rfl (fV w4 x 4 D7 (rf (by omega)) (by decide)) rfl rfl rfl ?_;rintro _ h5 ⟨v5,w5,t5⟩;have du:=w5.ext.obj cE aQ;refine Gn ?_;refine Gs [(1,_),(2,_),(5,_)] ?_;refine WC.region (Go ?_);refine WL.ld rfl (by first | exact ab du rfl | assumption) rfl rfl rfl ?_;refine WL.call (vs:=[_,_,_]) rfl Tryz.call140 rfl (fV w5 y 4 D7 (rf (by omega)) (by simp only [List.length_append,bA,List.length_nil];omega)) rfl rfl rfl ?_;rintro _ h6 ⟨v6,D8,t6⟩;(have wE:Wr h3 h6 b5 v6 E:=by rw [← hE];simpa [eK] using D8);refine Gn ?_)
   skip)
   aa try (
   refine ay 8 ?_
   aa (refine G2 ?_;refine Gs [(1,_),(2,_),(5,_),(19,_),(44,_)] ?_;refine aJ 9 10 ?_ TT.mk)
   aa try (
   refine ay 9 ?_
   aa (refine WC.region (Go ?_);refine WL.ld rfl (by first | exact ab bT rfl | assumption) rfl rfl rfl ?_;refine WL.al (aw (vs:=[_]) (cs:=[_]) (fun | [a0]=>[a0] | _=>[]) Tryz.underlying23 rfl rfl (by kernel_rfl)) rfl rfl rfl ?_;rintro _ h5 ⟨b6,rfl,r5,cj,aO⟩;refine WL.step (ah rfl) rfl rfl rfl (Go ?_);refine WL.az (aD Tryz.sizeOf23 rfl rfl (aO.obj w4.bB aQ) (Nat.le_of_ble_eq_true rfl) rfl rfl) rfl rfl ?_;rintro _ h6 ⟨HB,aP⟩)
   aa (
    have UA:=ak w4.bB
    have NM:=aP.obj cj (fun e=>by omega)
    have w6:Wr h3 h6 b5 _ ([UInt8.ofNat st.toNat]):=⟨HB,dR (by show h6[b6]?=some (.cells ⟨bK [UInt8.ofNat st.toNat]⟩ 5 (0,0));rw [show bK [UInt8.ofNat st.toNat]=[.int .u8 st] by simp only [bK,List.map_cons,List.map_nil];exact congrArg (fun z=>[z]) (NJ Hw.1 Hw.2)];exact NM) rfl (by decide),⟨w4.lo.1,fun q hq=>by have:b6=q:=(by simpa [Value.ownBlock] using hq);have:=bh.size;omega⟩,(w4.ext.trans aO).trans' aP (fun q hq e=>by have:=w4.lo.1;omega)⟩
    rw [show [UInt8.ofNat st.toNat]=E by rw [← hE];simp [eK]] at w6
    have wE:=w6)
   aa (refine Gn ?_)
   skip)
   aa try (
   refine ay 10 ?_
   aa (refine G2 ?_;refine aJ 11 12 ?_ TT.mk)
   aa try (
   refine ay 11 ?_
   aa (refine WC.region (Go ?_);refine WL.ld rfl (by first | exact ab bT rfl | assumption) rfl rfl rfl ?_;refine WL.call (vs:=[_,_]) rfl Tryz.call141 rfl (Bu w4 t (by simp only [List.length_nil];omega)) rfl rfl rfl ?_;rintro _ h6 ⟨v6,D8,t6⟩;(have wE:Wr h3 h6 b5 v6 E:=by rw [← hE];simpa [eK] using D8);refine Gn ?_)
   skip)
   aa try (
   refine ay 12 ?_
   aa (refine G2 ?_;refine Gs [(1,_),(2,_),(5,_),(19,_),(58,_)] ?_;refine aJ 13 14 ?_ TT.mk)
   aa try (
   refine ay 13 ?_
   aa (refine WC.region (Go ?_);refine WL.ld rfl (by first | exact ab bT rfl | assumption) rfl rfl rfl ?_;refine WL.call (vs:=[_,_]) rfl Tryz.call142 rfl (Kw w4 lr (hr.av mV) Mj Kt (by decide)) rfl rfl rfl ?_;rintro _ h6 ⟨v6,D8,t6⟩;(have wE:Wr h3 h6 b5 v6 E:=by rw [← hE];simpa [eK] using D8);refine Gn ?_)
   skip)
   aa try (
   refine ay 14 ?_
   aa (refine G2 ?_;refine aJ 15 16 ?_ TT.mk)
   aa try (
   refine ay 15 ?_
   aa (refine G2 ?_;refine WL.ld rfl (by first | exact ab bT rfl | assumption) rfl rfl rfl (Go ?_);refine WL.call (vs:=[_,_,_]) rfl Tryz.call140 rfl (fV w4 (lc.length:Int) 2 Jg (Jf (by omega)) (by decide)) rfl rfl rfl ?_;rintro _ h5 ⟨v5,w5,t5⟩;have du:=w5.ext.obj cE aQ;refine Gn ?_;refine Gs [(1,_),(2,_),(5,_)] ?_;refine G2 ?_;refine WL.ld rfl (by first | exact ab du rfl | assumption) rfl rfl rfl ?_;(have oU:∀ j,((lc.take j).flatMap ji).length≤110000:=fun j=>Nat.le_trans (ma lc j fun x hx=>n9 (Ks x hx)) (by omega));refine Go ?_;refine WC.block ?_)
   aa (refine WC.bO (X:=Nat × Value) (fun x=>([(74,In (x.1:Int))]:Fr)) [(1,_),(2,_),(5,_),(72,_),(73,_)] (fun y h'=>y.1≤lc.length∧Wr h3 h' b5 y.2 (be (lc.length:Int) 2++(lc.take y.1).flatMap ji)) (fun y=>lc.length - y.1) ((0,v5)) ⟨rfl,rfl,rfl,rfl,rfl,rfl,trivial⟩ (by exact ⟨Nat.zero_le _,by simpa using w5⟩) ?_;rintro ⟨j,v6⟩ h6 ⟨hj,w6⟩;dsimp only at hj w6)
   aa (refine WC.sub [(74,_),(1,_),(2,_),(5,_),(72,_),(73,_)] ⟨rfl,rfl,rfl,rfl,rfl,rfl,trivial⟩ ?_;dsimp only)
   aa (refine G2 ?_;refine WC.seq ?_;refine aJ 17 18 (Hb.mk fun hb=>?_) (Hb.mk fun hb=>?_))
   aa try (
   refine ay 17 ?_
   aa (refine WC.skip ?_)
   skip)
   aa try (
   refine ay 18 ?_
   aa (refine WC.exit ?_;repeat' (ae first | refine aZ ?_ | refine aF rfl ?_ | refine aL ?_ | refine aN ?_ | refine aV ?_))
   aa (refine Br.out (i:=1001) ?_)
   skip)
   aa (refine Gn ?_;first | refine Br.ad ?_ | refine WC.seq ?_)
   aa (first | refine Br.ad ?_ | refine WC.block ?_)
   aa (first | refine Br.ad ?_ | refine WC.sr ?_)
   aa (
    first
      | (refine Br.ad ?_)
      | (obtain ⟨bL,oL,hA,gx,cX⟩:=Rd.at_ (P5.av mV) (by omega)
         obtain ⟨yy,hy⟩:∃ y,lc[j]?=some y:=⟨_,List.getElem?_eq_getElem (by omega)⟩
         have Mo:=Ks _ (List.mem_of_getElem? hy)
         have Kx:=PY _ (List.mem_of_getElem? hy)
         have r8:At h6 bL (oL+j * 7) yy.cells:=At.elem cI.len (cX.ext w6.ext aQ) hy
         have P7:=oU j))
   aa (first | refine Br.ad ?_ | (refine WL.step (aG Tryz.underlying137 Tryz.sizeOf212 rfl rfl rfl (by omega) (by first | rfl | assumption)) rfl rfl rfl ?_))
   aa (first | refine Br.ad ?_ | (refine WL.step (aA Tryz.isAgg212 Tryz.sizeOf212 rfl rfl (by exact r8)) rfl rfl rfl ?_))
   aa (
    first
      | (refine Br.ad ?_)
      | (refine WL.al (au (fun w=>Tryz.zeroValue212 w)) rfl rfl rfl ?_
         rintro _ h7 ⟨b7,rfl,zu,cq,bu⟩))
   aa (
    first
      | (refine Br.ad ?_)
      | (refine WL.az (aq Tryz.sizeOf212 rfl rfl rfl cq rfl (by simp [cI.cells,Value.oneCell'])) rfl rfl ?_
         rintro _ h8 ⟨bP,bH⟩))
   aa (first | refine Br.ad ?_ | (have mJ:Ext No h6 h8:=bu.trans' bH (fun q hq e=>by omega)))
   aa (refine Gn ?_;first | refine Br.ad ?_ | refine WC.region ?_)
   aa (refine Go ?_;first | refine Br.ad ?_ | (refine WL.step (aA Tryz.isAgg212 Tryz.sizeOf212 rfl rfl (by exact At.ax bP)) rfl rfl rfl ?_))
   aa (
    first
      | (refine Br.ad ?_)
      | (refine WL.call (vs:=[_,_]) rfl Tryz.call143 rfl (Bv (w6.stay mJ) yy Kx Mo (by simp only [List.length_append,bA];omega)) rfl rfl rfl ?_
         rintro _ h9 ⟨v9,w9,t9⟩))
   aa (refine Gn ?_;first | refine Br.ad ?_ | refine Gs [(1,_),(2,_),(5,_),(72,_),(73,_),(74,_)] ?_)
   aa (first | refine Br.ad ?_ | refine WC.region ?_)
   aa (refine Go ?_;first | refine Br.ad ?_ | (exact ⟨(j+1,_),⟨rfl,rfl,rfl,rfl,rfl,rfl,trivial⟩,(by exact ⟨by omega,by rw [jz hy,← List.append_assoc];exact w9⟩),(by simp;omega)⟩))
   aa (try (refine Br.mk (i:=1001) ?_))
   skip)
   aa try (
   refine ay 16 ?_
   aa (refine G2 ?_;refine Gs [(1,_),(2,_),(5,_),(19,_),(82,_)] ?_;refine aJ 19 20 ?_ TT.mk)
   aa try (
   refine ay 19 ?_
   aa (refine G2 ?_;refine WL.ld rfl (by first | exact ab bT rfl | assumption) rfl rfl rfl (Go ?_);refine WL.call (vs:=[_,_,_]) rfl Tryz.call140 rfl (fV w4 (lo.length:Int) 2 Jg (Jf (by omega)) (by decide)) rfl rfl rfl ?_;rintro _ h5 ⟨v5,w5,t5⟩;have du:=w5.ext.obj cE aQ;refine Gn ?_;refine Gs [(1,_),(2,_),(5,_)] ?_;refine G2 ?_;refine WL.ld rfl (by first | exact ab du rfl | assumption) rfl rfl rfl ?_;(have oU:∀ j,((lo.take j).flatMap fun n=>be n 4).length≤1000:=fun j=>Nat.le_trans (ma (n:=4) lo j fun x hx=>by rw [bA];omega) (by omega));refine Go ?_;refine WC.block ?_)
   aa (refine WC.bO (X:=Nat × Value) (fun x=>([(92,In (x.1:Int))]:Fr)) [(1,_),(2,_),(5,_),(90,_),(91,_)] (fun y h'=>y.1≤lo.length∧Wr h3 h' b5 y.2 (be (lo.length:Int) 2++(lo.take y.1).flatMap fun n=>be n 4)) (fun y=>lo.length - y.1) ((0,v5)) ⟨rfl,rfl,rfl,rfl,rfl,rfl,trivial⟩ (by exact ⟨Nat.zero_le _,by simpa using w5⟩) ?_;rintro ⟨j,v6⟩ h6 ⟨hj,w6⟩;dsimp only at hj w6)
   aa (refine WC.sub [(92,_),(1,_),(2,_),(5,_),(90,_),(91,_)] ⟨rfl,rfl,rfl,rfl,rfl,rfl,trivial⟩ ?_;dsimp only)
   aa (refine G2 ?_;refine WC.seq ?_;refine aJ 21 22 (Hb.mk fun hb=>?_) (Hb.mk fun hb=>?_))
   aa try (
   refine ay 21 ?_
   aa (refine WC.skip ?_)
   skip)
   aa try (
   refine ay 22 ?_
   aa (refine WC.exit ?_;repeat' (ae first | refine aZ ?_ | refine aF rfl ?_ | refine aL ?_ | refine aN ?_ | refine aV ?_))
   aa (refine Br.out (i:=1003) ?_)
   skip)
   aa (refine Gn ?_;first | refine Br.ad ?_ | refine WC.seq ?_)
   aa (first | refine Br.ad ?_ | refine WC.block ?_)
   aa (first | refine Br.ad ?_ | refine WC.sr ?_)
   aa (
    first
      | (refine Br.ad ?_)
      | (obtain ⟨bL,oL,hA,gx,cX⟩:=Rd.at_ (I3.av mV) (by omega)
         obtain ⟨yy,hy⟩:∃ y,lo[j]?=some y:=⟨_,List.getElem?_eq_getElem (by omega)⟩
         have qZ:=PZ _ (List.mem_of_getElem? hy)
         have r8:cell h6 ⟨bL,oL+j * 1,none⟩=some (In yy):=(cX.ext w6.ext aQ).get j (iq hy) (by omega)
         have P7:=oU j))
   aa (first | refine Br.ad ?_ | (refine WL.step (aG Tryz.underlying39 Tryz.sizeOf3 rfl rfl rfl (by omega) (by first | rfl | assumption)) rfl rfl rfl ?_))
   aa (first | refine Br.ad ?_ | (refine WL.ld rfl (by first | exact r8 | assumption) rfl rfl rfl ?_))
   aa (refine Go ?_;first | refine Br.ad ?_ | refine WC.region ?_)
   aa (refine Go ?_)
   aa (
    first
      | (refine Br.ad ?_)
      | (refine WL.call (vs:=[_,_,_]) rfl Tryz.call140 rfl (fV w6 yy 4 D7 (rf (by omega)) (by simp only [List.length_append,bA];omega)) rfl rfl rfl ?_
         rintro _ h9 ⟨v9,w9,t9⟩))
   aa (refine Gn ?_;first | refine Br.ad ?_ | refine Gs [(1,_),(2,_),(5,_),(90,_),(91,_),(92,_)] ?_)
   aa (first | refine Br.ad ?_ | refine WC.region ?_)
   aa (refine Go ?_;first | refine Br.ad ?_ | (exact ⟨(j+1,_),⟨rfl,rfl,rfl,rfl,rfl,rfl,trivial⟩,(by exact ⟨by omega,by rw [jz hy,← List.append_assoc];exact w9⟩),(by simp;omega)⟩))
   aa (try (refine Br.mk (i:=1003) ?_))
   skip)
   aa try (
   refine ay 20 ?_
   aa (refine G3 ?_;refine aJ 23 24 ?_ TT.mk)
   aa try (
   refine ay 23 ?_
   aa (refine WC.skip ?_)
   skip)
   aa try (
   refine ay 24 ?_
   aa (refine WC.region (Go ?_))
   skip)
   aa (refine Gn ?_;refine aJ 25 26 ?_ TT.mk)
   aa try (
   refine ay 25 ?_
   aa (refine WC.region (Go ?_);refine WL.ld rfl (by first | exact ab bT rfl | assumption) rfl rfl rfl ?_;refine WL.call (vs:=[_,_]) rfl Tryz.call144 rfl (Bq lf w4 (hf.1.av mV) hF Ml) rfl rfl rfl ?_;rintro _ h6 ⟨v6,D8,t6⟩;(have wE:Wr h3 h6 b5 v6 E:=by rw [← hE];simpa [eK] using D8);refine Gn ?_)
   skip)
   aa try (
   refine ay 26 ?_
   aa (refine WC.skip ?_)
   skip)
   skip)
   skip)
   skip)
   skip)
   skip)
   skip)
   skip)
   aa (refine Gn ?_;refine WC.seq ?_;refine WC.cg (fun h'=>Ext No h6 h') 7 9 rfl dB ?_)
   aa (
    first
     | (have:=wE;clear this)
     | (rw [List.take_of_length_le (by omega)] at w6
        have wE:Wr h3 h6 b5 v6 E:=by rw [← hE];simpa [eK] using w6)
     | (have wE:Wr h3 h6 b5 kj E:=by rw [RU];exact w4)
    have dK:=wE.ext.obj cE aQ
    have lS:=wE.ext.obj na aQ
    have HC:=wE.own
    obtain ⟨A6,c6,e6,_⟩:=HC.slice
    rw [e6] at wE HC)
   aa (refine WH.tk 0 rfl (fun hq hC=>ag rfl Tryz.underlying140 rfl Tryz.sizeOf5) rfl rfl rfl ?_;refine WH.tk 1 rfl (fun hq hC=>aC Tryz.isAgg5 rfl (by first | exact hC.cell (by first | exact ab dK rfl | assumption) aQ)) rfl rfl rfl ?_;refine WH.tk 2 rfl (fun hq hC=>an rfl) rfl rfl rfl ?_;refine WH.tk 3 rfl (fun hq hC=>ah rfl) rfl rfl rfl ?_;refine WH.tk 4 rfl (fun hq hC=>ag rfl Tryz.underlying207 rfl Tryz.sizeOf23) rfl rfl rfl ?_;refine WH.tk 5 rfl (fun hq hC=>aC Tryz.isAgg23 rfl (by first | exact hC.cell (by first | exact ab wE.bB rfl | assumption) aQ)) rfl rfl rfl ?_;refine WH.tk 6 rfl (fun hq hC=>aH (vs:=[_,_]) (cs:=[_,_]) (fun | [a0,a1]=>[a0,a1] | _=>[]) rfl rfl (by kernel_rfl)) rfl rfl rfl ?_;refine WH.one 7 (by kernel_rfl) ?_;refine aE.cY rfl (aq Tryz.sizeOf53 rfl rfl rfl lS rfl (by simp [Value.oneCell'])) rfl rfl ?_ (fun _=>by kernel_rfl);rintro _ h7 ⟨cq,bu⟩;refine ⟨fun e=>(by cases e),?_⟩;refine WH.one 8 (by kernel_rfl) ?_;refine aE.run rfl (bW.r (aR rfl)) rfl rfl rfl ?_ (fun _=>by kernel_rfl);rintro _ hz ⟨rfl,_⟩;subst hz;refine ⟨fun e=>(by cases e),?_⟩;refine WH.done (by kernel_rfl) ?_;refine Gn ?_;refine Gs [(2,_),(3,_)] ?_;refine WC.ret ?_;repeat' (ae first | refine bq ?_ | refine ba ?_))
   aa (refine di _ _ ⟨⟨_,rfl,bJ Tryz.isAgg53 Tryz.sizeOf53 cq rfl⟩,rfl,trivial⟩ ?_;exact ⟨_,rfl,HC.ext bu (fun q hq e=>by obtain ⟨_,z⟩:=bV HC hq;rw [e,lS] at z;simp at z),(mV.trans wE.ext).trans' bu (fun q hq e=>by have:=aB.size;omega),fun q hq=>by have:=wE.lo.2 q hq;have:=mV.size;omega⟩)
theorem Bw {h:aj} (b:Bk) (hb:b.ok h) (hw:0≤b.kind∧b.kind≤255) (Bg:b.Km) (mZ:¬ b.may) :
   ai Tryz.prog 98 ⟨[.agg ⟨b.cells⟩]⟩ h fun u h'=>∃ e:Int,e ≠ 0∧u=.tuple ⟨[.agg ⟨[.int .u8 0,kj]⟩,In e]⟩∧Ext No h h':=by
 have kc:=fun h' (hx:Ext No h h')=>mP b (hb.av hx) hw Bg
 have UB:Ext No h h:=.refl _ _
 clear Bg
 obtain ⟨ho,hc,hr,hf⟩:=hb
 obtain ⟨k,st,t,n,v,x,y,vo,lo,vc,lc,vr,lr,vf,lf⟩:=b
 dsimp only at ho hc hr hf
 obtain ⟨Ao,co,rfl,_⟩:=id ho.1
 obtain ⟨Ac,cc,rfl,_⟩:=id hc.1
 obtain ⟨Ar,cr,rfl,_⟩:=id hr.1
 obtain ⟨Af,cf,rfl,_⟩:=id hf.1
 dsimp only [Bk.cells] at kc ⊢
 refine calls [(0,_)] Tryz.func98 rfl Tryz.ntmps98 rfl ⟨rfl,trivial⟩ ?_
 refine WC.sr ?_;refine WL.al (aI rfl) rfl rfl rfl ?_
 rintro _ h1 ⟨b1,rfl,b0,aT,aB⟩
 refine WL.al (au (fun w=>Tryz.zeroValue53 w)) rfl rfl rfl ?_
 rintro _ h2 ⟨b2,rfl,gI,bR,aK⟩
 have iI:=aB.trans aK
 have ca:=aK.obj aT aQ
 refine Go ?_;refine WC.seq ?_;refine WC.sr ?_;refine WL.step (aA Tryz.isAgg140 Tryz.sizeOf140 rfl rfl (by exact At.ax ca)) rfl rfl rfl ?_
 refine WL.call (vs:=[_]) rfl Tryz.call139 rfl (kc _ iI) rfl rfl rfl ?_
 rintro _ h3 ⟨⟨e,rfl,he⟩,aS⟩
 have ep:e ≠ 0:=fun z=>mZ (he.1 z)
 have na:=aS.obj bR aQ
 have mV:=iI.trans aS
 refine Go ?_;refine Gs [(1,_),(2,_),(4,_)] ?_;refine G2 ?_
 refine aJ 1 2 ?_ TT.mk
 aa (refine ay 1 ?_)
 refine WC.sr ?_;refine WL.step (aH (vs:=[]) (cs:=[_,_]) (fun | []=>[(.int .u8 0),(.slice none 0 0)] | _=>[]) rfl rfl (by kernel_rfl)) rfl rfl rfl (Go ?_)
 refine WL.az (aq Tryz.sizeOf53 rfl rfl rfl na rfl (by simp [Value.oneCell'])) rfl rfl ?_
 rintro _ h4 ⟨bN,bh⟩
 refine Go ?_;refine Gs [(2,_),(3,_)] ?_;refine WC.ret ?_
 repeat' (ae first | refine bq ?_ | refine ba ?_)
 refine di _ _ ⟨⟨_,rfl,bJ Tryz.isAgg53 Tryz.sizeOf53 bN rfl⟩,rfl,trivial⟩ ?_
 exact ⟨_,ep,rfl,mV.trans' bh (fun q hq e=>by have:=aB.size;omega)⟩
end Go.Proofs.YtopgddfgefnmbaaGreatDoor
namespace Go.RK
open Go
section
variable {P:Program} {f:Fr} {h:aj} {d:Option Tmp} {ty:TypeId} {pos:String} {af:Array Edge} {g:Option (Nat × Bool)}
theorem fW {x:Operand} {t:TypeId} {v:Value} (hu:∃ u,P.underlying t=some u∧∀ ms,u ≠ .interface ms) (hx:f.ev x=some v):bW P f ⟨d,.makeInterface t x,ty,pos,af,g⟩ h (.iface t v):=fun ρ w ha _=>by
 obtain ⟨u,h1,h2⟩:=hu
 have key:(Instr.makeInterface t v).run P w=.ok (.iface t v) w:=by
   simp only [Instr.makeInterface,Sem.run_bind,run_underlying h1,Result.andThen_ok]
   cases u <;> first | rfl | exact absurd rfl (h2 _)
 simp [execOp,ha _ _ hx,key]
theorem Bx {t t2 u:TypeId} {x y:Operand} {v:Value} (hu:P.underlying t=some (.interface (P.methodsAt t))) (hx:f.ev x=some (.iface u v)) (hy:f.ev y=some .nilIface):bW P f ⟨d,.binOp .eql t x y t2,ty,pos,af,g⟩ h (.bool false):=fun ρ w ha _=>by
 simp [execOp,ha _ _ hx,ha _ _ hy,eqGuard_at_iface,run_eql_held_nil w t u v hu]
theorem fX {t t2 u:TypeId} {x y:Operand} {v:Value} (hu:P.underlying t=some (.interface (P.methodsAt t))) (hx:f.ev x=some (.iface u v)) (hy:f.ev y=some .nilIface):bW P f ⟨d,.binOp .neq t x y t2,ty,pos,af,g⟩ h (.bool true):=fun ρ w ha _=>by
 simp [execOp,ha _ _ hx,ha _ _ hy,eqGuard_at_iface,run_neq_held_nil w t u v hu]
theorem tv {t t2:TypeId} {x:Operand} {c:Value} (hu:P.underlying t=some (.interface (P.methodsAt t))) (hx:f.ev x=some .nilIface) (hy:f.ev (.const c)=some .nilIface):bW P f ⟨d,.binOp .eql t x (.const c) t2,ty,pos,af,g⟩ h (.bool true):=fun ρ w ha _=>by
 have:=ha _ _ hy
 simp [execOp,ha _ _ hx,this,eqGuard_nil_constR,run_eql_nil_nil w t hu]
theorem cU {t t2:TypeId} {x:Operand} {c:Value} (hu:P.underlying t=some (.interface (P.methodsAt t))) (hx:f.ev x=some .nilIface) (hy:f.ev (.const c)=some .nilIface):bW P f ⟨d,.binOp .neq t x (.const c) t2,ty,pos,af,g⟩ h (.bool false):=fun ρ w ha _=>by
 have:=ha _ _ hy
 simp [execOp,ha _ _ hx,this,eqGuard_nil_constR,run_neq_nil_nil w t hu]
end
end Go.RK
namespace Go.Proofs.YtopgddfgefnmbaaGreatDoor
open Go Go.RK
abbrev rh:List UInt8:=([98,101,103,105,110]:List UInt8)
theorem Bz {h:aj} (y:UInt8) (s:List UInt8) (c:Int) (hy:(y.toNat:Int) ≠ c) (hm:s.length≤1000000):ai Tryz.prog 280 ⟨[St (y :: s),.int .u8 c]⟩ h fun u h'=>u=St (y :: s)∧h'=h:=by
 have e0:(y :: s)[0]?=some y:=rfl
 refine calls [(0,_),(1,_)] Tryz.func280 rfl Tryz.ntmps280 rfl ⟨rfl,rfl,trivial⟩ ?_
 refine G2 ?_;refine WC.seq ?_;refine WC.block ?_;refine WC.bO (X:=Unit) (fun x=>([(0,St (y :: s))]:Fr)) [(1,_)] (fun _ h'=>h'=h) (fun _=>0) (()) ⟨rfl,rfl,trivial⟩ (by exact rfl) ?_
 rintro _ h1 hz
 subst hz
 refine WC.sub [(0,_),(1,_)] ⟨rfl,rfl,trivial⟩ ?_;refine G3 ?_
 refine bU 8 (Hb.mk fun hb=>?_) (Hb.mk fun hb=>?_)
 aa (refine Gg ?_;first | refine WL.pass rfl rfl rfl ?_ | (refine WL.step (da Tryz.underlying9 rfl rfl (by omega) e0) rfl rfl rfl ?_))
 aa (refine Gg ?_;refine Go ?_;refine Gs [(0,_),(1,_),(13,_)] ?_;refine aJ 1 2 ?_ TT.mk;refine ay 2 ?_;refine WC.exit ?_;repeat' (ae first | refine aZ ?_ | refine aF rfl ?_ | refine aL ?_ | refine aN ?_ | refine aV ?_))
 aa (refine Br.out (i:=1000) ?_;refine Gn ?_;refine Br.ad ?_;refine Br.ad ?_;refine Go ?_;refine Br.ad ?_;refine Go ?_;refine Br.ad ?_;try (refine Br.mk (i:=1000) ?_))
 aa (refine Gn ?_;refine G2 ?_;refine Gs [(4,_)] ?_;refine Gt ?_;first | exact ⟨rfl,rfl⟩ | (exfalso;simp at *;omega))
theorem BA {h:aj} (y:UInt8) (s:List UInt8) (c:Int) (hy:(y.toNat:Int) ≠ c) (hm:s.length≤1000000):ai Tryz.prog 281 ⟨[St (s++[y]),.int .u8 c]⟩ h fun u h'=>u=St (s++[y])∧h'=h:=by
 have e0:(s++[y])[s.length]?=some y:=by simp
 have el:(s++[y]).length=s.length+1:=by simp
 generalize s++[y]=t at *
 refine calls [(0,_),(1,_)] Tryz.func281 rfl Tryz.ntmps281 rfl ⟨rfl,rfl,trivial⟩ ?_
 refine G2 ?_;refine WC.seq ?_;refine WC.block ?_;refine WC.bO (X:=Unit) (fun x=>([(0,St t)]:Fr)) [(1,_)] (fun _ h'=>h'=h) (fun _=>0) (()) ⟨rfl,rfl,trivial⟩ (by exact rfl) ?_
 rintro _ h1 hz
 subst hz
 refine WC.sub [(0,_),(1,_)] ⟨rfl,rfl,trivial⟩ ?_;refine G3 ?_
 refine bU 8 ?_ TT.mk
 refine WL.step (an rfl) rfl rfl rfl ?_;refine WL.step (an rfl) rfl rfl rfl ?_;refine WL.step (kN rfl Tryz.underlying9 rfl) rfl rfl rfl ?_;refine WL.step (fz rfl rfl (by omega)) rfl rfl rfl ?_
 rw [show ((t.length:Int) - 1)=((s.length:Nat):Int) by omega]
 refine WL.step (da Tryz.underlying9 rfl rfl (by omega) e0) rfl rfl rfl ?_
 refine Gg ?_;refine Go ?_;refine Gs [(0,_),(1,_),(16,_)] ?_
 refine aJ 1 2 ?_ TT.mk
 aa (refine ay 2 ?_)
 refine WC.exit ?_
 repeat' (ae first | refine aZ ?_ | refine aF rfl ?_ | refine aL ?_ | refine aN ?_ | refine aV ?_)
 refine Br.out (i:=1000) ?_;refine Gn ?_;refine Br.ad ?_;refine Br.ad ?_;refine Go ?_;refine Br.ad ?_;refine Go ?_;refine Br.ad ?_
 try (refine Br.mk (i:=1000) ?_)
 refine Gn ?_;refine G2 ?_;refine Gs [(4,_)] ?_;refine Gt ?_
 first | exact ⟨rfl,rfl⟩ | (exfalso;simp at *;omega)
theorem D9 {h:aj} (y z:UInt8) (s:List UInt8) (hy:y ≠ 32) (hz:z ≠ 32) (hm:s.length≤1000):ai Tryz.prog 251 ⟨[St (y :: (s++[z])),St [32]]⟩ h fun u h'=>u=St (y :: (s++[z]))∧h'=h:=by
 have RV:(y.toNat:Int) ≠ 32:=fun e=>hy (UInt8.toNat_inj.1 (by show _=32;omega))
 have RW:(z.toNat:Int) ≠ 32:=fun e=>hz (UInt8.toNat_inj.1 (by show _=32;omega))
 have k1:=BA (h:=h) z (y :: s) 32 RW (by simp;omega)
 have k2:=Bz (h:=h) y (s++[z]) 32 RV (by simp;omega)
 rw [List.cons_append] at k1
 have ep:y :: (s++[z]) ≠ []:=by simp
 generalize y :: (s++[z])=t at *
 have e0:([32]:List UInt8)[0]?=some 32:=rfl
 refine calls [(0,_),(1,_)] Tryz.func251 rfl Tryz.ntmps251 rfl ⟨rfl,rfl,trivial⟩ ?_
 refine G2 ?_;refine G3 ?_
 refine bU 9 ?_ TT.mk
 refine Gg ?_;refine Go ?_;refine Gs [(0,_),(1,_),(12,_)] ?_
 refine aJ 1 2 ?_ TT.mk
 aa (refine ay 2 ?_)
 refine WC.skip ?_;refine Gn ?_;refine G3 ?_
 refine bU 17 ?_ TT.mk
 refine Gg ?_;refine WL.step (da Tryz.underlying9 rfl rfl (by omega) e0) rfl rfl rfl ?_
 refine Gg ?_;refine Go ?_;refine Gs [(0,_),(1,_),(21,_)] ?_
 refine aJ 3 4 ?_ TT.mk
 aa (refine ay 3 ?_)
 refine WC.seq ?_;refine WC.cg (fun h'=>h'=h) 7 8 rfl dB ?_
 refine WH.tk 0 rfl (fun hq hC=>an rfl) rfl rfl rfl ?_ (hC:=rfl)
 refine WH.tk 1 rfl (fun hq hC=>an rfl) rfl rfl rfl ?_ (hC:=rfl)
 refine WH.tk 2 rfl (fun hq hC=>da Tryz.underlying9 rfl rfl (by omega) e0) rfl rfl rfl ?_ (hC:=rfl)
 refine WH.tk 4 rfl (fun hq hC=>an rfl) rfl rfl rfl ?_ (hC:=rfl)
 refine WH.tk 5 rfl (fun hq hC=>da Tryz.underlying9 rfl rfl (by omega) e0) rfl rfl rfl ?_ (hC:=rfl)
 refine WH.one 3 (by kernel_rfl) ?_
 refine aE.call (vs:=[_,_]) rfl rfl Tryz.call281 rfl (k1) rfl rfl rfl ?_ (fun _=>by kernel_rfl)
 rintro _ hq ⟨rfl,jw⟩
 subst jw
 refine ⟨fun _=>rfl,?_⟩
 refine WH.one 6 (by kernel_rfl) ?_
 refine aE.call (vs:=[_,_]) rfl rfl Tryz.call280 rfl (k2) rfl rfl rfl ?_ (fun _=>by kernel_rfl)
 rintro _ hq ⟨rfl,Kz⟩
 subst Kz
 refine ⟨fun _=>rfl,?_⟩
 refine WH.one 7 (by kernel_rfl) ?_
 refine aE.run rfl (bW.r (aR rfl)) rfl rfl rfl ?_ (fun _=>by kernel_rfl)
 rintro _ hz ⟨rfl,_⟩
 subst hz
 refine ⟨fun e=>(by cases e),?_⟩
 refine WH.done (by kernel_rfl) ?_
 refine Gn ?_;refine Gs [(4,_)] ?_;refine Gt ?_
 exact ⟨rfl,rfl⟩
theorem vt {h:aj}:ai Tryz.prog 252 ⟨[St rh]⟩ h fun u h'=>u=.tuple ⟨[In 2,.bool true]⟩∧h'=h:=by
 refine calls [(0,_)] Tryz.func252 rfl Tryz.ntmps252 rfl ⟨rfl,trivial⟩ ?_
 refine G2 ?_;refine G3 ?_;refine WC.block ?_;refine G2 ?_;refine Gs [(4,_),(5,_)] ?_
 refine aJ 1 2 ?_ TT.mk
 aa (refine ay 2 ?_)
 refine G2 ?_
 refine aJ 3 4 ?_ TT.mk
 aa (refine ay 3 ?_)
 refine G2 ?_;refine Gs [(2,_),(3,_)] ?_;refine Gt ?_
 exact ⟨rfl,rfl⟩
def nb (k n:Int) (c:List UInt8):List Value:=[In k,In n,St c]
theorem F1 {h:aj}:ai Tryz.prog 214 ⟨[St rh]⟩ h fun u h'=>u=.agg ⟨nb 2 0 []⟩∧Ext No h h':=by
 have kt:=fun h'=>D9 (h:=h') 98 110 [101,103,105] (by decide) (by decide) (by decide)
 unfold nb
 refine calls [(0,_)] Tryz.func214 rfl Tryz.ntmps214 rfl ⟨rfl,trivial⟩ ?_
 refine WC.sr ?_;refine WL.al (au (fun w=>Tryz.zeroValue278 w)) rfl rfl rfl ?_
 rintro _ h1 ⟨b2,rfl,gI,bR,aK⟩
 refine Gn ?_;refine G2 ?_;refine WL.call (vs:=[_,_]) rfl Tryz.call251 rfl (kt _) rfl rfl rfl ?_
 rintro _ hq ⟨rfl,hz⟩
 subst hz
 refine Go ?_;refine G3 ?_;refine WL.call (vs:=[_]) rfl Tryz.call252 rfl (vt) rfl rfl rfl ?_
 rintro _ hq ⟨rfl,hz⟩
 subst hz
 refine Go ?_;refine Gs [(2,_),(3,_),(4,_),(5,_)] ?_;refine G2 ?_
 refine aJ 1 2 ?_ TT.mk
 aa (refine ay 1 ?_)
 refine G2 ?_;refine WL.step (aH (vs:=[_]) (cs:=[_,_,_]) (fun | [a0]=>[a0,(.int .i64 0),(St [])] | _=>[]) rfl rfl (by kernel_rfl)) rfl rfl rfl ?_
 refine WL.az (aq Tryz.sizeOf278 rfl rfl rfl bR rfl (by simp [Value.oneCell'])) rfl rfl ?_
 rintro _ h3 ⟨bC,aS⟩
 refine Gn ?_;refine Gs [(2,_)] ?_;refine WC.ret ?_
 repeat' (ae first | refine bq ?_ | refine ba ?_)
 refine cA _ ⟨⟨_,rfl,bJ Tryz.isAgg278 Tryz.sizeOf278 bC rfl⟩,trivial⟩ ?_
 exact ⟨rfl,aK.trans' aS (fun q hq e=>by omega)⟩
theorem vu {h:aj} {A:Option Addr} {c:Nat} (l:List Int) (x:Int) (hr:Rd h (.slice A l.length c) 1 l.length (ints l)) (hm:l.length≤maxLen) :
   ai Tryz.prog 290 ⟨[.slice A l.length c,In x]⟩ h fun u h'=>u=.bool (decide (0≤idxOf l x))∧h'=h:=by
 refine calls [(0,_),(1,_)] Tryz.func290 rfl Tryz.ntmps290 rfl ⟨rfl,rfl,trivial⟩ ?_
 refine G2 ?_;refine G2 ?_;refine WL.call (vs:=[_,_]) rfl Tryz.call310 rfl (x9 l x hr hm) rfl rfl rfl ?_
 rintro _ hq ⟨rfl,hz⟩
 subst hz
 refine WL.step (dH rfl rfl) rfl rfl rfl (Go ?_);refine Gs [(4,_)] ?_;refine Gt ?_
 exact ⟨rfl,rfl⟩
theorem F2 {h:aj} {A:Option Addr} {cc:Nat} (k n:Int) (c:List UInt8) (l:List Int) (hr:Rd h (.slice A l.length cc) 1 l.length (ints l)) (hm:l.length≤maxLen) :
   ai Tryz.prog 255 ⟨[.agg ⟨nb k n c⟩,.slice A l.length cc]⟩ h fun u h'=>u=.bool (decide (k∈l))∧Ext No h h':=by
 have e:decide (0≤idxOf l k)=decide (k∈l):=by
   rcases jb l k with ⟨e,hn⟩ | ⟨j,e,hj,_⟩
   · rw [e,decide_eq_false hn];rfl
   · rw [e,decide_eq_true (List.mem_of_getElem? hj)];simp
 unfold nb
 refine calls [(0,_),(1,_)] Tryz.func255 rfl Tryz.ntmps255 rfl ⟨rfl,rfl,trivial⟩ ?_
 refine WC.sr ?_;refine WL.al (aI rfl) rfl rfl rfl ?_
 rintro _ h1 ⟨b2,rfl,gI,bR,aK⟩
 refine Go ?_;refine G2 ?_;refine WL.ld rfl (by first | exact ab bR rfl | assumption) rfl rfl rfl ?_
 refine WL.call (vs:=[_,_]) rfl Tryz.call290 rfl (vu l k (hr.av aK) hm) rfl rfl rfl ?_
 rintro _ hq ⟨rfl,hz⟩
 subst hz
 rw [e]
 refine Go ?_;refine Gs [(4,_)] ?_;refine Gt ?_
 exact ⟨rfl,aK⟩
theorem HD {h:aj} (k n:Int) (c:List UInt8):ai Tryz.prog 265 ⟨[.agg ⟨nb k n c⟩]⟩ h fun u h'=>u=.bool (decide (k=3∨k=4))∧Ext No h h':=by
 have ko:=fun h' (A:Option Addr) (cc:Nat)=>F2 (h:=h') (A:=A) (cc:=cc) k n c [3,4]
 unfold nb at *
 refine calls [(0,_)] Tryz.func265 rfl Tryz.ntmps265 rfl ⟨rfl,trivial⟩ ?_
 refine WC.sr ?_;refine WL.al (aI rfl) rfl rfl rfl ?_
 rintro _ h1 ⟨b2,rfl,gI,bR,aK⟩
 refine Go ?_;refine WC.sr ?_;refine WL.step (aA Tryz.isAgg278 Tryz.sizeOf278 rfl rfl (by exact At.ax bR)) rfl rfl rfl ?_
 refine WL.al (aw (vs:=[_,_]) (cs:=[_,_]) (fun | [a0,a1]=>[a0,a1] | _=>[]) Tryz.underlying39 rfl rfl (by kernel_rfl)) rfl rfl rfl ?_
 rintro _ h3 ⟨b3,rfl,gN,bC,aS⟩
 refine WL.call (vs:=[_,_]) rfl Tryz.call255 rfl (ko _ _ _ (bG bC rfl) (by decide)) rfl rfl rfl ?_
 rintro _ h4 ⟨rfl,bh⟩
 refine Go ?_;refine Gs [(2,_)] ?_;refine Gt ?_
 exact ⟨by simp,(aK.trans aS).trans bh⟩
theorem Ea {h:aj} (k n:Int) (c:List UInt8):ai Tryz.prog 215 ⟨[.agg ⟨nb k n c⟩]⟩ h fun u h'=>u=.bool (decide (k=5∨k=6∨k=7))∧Ext No h h':=by
 have ko:=fun h' (A:Option Addr) (cc:Nat)=>F2 (h:=h') (A:=A) (cc:=cc) k n c [5,6,7]
 unfold nb at *
 refine calls [(0,_)] Tryz.func215 rfl Tryz.ntmps215 rfl ⟨rfl,trivial⟩ ?_
 refine WC.sr ?_;refine WL.al (aI rfl) rfl rfl rfl ?_
 rintro _ h1 ⟨b2,rfl,gI,bR,aK⟩
 refine Go ?_;refine WC.sr ?_;refine WL.step (aA Tryz.isAgg278 Tryz.sizeOf278 rfl rfl (by exact At.ax bR)) rfl rfl rfl ?_
 refine WL.al (aw (vs:=[_,_,_]) (cs:=[_,_,_]) (fun | [a0,a1,a2]=>[a0,a1,a2] | _=>[]) Tryz.underlying39 rfl rfl (by kernel_rfl)) rfl rfl rfl ?_
 rintro _ h3 ⟨b3,rfl,gN,bC,aS⟩
 refine WL.call (vs:=[_,_]) rfl Tryz.call255 rfl (ko _ _ _ (bG bC rfl) (by decide)) rfl rfl rfl ?_
 rintro _ h4 ⟨rfl,bh⟩
 refine Go ?_;refine Gs [(2,_)] ?_;refine Gt ?_
 exact ⟨by simp,(aK.trans aS).trans bh⟩
def F3 (s:List UInt8):List UInt8:=s.dropWhile (· == 32)
def zy (s:List UInt8):List UInt8:=(s.reverse.dropWhile (· == 32)).reverse
def iL (s:List UInt8):List UInt8:=F3 (zy s)
theorem Eb (s:List UInt8):(F3 s).length≤s.length:=(List.dropWhile_sublist _).length_le
theorem Ec (s:List UInt8):(zy s).length≤s.length:=by unfold zy;rw [List.length_reverse];have:=(List.dropWhile_sublist (l:=s.reverse) (· == (32:UInt8))).length_le;simpa using this
theorem BB (s:List UInt8):zy (s++[32])=zy s:=by simp [zy]
theorem HE {s:List UInt8} {y:UInt8} (hy:y ≠ 32):zy (s++[y])=s++[y]:=by simp [zy,hy]
theorem HF {s:List UInt8} {y:UInt8} (hy:y ≠ 32):F3 (y :: s)=y :: s:=by simp [F3,hy]
theorem BC (x:List UInt8):x=[]∨(∃ r,x=32 :: r∧x.length=r.length+1)∨∃ y r,x=y :: r∧x.length=r.length+1∧y ≠ 32∧(y.toNat:Int) ≠ 32:=by
 rcases x with _ | ⟨y,r⟩
 · exact .inl rfl
 · by_cases hy:y=32
   · exact .inr (.inl ⟨r,by rw [hy],rfl⟩)
   · exact .inr (.inr ⟨y,r,rfl,rfl,hy,fun e=>hy (UInt8.toNat_inj.1 (by show _=32;omega))⟩)
theorem HG (x:List UInt8):x=[]∨(∃ r,x=r++[32]∧x.length=r.length+1)∨∃ y r,x=r++[y]∧x.length=r.length+1∧y ≠ 32∧(y.toNat:Int) ≠ 32:=by
 rcases BC x.reverse with e | ⟨r,e,e1⟩ | ⟨y,r,e,e1,h1,h2⟩
 · exact .inl (by simpa using e)
 · exact .inr (.inl ⟨r.reverse,by simpa using congrArg List.reverse e,by simpa using e1⟩)
 · exact .inr (.inr ⟨y,r.reverse,by simpa using congrArg List.reverse e,by simpa using e1,h1,h2⟩)
theorem BD (r:List UInt8) (y:UInt8):(r++[y])[((r.length:Int)).toNat]?=some y:=by simp
theorem yp (r:List UInt8) (y:UInt8):(r++[y]).take (((r.length:Nat):Int)).toNat=r:=by simp
theorem i32:(((32:UInt8).toNat:Nat):Int)=32:=rfl
theorem Ed {h:aj} (s:List UInt8):ai Tryz.prog 280 ⟨[St s,.int .u8 32]⟩ h fun u h'=>u=St (F3 s)∧h'=h:=by
 refine calls [(0,_),(1,_)] Tryz.func280 rfl Tryz.ntmps280 rfl ⟨rfl,rfl,trivial⟩ ?_
 refine G2 ?_;refine WC.seq ?_;refine WC.block ?_;refine WC.bO (X:=List UInt8) (fun x=>([(0,St x)]:Fr)) [(1,_)] (fun x h'=>h'=h∧F3 x=F3 s∧x.length≤s.length) (fun x=>x.length) (s) ⟨rfl,rfl,trivial⟩ (by exact ⟨rfl,rfl,Nat.le_refl _⟩) ?_
 rintro x h1 ⟨hz,hx,hl⟩
 subst hz
 have e0:∀ (y:UInt8) (r:List UInt8),(y :: r)[0]?=some y:=fun _ _=>rfl
 have hi:=i32
 rcases BC x with rfl | ⟨r,rfl,pD⟩ | ⟨y,r,rfl,pD,hy,RX⟩
 aa (refine WC.sub [(0,_),(1,_)] ⟨rfl,rfl,trivial⟩ ?_;refine G3 ?_;refine bU 8 ?_ TT.mk;refine Gg ?_;first | refine WL.pass rfl rfl rfl ?_ | (refine WL.step (da Tryz.underlying9 rfl rfl (by omega) (e0 _ _)) rfl rfl rfl ?_))
 aa (refine Gg ?_;refine Go ?_;refine Gs [(0,_),(1,_),(13,_)] ?_;refine aJ 1 2 ?_ TT.mk)
 aa try (
 refine ay 1 ?_
 refine WC.skip ?_
 skip)
 aa try (
 refine ay 2 ?_
 aa (refine WC.exit ?_;repeat' (ae first | refine aZ ?_ | refine aF rfl ?_ | refine aL ?_ | refine aN ?_ | refine aV ?_))
 aa (refine Br.out (i:=1000) ?_)
 skip)
 aa (refine Gn ?_;first | refine Br.ad ?_ | refine WC.block ?_)
 aa (first | refine Br.ad ?_ | refine WC.region ?_)
 aa (refine Go ?_;first | refine Br.ad ?_ | (refine WL.step (mD Tryz.underlying9 rfl rfl (by first | omega | (simp <;> omega))) rfl rfl rfl ?_))
 aa (refine Go ?_;first | refine Br.ad ?_ | (exact ⟨r,⟨rfl,rfl,trivial⟩,(by exact ⟨rfl,by rw [← hx];simp [F3],by simp at hl;omega⟩),(by simp)⟩))
 aa (try (refine Br.mk (i:=1000) ?_))
 aa (refine Gn ?_;refine G2 ?_;refine Gs [(4,_)] ?_;refine Gt ?_;exact ⟨congrArg St (by rw [← hx];first | rfl | rw [HF hy]),rfl⟩)
theorem Ee {h:aj} (s:List UInt8) (hm:s.length≤1000000):ai Tryz.prog 281 ⟨[St s,.int .u8 32]⟩ h fun u h'=>u=St (zy s)∧h'=h:=by
 refine calls [(0,_),(1,_)] Tryz.func281 rfl Tryz.ntmps281 rfl ⟨rfl,rfl,trivial⟩ ?_
 refine G2 ?_;refine WC.seq ?_;refine WC.block ?_;refine WC.bO (X:=List UInt8) (fun x=>([(0,St x)]:Fr)) [(1,_)] (fun x h'=>h'=h∧zy x=zy s∧x.length≤s.length) (fun x=>x.length) (s) ⟨rfl,rfl,trivial⟩ (by exact ⟨rfl,rfl,Nat.le_refl _⟩) ?_
 rintro x h1 ⟨hz,hx,hl⟩
 subst hz
 have hi:=i32
 rcases HG x with rfl | ⟨r,rfl,pD⟩ | ⟨y,r,rfl,pD,hy,RX⟩
 aa (refine WC.sub [(0,_),(1,_)] ⟨rfl,rfl,trivial⟩ ?_;refine G3 ?_;refine bU 8 ?_ TT.mk;first | refine WL.pass rfl rfl rfl ?_ | refine WL.step (an rfl) rfl rfl rfl ?_)
 aa (first | refine WL.pass rfl rfl rfl ?_ | refine WL.step (an rfl) rfl rfl rfl ?_)
 aa (first | refine WL.pass rfl rfl rfl ?_ | refine WL.step (kN rfl Tryz.underlying9 rfl) rfl rfl rfl ?_)
 aa (first | refine WL.pass rfl rfl rfl ?_ | (refine WL.step (fz rfl rfl (by omega)) rfl rfl rfl ?_))
 aa (try rw [pD,show (((r.length+1:Nat):Int) - 1)=((r.length:Nat):Int) by omega])
 aa (first | refine WL.pass rfl rfl rfl ?_ | (refine WL.step (da Tryz.underlying9 rfl rfl (by omega) (BD r _)) rfl rfl rfl ?_))
 aa (refine Gg ?_;refine Go ?_;refine Gs [(0,_),(1,_),(16,_)] ?_;refine aJ 1 2 ?_ TT.mk)
 aa try (
 refine ay 1 ?_
 refine WC.skip ?_
 skip)
 aa try (
 refine ay 2 ?_
 aa (refine WC.exit ?_;repeat' (ae first | refine aZ ?_ | refine aF rfl ?_ | refine aL ?_ | refine aN ?_ | refine aV ?_))
 aa (refine Br.out (i:=1000) ?_)
 skip)
 aa (refine Gn ?_;first | refine Br.ad ?_ | refine WC.block ?_)
 aa (first | refine Br.ad ?_ | refine WC.region ?_)
 aa (first | refine Br.ad ?_ | refine WL.step (an rfl) rfl rfl rfl ?_)
 aa (first | refine Br.ad ?_ | refine WL.step (an rfl) rfl rfl rfl ?_)
 aa (first | refine Br.ad ?_ | refine WL.step (kN rfl Tryz.underlying9 rfl) rfl rfl rfl ?_)
 aa (first | refine Br.ad ?_ | (refine WL.step (fz rfl rfl (by omega)) rfl rfl rfl ?_))
 aa (first | refine Br.ad ?_ | (rw [pD,show (((r.length+1:Nat):Int) - 1)=((r.length:Nat):Int) by omega]))
 aa (first | refine Br.ad ?_ | (refine WL.step (mF Tryz.underlying9 rfl rfl (by first | omega | (simp <;> omega))) rfl rfl rfl ?_))
 aa (first | refine Br.ad ?_ | try rw [yp])
 aa (refine Go ?_;first | refine Br.ad ?_ | (exact ⟨r,⟨rfl,rfl,trivial⟩,(by exact ⟨rfl,by rw [← hx,BB],by simp at hl;omega⟩),(by simp)⟩))
 aa (try (refine Br.mk (i:=1000) ?_))
 aa (refine Gn ?_;refine G2 ?_;refine Gs [(4,_)] ?_;refine Gt ?_;exact ⟨congrArg St (by rw [← hx];first | rfl | rw [HE hy]),rfl⟩)
theorem HH {h:aj} (s:List UInt8) (hm:s.length≤1000000):ai Tryz.prog 251 ⟨[St s,St [32]]⟩ h fun u h'=>u=St (iL s)∧h'=h:=by
 have k1:=Ee (h:=h) s hm
 have k2:=Ed (h:=h) (zy s)
 have e0:([32]:List UInt8)[0]?=some 32:=rfl
 by_cases hs:s=[]
 · subst hs
   refine calls [(0,_),(1,_)] Tryz.func251 rfl Tryz.ntmps251 rfl ⟨rfl,rfl,trivial⟩ ?_
   refine G2 ?_;refine G3 ?_
   refine bU 9 ?_ TT.mk
   refine Gg ?_;refine Go ?_;refine Gs [(0,_),(1,_),(12,_)] ?_
   refine aJ 1 2 ?_ TT.mk
   aa (refine ay 1 ?_)
   refine G2 ?_;refine Gs [(4,_)] ?_;refine Gt ?_
   exact ⟨rfl,rfl⟩
 · have Dw:s ≠ []:=hs
   refine calls [(0,_),(1,_)] Tryz.func251 rfl Tryz.ntmps251 rfl ⟨rfl,rfl,trivial⟩ ?_
   refine G2 ?_;refine G3 ?_
   refine bU 9 ?_ TT.mk
   refine Gg ?_;refine Go ?_;refine Gs [(0,_),(1,_),(12,_)] ?_
   refine aJ 1 2 ?_ TT.mk
   aa (refine ay 2 ?_)
   refine WC.skip ?_;refine Gn ?_;refine G3 ?_
   refine bU 17 ?_ TT.mk
   refine Gg ?_;refine WL.step (da Tryz.underlying9 rfl rfl (by omega) e0) rfl rfl rfl ?_
   refine Gg ?_;refine Go ?_;refine Gs [(0,_),(1,_),(21,_)] ?_
   refine aJ 3 4 ?_ TT.mk
   aa (refine ay 3 ?_)
   refine WC.seq ?_;refine WC.cg (fun h'=>h'=h) 7 8 rfl dB ?_
   refine WH.tk 0 rfl (fun hq hC=>an rfl) rfl rfl rfl ?_ (hC:=rfl)
   refine WH.tk 1 rfl (fun hq hC=>an rfl) rfl rfl rfl ?_ (hC:=rfl)
   refine WH.tk 2 rfl (fun hq hC=>da Tryz.underlying9 rfl rfl (by omega) e0) rfl rfl rfl ?_ (hC:=rfl)
   refine WH.tk 4 rfl (fun hq hC=>an rfl) rfl rfl rfl ?_ (hC:=rfl)
   refine WH.tk 5 rfl (fun hq hC=>da Tryz.underlying9 rfl rfl (by omega) e0) rfl rfl rfl ?_ (hC:=rfl)
   refine WH.one 3 (by kernel_rfl) ?_
   refine aE.call (vs:=[_,_]) rfl rfl Tryz.call281 rfl (k1) rfl rfl rfl ?_ (fun _=>by kernel_rfl)
   rintro _ hq ⟨rfl,jw⟩
   subst jw
   refine ⟨fun _=>rfl,?_⟩
   refine WH.one 6 (by kernel_rfl) ?_
   refine aE.call (vs:=[_,_]) rfl rfl Tryz.call280 rfl (k2) rfl rfl rfl ?_ (fun _=>by kernel_rfl)
   rintro _ hq ⟨rfl,Kz⟩
   subst Kz
   refine ⟨fun _=>rfl,?_⟩
   refine WH.one 7 (by kernel_rfl) ?_
   refine aE.run rfl (bW.r (aR rfl)) rfl rfl rfl ?_ (fun _=>by kernel_rfl)
   rintro _ hz ⟨rfl,_⟩
   subst hz
   refine ⟨fun e=>(by cases e),?_⟩
   refine WH.done (by kernel_rfl) ?_
   refine Gn ?_;refine Gs [(4,_)] ?_;refine Gt ?_
   exact ⟨rfl,rfl⟩
theorem KA {h:aj} (s:List UInt8) (c:UInt8):ai Tryz.prog 268 ⟨[St s,By c]⟩ h fun u h'=>u=In (Lib.indexByte s c)∧h'=h:=fun w hw =>
 (Tryz.stringslite_IndexByte ⟨⟨s⟩⟩ c.toNat w).mono fun e w' ⟨he,hb⟩=>⟨⟨by rw [hb],by rw [hb],by rw [hb],trivial⟩,_,he,by rw [show ((c.toNat:Int)).toNat.toUInt8=c by simp],by rw [hb,hw]⟩
theorem Ef {h:aj} (s:List UInt8):ai Tryz.prog 308 ⟨[St s,St [32]]⟩ h fun u h'=>u=In (Lib.indexByte s 32)∧h'=h:=by
 have e0:([32]:List UInt8)[0]?=some 32:=rfl
 have k1:=KA (h:=h) s 32
 by_cases hs:s=[32]
 · subst hs
   refine calls [(0,_),(1,_)] Tryz.func308 rfl Tryz.ntmps308 rfl ⟨rfl,rfl,trivial⟩ ?_
   refine G2 ?_;refine G2 ?_;refine WC.seq ?_;refine WC.block ?_;refine G2 ?_
   refine bU 19 ?_ TT.mk
   refine Gg ?_;refine Go ?_;refine Gs [(0,_),(1,_),(5,_),(16,_)] ?_
   refine aJ 1 2 ?_ TT.mk
   aa (refine ay 1 ?_)
   refine G2 ?_;refine Gs [(4,_)] ?_;refine Gt ?_
   exact ⟨rfl,rfl⟩
 · have Dw:¬ [32]=s:=fun e=>hs e.symm
   refine calls [(0,_),(1,_)] Tryz.func308 rfl Tryz.ntmps308 rfl ⟨rfl,rfl,trivial⟩ ?_
   refine G2 ?_;refine G2 ?_;refine WC.seq ?_;refine WC.block ?_;refine G2 ?_
   refine bU 19 ?_ TT.mk
   refine Gg ?_;refine Go ?_;refine Gs [(0,_),(1,_),(5,_),(16,_)] ?_
   refine aJ 1 2 ?_ TT.mk
   aa (refine ay 2 ?_)
   refine G2 ?_
   refine aJ 3 4 ?_ TT.mk
   aa (refine ay 3 ?_)
   refine G2 ?_;refine WL.step (da Tryz.underlying9 rfl rfl (by omega) e0) rfl rfl rfl ?_
   refine WL.call (vs:=[_,_]) rfl Tryz.call268 rfl (k1) rfl rfl rfl ?_
   rintro _ hq ⟨rfl,jw⟩
   subst jw
   refine Go ?_;refine Gs [(4,_)] ?_;refine Gt ?_
   exact ⟨rfl,rfl⟩
theorem yq (s:List UInt8) (c:UInt8):Lib.indexByte s c = -1∨∃ i:Nat,Lib.indexByte s c=(i:Int)∧i < s.length:=by
 have h1:=Lib.indexByte_ge s c
 by_cases h0:0≤Lib.indexByte s c
 · refine .inr ⟨(Lib.indexByte s c).toNat,by omega,?_⟩
   have:=(Lib.indexByte_some (l:=s) (c:=c) (o:=(Lib.indexByte s c).toNat) (by omega)).1
   exact (List.getElem?_eq_some_iff.1 this).1
 · exact .inl (by omega)
def mb (s:List UInt8):List UInt8 × List UInt8 × Bool:=if 0≤Lib.indexByte s 32 then (s.take (Lib.indexByte s 32).toNat,s.drop ((Lib.indexByte s 32).toNat+1),true) else (s,[],false)
theorem KB {h:aj} (s:List UInt8) (hm:s.length≤1000000):ai Tryz.prog 253 ⟨[St s,St [32]]⟩ h fun u h'=>u=.tuple ⟨[St (mb s).1,St (mb s).2.1,.bool (mb s).2.2]⟩∧h'=h:=by
 have k0:ai Tryz.prog 287 ⟨[St s,St [32]]⟩ h fun u h'=>u=.tuple ⟨[St (mb s).1,St (mb s).2.1,.bool (mb s).2.2]⟩∧h'=h:=by
   have ki:=Ef (h:=h) s
   unfold mb
   rcases yq s 32 with e | ⟨i,e,hi⟩
   · rw [e] at ki ⊢
     refine calls [(0,_),(1,_)] Tryz.func287 rfl Tryz.ntmps287 rfl ⟨rfl,rfl,trivial⟩ ?_
     refine G2 ?_;refine G3 ?_;refine WL.call (vs:=[_,_]) rfl Tryz.call308 rfl (ki) rfl rfl rfl ?_
     rintro _ hq ⟨rfl,jw⟩
     subst jw
     refine Go ?_;refine Gs [(0,_),(1,_),(7,_)] ?_;refine G2 ?_
     refine aJ 1 2 ?_ TT.mk
     aa (refine ay 2 ?_)
     refine WC.skip ?_;refine Gn ?_;refine Gs [(0,_)] ?_;refine G2 ?_;refine Gt ?_
     exact ⟨rfl,rfl⟩
   · rw [e] at ki ⊢
     rw [if_pos (by omega)]
     have RY:([32]:List UInt8).length=1:=rfl
     refine calls [(0,_),(1,_)] Tryz.func287 rfl Tryz.ntmps287 rfl ⟨rfl,rfl,trivial⟩ ?_
     refine G2 ?_;refine G3 ?_;refine WL.call (vs:=[_,_]) rfl Tryz.call308 rfl (ki) rfl rfl rfl ?_
     rintro _ hq ⟨rfl,jw⟩
     subst jw
     refine Go ?_;refine Gs [(0,_),(1,_),(7,_)] ?_;refine G2 ?_
     refine aJ 1 2 ?_ TT.mk
     aa (refine ay 1 ?_)
     refine WC.seq ?_;refine WC.gu dB (by kernel_rfl) ?_
     refine WQ.aM (an rfl) rfl rfl rfl ?_;refine WQ.aM (an rfl) rfl rfl rfl ?_;refine WQ.aM (mF Tryz.underlying9 rfl rfl (by first | omega | (simp <;> omega))) rfl rfl rfl ?_
     refine WQ.aM (an rfl) rfl rfl rfl ?_;refine WQ.aM (an rfl) rfl rfl rfl ?_;refine WQ.aM (an rfl) rfl rfl rfl ?_;refine WQ.aM (kN rfl Tryz.underlying9 rfl) rfl rfl rfl ?_;refine WQ.aM (fy rfl rfl (by omega)) rfl rfl rfl ?_
     refine WQ.aM (mD Tryz.underlying9 rfl rfl (by first | omega | (simp <;> omega))) rfl rfl rfl ?_
     refine WQ.aM (aR rfl) rfl rfl rfl ?_;refine WQ.aM (aR rfl) rfl rfl rfl ?_;refine WQ.aM (aR rfl) rfl rfl rfl ?_;refine WQ.nil ?_;refine Gn ?_;refine Gs [(4,_),(5,_),(6,_)] ?_;refine Gt ?_
     refine ⟨?_,rfl⟩
     rw [show ((i:Int)+(([32]:List UInt8).length:Int)).toNat=(i:Int).toNat+1 by rw [RY];omega]
 refine calls [(0,_),(1,_)] Tryz.func253 rfl Tryz.ntmps253 rfl ⟨rfl,rfl,trivial⟩ ?_
 refine G2 ?_;refine G2 ?_;refine WL.call (vs:=[_,_]) rfl Tryz.call287 rfl (k0) rfl rfl rfl ?_
 rintro _ hq ⟨rfl,jw⟩
 subst jw
 refine Go ?_;refine Gs [(4,_),(5,_),(6,_)] ?_;refine Gt ?_
 exact ⟨rfl,rfl⟩
def jj (s:List UInt8):Option Int:=if s=[] then some 1 else if s=([98,101,103,105,110]:List UInt8) then some 2 else if s=([99,111,109,109,105,116]:List UInt8) then some 3 else if s=([114,111,108,108,98,97,99,107]:List UInt8) then some 4 else if s=([101,99,104,111]:List UInt8) then some 6 else if s=([110,101,120,116]:List UInt8) then some 7 else none
theorem HI {h:aj} (s:List UInt8):ai Tryz.prog 252 ⟨[St s]⟩ h fun u h'=>u=.tuple ⟨[In ((jj s).getD 0),.bool (jj s).isSome]⟩∧h'=h:=by
 rcases (show s=[]∨s=([98,101,103,105,110]:List UInt8)∨s=([99,111,109,109,105,116]:List UInt8)∨s=([114,111,108,108,98,97,99,107]:List UInt8)∨s=([101,99,104,111]:List UInt8)∨s=([110,101,120,116]:List UInt8)∨(s ≠ []∧s ≠ ([98,101,103,105,110]:List UInt8)∧s ≠ ([99,111,109,109,105,116]:List UInt8)∧s ≠ ([114,111,108,108,98,97,99,107]:List UInt8)∧s ≠ ([101,99,104,111]:List UInt8)∧s ≠ ([110,101,120,116]:List UInt8)) by
   by_cases e1:s=[];exact .inl e1
   by_cases e2:s=([98,101,103,105,110]:List UInt8);exact .inr (.inl e2)
   by_cases e3:s=([99,111,109,109,105,116]:List UInt8);exact .inr (.inr (.inl e3))
   by_cases e4:s=([114,111,108,108,98,97,99,107]:List UInt8);exact .inr (.inr (.inr (.inl e4)))
   by_cases e5:s=([101,99,104,111]:List UInt8);exact .inr (.inr (.inr (.inr (.inl e5))))
   by_cases e6:s=([110,101,120,116]:List UInt8);exact .inr (.inr (.inr (.inr (.inr (.inl e6)))))
   exact .inr (.inr (.inr (.inr (.inr (.inr ⟨e1,e2,e3,e4,e5,e6⟩)))))) with rfl | rfl | rfl | rfl | rfl | rfl | ⟨e1,e2,e3,e4,e5,e6⟩
 aa
   refine calls [(0,_)] Tryz.func252 rfl Tryz.ntmps252 rfl ⟨rfl,trivial⟩ ?_
   aa (refine G2 ?_;refine G3 ?_;refine WC.block ?_;refine G2 ?_;refine Gs [(4,_),(5,_)] ?_;refine aJ 1 2 ?_ TT.mk)
   aa try (
   refine ay 1 ?_
   aa (refine G2 ?_;refine Gt ?_;exact ⟨by first | rfl | (unfold jj;rw [if_neg e1,if_neg e2,if_neg e3,if_neg e4,if_neg e5,if_neg e6];rfl),rfl⟩)
   skip)
   aa (refine ay 2 ?_;refine G2 ?_;refine aJ 3 4 ?_ TT.mk)
   aa try (
   refine ay 3 ?_
   aa (refine G2 ?_;refine Gs [(2,_),(3,_)] ?_;refine Gt ?_;exact ⟨by first | rfl | (unfold jj;rw [if_neg e1,if_neg e2,if_neg e3,if_neg e4,if_neg e5,if_neg e6];rfl),rfl⟩)
   skip)
   aa (refine ay 4 ?_;refine G2 ?_;refine Gs [(4,_),(9,_)] ?_;refine aJ 5 6 ?_ TT.mk)
   aa try (
   refine ay 5 ?_
   aa (refine G2 ?_;refine Gt ?_;exact ⟨by first | rfl | (unfold jj;rw [if_neg e1,if_neg e2,if_neg e3,if_neg e4,if_neg e5,if_neg e6];rfl),rfl⟩)
   skip)
   aa (refine ay 6 ?_;refine G2 ?_;refine aJ 7 8 ?_ TT.mk)
   aa try (
   refine ay 7 ?_
   aa (refine G2 ?_;refine Gs [(2,_),(3,_)] ?_;refine Gt ?_;exact ⟨by first | rfl | (unfold jj;rw [if_neg e1,if_neg e2,if_neg e3,if_neg e4,if_neg e5,if_neg e6];rfl),rfl⟩)
   skip)
   aa (refine ay 8 ?_;refine G2 ?_;refine Gs [(4,_),(13,_)] ?_;refine aJ 9 10 ?_ TT.mk)
   aa try (
   refine ay 9 ?_
   aa (refine G2 ?_;refine Gt ?_;exact ⟨by first | rfl | (unfold jj;rw [if_neg e1,if_neg e2,if_neg e3,if_neg e4,if_neg e5,if_neg e6];rfl),rfl⟩)
   skip)
   aa (refine ay 10 ?_;refine G2 ?_;refine aJ 11 12 ?_ TT.mk)
   aa try (
   refine ay 11 ?_
   aa (refine G2 ?_;refine Gs [(2,_),(3,_)] ?_;refine Gt ?_;exact ⟨by first | rfl | (unfold jj;rw [if_neg e1,if_neg e2,if_neg e3,if_neg e4,if_neg e5,if_neg e6];rfl),rfl⟩)
   skip)
   aa (refine ay 12 ?_;refine WC.skip ?_;refine Gn ?_;refine Gs [] ?_;refine G2 ?_;refine Gt ?_;exact ⟨by first | rfl | (unfold jj;rw [if_neg e1,if_neg e2,if_neg e3,if_neg e4,if_neg e5,if_neg e6];rfl),rfl⟩)
def eD (y:UInt8):Bool:=decide (48≤y.toNat) && decide (y.toNat≤57)
def pg (s:List UInt8):Int:=s.foldl (fun n y=>10 * n+((y.toNat:Int) - 48)) 0
def oc (s:List UInt8) (most:Int):Option Int:=if s=[]∨10 < s.length then none else if s[0]?=some 48∧1 < s.length then none else if s.all eD=true then (if most < pg s then none else some (pg s)) else none
theorem pM (l:List UInt8) (x:UInt8):pg (l++[x])=10 * pg l+((x.toNat:Int) - 48):=by simp [pg]
theorem wrap_u8 {a:Int} (h0:0≤a) (h1:a≤255):IntKind.u8.wrap a=a:=by simp [IntKind.wrap,IntKind.bits,IntKind.signed];omega
def KC (b:Bool) (y:UInt8):Value:=match b with
 | true=>.tuple ⟨[In ((y.toNat:Int) - 48),.bool true]⟩
 | false=>.tuple ⟨[In 0,.bool false]⟩
theorem Eg {h:aj} (y:UInt8):ai Tryz.prog 309 ⟨[By y]⟩ h fun u h'=>u=KC (eD y) y∧h'=h:=by
 have hy:=y.toNat_lt
 rcases (show eD y=true∧48≤(y.toNat:Int)∧(y.toNat:Int)≤57∨eD y=false∧(y.toNat:Int) < 48∨eD y=false∧48≤(y.toNat:Int)∧57 < (y.toNat:Int) by
   by_cases e1:48≤y.toNat
   · by_cases e2:y.toNat≤57
     · exact .inl ⟨by simp [eD,e1,e2],by omega,by omega⟩
     · exact .inr (.inr ⟨by simp [eD,e2],by omega,by omega⟩)
   · exact .inr (.inl ⟨by simp [eD,e1],by omega⟩)) with ⟨e,h1,h2⟩ | ⟨e,h1⟩ | ⟨e,h1,h2⟩
 aa
   refine calls [(0,_)] Tryz.func309 rfl Tryz.ntmps309 rfl ⟨rfl,trivial⟩ ?_
   aa (refine G2 ?_;refine G3 ?_;refine bU 6 ?_ TT.mk;refine Gg ?_;refine Go ?_;refine Gs [(0,_),(9,_)] ?_;refine aJ 1 2 ?_ TT.mk)
   aa try (
   refine ay 1 ?_
   aa (refine G2 ?_;refine Gt ?_)
   aa (
    rw [e]
    exact ⟨rfl,rfl⟩)
   skip)
   aa (refine ay 2 ?_;refine WC.skip ?_;refine Gn ?_;refine WC.sr ?_;refine WL.step (an rfl) rfl rfl rfl ?_;refine WL.step (uG rfl rfl) rfl rfl rfl ?_;try rw [wrap_u8 (by omega) (by omega)])
   aa (refine WL.step (kW Tryz.underlying5 Tryz.underlying3 rfl (by omega)) rfl rfl rfl (Go ?_);refine Gs [(2,_),(3,_)] ?_;refine Gt ?_)
   aa (
    rw [e]
    exact ⟨rfl,rfl⟩)
theorem BE {y:UInt8} (h:eD y=true):48≤(y.toNat:Int)∧(y.toNat:Int)≤57:=by
 simp [eD] at h
 omega
theorem Eh:∀ (n:Nat) (l:List UInt8),l.length=n→l.all eD=true→0≤pg l∧pg l+1≤10 ^ n:=by
 intro n
 induction n with
 | zero=>intro l hl _;rw [List.eq_nil_of_length_eq_zero hl];exact ⟨by decide,by decide⟩
 | succ n ih =>
   intro l hl ha
   rcases List.eq_nil_or_concat l with rfl | ⟨r,y,rfl⟩
   · simp at hl
   · rw [List.concat_eq_append] at *
     simp only [List.all_append,Bool.and_eq_true,List.all_cons,List.all_nil,Bool.and_true] at ha
     have:=ih r (by simpa using hl) ha.1
     have hd:=BE ha.2
     rw [pM,Int.pow_succ]
     omega
theorem KD {n:Nat} (h:n≤10):(10:Int) ^ n≤10000000000:=by
 match n,h with
 | 0,_=>decide
 | 1,_=>decide
 | 2,_=>decide
 | 3,_=>decide
 | 4,_=>decide
 | 5,_=>decide
 | 6,_=>decide
 | 7,_=>decide
 | 8,_=>decide
 | 9,_=>decide
 | 10,_=>decide
def BF (o:Option Int):Value:=.tuple ⟨[In (o.getD 0),.bool o.isSome]⟩
theorem vv {h:aj} (s:List UInt8) (most:Int) (h1:s=[]∨10 < s.length):ai Tryz.prog 288 ⟨[St s,In most]⟩ h fun u h'=>u=BF none∧h'=h:=by
 rcases h1 with rfl | h1
 · have hs:True:=trivial
   refine calls [(0,_),(1,_)] Tryz.func288 rfl Tryz.ntmps288 rfl ⟨rfl,rfl,trivial⟩ ?_
   refine G2 ?_;refine WC.seq ?_;refine WC.block ?_;refine G3 ?_;refine Gs [(0,_),(1,_),(10,_)] ?_
   refine aJ 1 2 ?_ TT.mk
   aa (refine ay 1 ?_)
   refine WC.skip ?_;refine Gn ?_
   refine aJ 3 4 ?_ TT.mk
   aa (refine ay 3 ?_)
   refine G2 ?_;refine Gt ?_
   exact ⟨rfl,rfl⟩
 · have hs:s ≠ []:=fun e=>by rw [e] at h1;simp at h1
   refine calls [(0,_),(1,_)] Tryz.func288 rfl Tryz.ntmps288 rfl ⟨rfl,rfl,trivial⟩ ?_
   refine G2 ?_;refine WC.seq ?_;refine WC.block ?_;refine G3 ?_;refine Gs [(0,_),(1,_),(10,_)] ?_
   refine aJ 1 2 ?_ TT.mk
   aa (refine ay 2 ?_)
   refine WC.region (Go ?_);refine Gn ?_
   refine aJ 3 4 ?_ TT.mk
   aa (refine ay 3 ?_)
   refine G2 ?_;refine Gt ?_
   exact ⟨rfl,rfl⟩
theorem vw {h:aj} (s:List UInt8) (most:Int) (h1:s ≠ []∧s.length≤10) (h2:s[0]?=some 48∧1 < s.length):ai Tryz.prog 288 ⟨[St s,In most]⟩ h fun u h'=>u=BF none∧h'=h:=by
 have hs:=h1.1
 have e0:=h2.1
 have UC:(((48:UInt8).toNat:Nat):Int)=48:=rfl
 refine calls [(0,_),(1,_)] Tryz.func288 rfl Tryz.ntmps288 rfl ⟨rfl,rfl,trivial⟩ ?_
 refine G2 ?_;refine WC.seq ?_;refine WC.block ?_;refine G3 ?_;refine Gs [(0,_),(1,_),(10,_)] ?_
 refine aJ 1 2 ?_ TT.mk
 aa (refine ay 2 ?_)
 refine WC.region (Go ?_);refine Gn ?_
 refine aJ 3 4 ?_ TT.mk
 aa (refine ay 4 ?_)
 refine G2 ?_;refine WL.step (da Tryz.underlying9 rfl rfl (by omega) e0) rfl rfl rfl (Go ?_)
 refine bU 20 ?_ TT.mk
 refine Gg ?_;refine Go ?_;refine Gs [(0,_),(1,_),(16,_)] ?_
 refine aJ 5 6 ?_ TT.mk
 aa (refine ay 5 ?_)
 refine G2 ?_;refine Gt ?_
 exact ⟨rfl,rfl⟩
theorem yr {h:aj} (s:List UInt8) (most:Int) (h1:s ≠ []∧s.length≤10) (h2:¬ (s[0]?=some 48∧1 < s.length)):ai Tryz.prog 288 ⟨[St s,In most]⟩ h fun u h'=>u=BF (if s.all eD=true then (if most < pg s then none else some (pg s)) else none)∧h'=h:=by
 have hs:=h1.1
 have hp:0 < s.length:=List.length_pos_iff.2 hs
 obtain ⟨y0,e0⟩:∃ y,s[0]?=some y:=⟨_,List.getElem?_eq_getElem (by omega)⟩
 have hq:(y0.toNat:Int) ≠ 48∨(y0.toNat:Int)=48∧¬ (s.length:Int) > 1:=by
   by_cases e:(y0.toNat:Int)=48
   · exact .inr ⟨e,fun e2=>h2 ⟨by rw [e0,show y0=48 from UInt8.toNat_inj.1 (by show _=48;omega)],by omega⟩⟩
   · exact .inl e
 have kd:=fun (h':aj) (y:UInt8)=>Eg (h:=h') y
 rcases hq with hq | ⟨hq,Jh⟩
 aa
   refine calls [(0,_),(1,_)] Tryz.func288 rfl Tryz.ntmps288 rfl ⟨rfl,rfl,trivial⟩ ?_
   aa (refine G2 ?_;refine WC.seq ?_;refine WC.block ?_;refine G3 ?_;refine Gs [(0,_),(1,_),(10,_)] ?_;refine aJ 1 2 ?_ TT.mk;refine ay 2 ?_;refine WC.region (Go ?_);refine Gn ?_;refine aJ 3 4 ?_ TT.mk;refine ay 4 ?_;refine G2 ?_;refine WL.step (da Tryz.underlying9 rfl rfl (by omega) e0) rfl rfl rfl (Go ?_);refine bU 20 ?_ TT.mk;refine Gg ?_;refine Go ?_;refine Gs [(0,_),(1,_),(16,_)] ?_;refine aJ 5 6 ?_ TT.mk;refine ay 6 ?_;refine WC.skip ?_;refine Gn ?_;refine G2 ?_;refine G3 ?_;refine WC.block ?_)
   aa (refine WC.bO (X:=Nat × Int) (fun x=>([(27,In (x.1:Int)),(6,In x.2)]:Fr)) [(0,_),(1,_),(26,_)] (fun x h'=>h'=h∧x.1≤s.length∧x.2=pg (s.take x.1)∧(s.take x.1).all eD=true) (fun x=>s.length - x.1) ((0,0)) ⟨rfl,rfl,rfl,rfl,rfl,trivial⟩ (by exact ⟨rfl,Nat.zero_le _,rfl,rfl⟩) ?_)
   aa (
    rintro ⟨j,n⟩ hh ⟨hz,hj,hn,ha⟩
    dsimp only at hj hn ha
    subst hz
    have KE:=Eh j (s.take j) (by rw [List.length_take];omega) ha
    have UD:=KD (show j≤10 by omega))
   aa (refine WC.sub [(6,_),(27,_),(0,_),(1,_),(26,_)] ⟨rfl,rfl,rfl,rfl,rfl,trivial⟩ ?_;dsimp only)
   aa (refine G2 ?_;refine WC.seq ?_;refine aJ 7 8 (Hb.mk fun hb=>?_) (Hb.mk fun hb=>?_))
   aa try (
   refine ay 7 ?_
   aa (refine WC.skip ?_)
   skip)
   aa try (
   refine ay 8 ?_
   aa (refine WC.exit ?_;repeat' (ae first | refine aZ ?_ | refine aF rfl ?_ | refine aL ?_ | refine aN ?_ | refine aV ?_))
   aa (refine Br.out (i:=1001) ?_)
   skip)
   aa (refine Gn ?_;first | refine Br.ad ?_ | refine WC.seq ?_)
   aa (first | refine Br.ad ?_ | refine WC.block ?_)
   aa (first | refine Br.ad ?_ | refine WC.sr ?_)
   aa (refine Go ?_;first | refine Br.ad ?_ | refine WC.sr ?_)
   aa (
    first
      | (refine Br.ad ?_)
      | (obtain ⟨y,hy⟩:∃ y,s[j]?=some y:=⟨_,List.getElem?_eq_getElem (by omega)⟩
         have FT:=y.toNat_lt))
   aa (first | refine Br.ad ?_ | refine WL.step (an rfl) rfl rfl rfl ?_)
   aa (refine Go ?_;first | refine Br.ad ?_ | (refine WL.step (da Tryz.underlying9 rfl rfl (by omega) hy) rfl rfl rfl ?_))
   aa (
    first
      | (refine Br.ad ?_)
      | (refine WL.call (vs:=[_]) rfl Tryz.call309 rfl (kd _ y) rfl rfl rfl ?_
         rintro _ UE ⟨rfl,jw⟩
         subst jw
         obtain ⟨bd,Ji⟩:∃ b,eD y=b:=⟨_,rfl⟩
         rw [Ji]
         have NN:=fun (e:bd=true)=>BE (Ji.trans e)
         cases bd
         aa first | (have NN:=NN rfl) | clear NN
         aa unfold KC))
   aa (refine Go ?_;first | refine Br.ad ?_ | refine Gs [(0,_),(1,_),(6,_),(8,_),(9,_),(26,_),(27,_)] ?_)
   aa (first | refine Br.ad ?_ | refine WC.seq ?_)
   aa (first | refine Br.ad ?_ | refine WC.sr ?_)
   aa (refine Go ?_;first | refine Br.ad ?_ | refine aJ 9 10 ?_ TT.mk)
   aa try (
   refine ay 9 ?_
   aa (refine G2 ?_;refine Gs [(4,_),(5,_)] ?_;refine Gt ?_)
   aa (
    first
     | (rw [if_neg (show ¬ s.all eD=true from fun e=>by have:=List.all_eq_true.1 e y (List.mem_of_getElem? hy);rw [Ji] at this;cases this)];exact ⟨rfl,rfl⟩)
     | (rw [show s.take j=s from List.take_of_length_le (by omega)] at hn ha;subst hn;rw [if_pos ha,if_pos (by omega)];exact ⟨rfl,rfl⟩)
     | (rw [show s.take j=s from List.take_of_length_le (by omega)] at hn ha;subst hn;rw [if_pos ha,if_neg (by omega)];exact ⟨rfl,rfl⟩))
   skip)
   aa try (
   refine ay 10 ?_
   aa (refine WC.skip ?_)
   skip)
   aa (refine Gn ?_;first | refine Br.ad ?_ | refine WC.region ?_)
   aa (refine Go ?_;first | refine Br.ad ?_ | (refine WL.step (kJ rfl rfl (by omega)) rfl rfl rfl ?_))
   aa (refine Go ?_;first | refine Br.ad ?_ | refine Gs [(0,_),(1,_),(6,_),(26,_),(27,_)] ?_)
   aa (first | refine Br.ad ?_ | refine WC.region ?_)
   aa (refine Go ?_;first | refine Br.ad ?_ | (exact ⟨(j+1,_),⟨rfl,rfl,rfl,rfl,rfl,trivial⟩,(by exact ⟨rfl,by omega,by rw [List.take_add_one,hy,Option.toList_some,pM,← hn],by rw [List.take_add_one,hy];simp [ha,Ji]⟩),(by dsimp only;omega)⟩))
   aa (try (refine Br.mk (i:=1001) ?_))
   aa (refine Gn ?_;refine Gs [(1,_),(6,_)] ?_;refine G3 ?_;refine aJ 11 12 (Hb.mk fun hb=>?_) (Hb.mk fun hb=>?_))
   aa try (
   refine ay 11 ?_
   aa (refine G2 ?_;refine Gs [(4,_),(5,_)] ?_;refine Gt ?_)
   aa (
    first
     | (rw [if_neg (show ¬ s.all eD=true from fun e=>by have:=List.all_eq_true.1 e y (List.mem_of_getElem? hy);rw [Ji] at this;cases this)];exact ⟨rfl,rfl⟩)
     | (rw [show s.take j=s from List.take_of_length_le (by omega)] at hn ha;subst hn;rw [if_pos ha,if_pos (by omega)];exact ⟨rfl,rfl⟩)
     | (rw [show s.take j=s from List.take_of_length_le (by omega)] at hn ha;subst hn;rw [if_pos ha,if_neg (by omega)];exact ⟨rfl,rfl⟩))
   skip)
   aa (refine ay 12 ?_;refine WC.skip ?_;refine Gn ?_;refine Gs [(6,_)] ?_;refine G2 ?_;refine Gt ?_)
   aa (
    first
     | (rw [if_neg (show ¬ s.all eD=true from fun e=>by have:=List.all_eq_true.1 e y (List.mem_of_getElem? hy);rw [Ji] at this;cases this)];exact ⟨rfl,rfl⟩)
     | (rw [show s.take j=s from List.take_of_length_le (by omega)] at hn ha;subst hn;rw [if_pos ha,if_pos (by omega)];exact ⟨rfl,rfl⟩)
     | (rw [show s.take j=s from List.take_of_length_le (by omega)] at hn ha;subst hn;rw [if_pos ha,if_neg (by omega)];exact ⟨rfl,rfl⟩))
theorem BG {h:aj} (s:List UInt8) (most:Int):ai Tryz.prog 288 ⟨[St s,In most]⟩ h fun u h'=>u=BF (oc s most)∧h'=h:=by
 unfold oc
 by_cases h1:s=[]∨10 < s.length
 · rw [if_pos h1]
   exact vv s most h1
 · rw [if_neg h1]
   have P8:s ≠ []∧s.length≤10:=⟨fun e=>h1 (.inl e),by omega⟩
   by_cases h2:s[0]?=some 48∧1 < s.length
   · rw [if_pos h2]
     exact vw s most P8 h2
   · rw [if_neg h2]
     exact yr s most P8 h2
def nc (y:UInt8):Bool:=decide (65≤y.toNat) && decide (y.toNat≤90)
def tw (s:List UInt8):Bool:=decide (s.length=5) && s.all fun y=>eD y || nc y
theorem HJ {h:aj} (s:List UInt8):ai Tryz.prog 289 ⟨[St s]⟩ h fun u h'=>u=.bool (tw s)∧Ext No h h':=by
 unfold tw
 by_cases hl:s.length=5
 · rw [decide_eq_true hl,Bool.true_and]
   refine calls [(0,_)] Tryz.func289 rfl Tryz.ntmps289 rfl ⟨rfl,trivial⟩ ?_
   refine G2 ?_;refine G3 ?_
   refine aJ 1 2 ?_ TT.mk
   aa (refine ay 2 ?_)
   refine WC.skip ?_;refine Gn ?_;refine Gs [(0,_)] ?_;refine G3 ?_;refine WL.al (j5 Tryz.underlying9 Tryz.underlying23 Tryz.underlying5 rfl) rfl rfl rfl ?_
   rintro _ h1 ⟨b1,c1,rfl,b0,rY,aB⟩
   refine Go ?_;refine WC.block ?_;refine WC.bO (X:=Nat) (fun x=>([(13,In (x:Int))]:Fr)) [(11,_),(12,_)] (fun x h'=>h'=h1∧x≤s.length∧(s.take x).all (fun y=>eD y || nc y)=true) (fun x=>s.length - x) (0) ⟨rfl,rfl,rfl,trivial⟩ (by exact ⟨rfl,Nat.zero_le _,rfl⟩) ?_
   rintro j hh ⟨hz,hj,ha⟩
   subst hz
   refine WC.sub [(13,_),(11,_),(12,_)] ⟨rfl,rfl,rfl,trivial⟩ ?_;refine G2 ?_;refine WC.seq ?_
   refine aJ 3 4 (Hb.mk fun hb=>?_) (Hb.mk fun hb=>?_)
   aa try (
   refine ay 3 ?_
   refine WC.skip ?_
   skip)
   aa try (
   refine ay 4 ?_
   refine WC.exit ?_
   repeat' (ae first | refine aZ ?_ | refine aF rfl ?_ | refine aL ?_ | refine aN ?_ | refine aV ?_)
   refine Br.out (i:=1000) ?_
   skip)
   aa (refine Gn ?_;first | refine Br.ad ?_ | refine WC.seq ?_)
   aa (first | refine Br.ad ?_ | refine WC.block ?_)
   aa (first | refine Br.ad ?_ | refine WC.sr ?_)
   aa (
    first
      | (refine Br.ad ?_)
      | (obtain ⟨y,hy⟩:∃ y,s[j]?=some y:=⟨_,List.getElem?_eq_getElem (by omega)⟩
         obtain ⟨bL,oL,hA,gx,cX⟩:=Rd.at_ rY (by omega)
         simp only [Option.some.injEq,Addr.mk.injEq] at hA
         obtain ⟨rfl,rfl,_⟩:=hA
         have fH:=cX.get (p:=0+j * 1) j (show (bK s)[j]?=some (By y) by simp [bK,hy]) (by omega)
         have FT:=y.toNat_lt
         rcases (show (eD y || nc y)=true∧48≤(y.toNat:Int)∧(y.toNat:Int)≤57∨(eD y || nc y)=true∧65≤(y.toNat:Int)∧(y.toNat:Int)≤90∨(eD y || nc y)=false∧(y.toNat:Int) < 48∨(eD y || nc y)=false∧57 < (y.toNat:Int)∧(y.toNat:Int) < 65∨(eD y || nc y)=false∧90 < (y.toNat:Int) by
            by_cases e1:48≤y.toNat <;> by_cases e2:y.toNat≤57 <;> by_cases e3:65≤y.toNat <;> by_cases e4:y.toNat≤90 <;> first | omega | exact .inl ⟨by simp [eD,nc,e1,e2],by omega,by omega⟩ | exact .inr (.inl ⟨by simp [eD,nc,e3,e4],by omega,by omega⟩) | exact .inr (.inr (.inl ⟨by simp [eD,nc,e1,e3],by omega⟩)) | exact .inr (.inr (.inr (.inl ⟨by simp [eD,nc,e2,e3],by omega,by omega⟩))) | exact .inr (.inr (.inr (.inr ⟨by simp [eD,nc,e2,e4],by omega⟩)))) with ⟨hd,i1,i2⟩ | ⟨hd,i1,i2⟩ | ⟨hd,i1⟩ | ⟨hd,i1,i2⟩ | ⟨hd,i1⟩))
   aa (first | refine Br.ad ?_ | (refine WL.step (aG Tryz.underlying23 Tryz.sizeOf5 rfl rfl rfl (by omega) (by first | rfl | assumption)) rfl rfl rfl ?_))
   aa (first | refine Br.ad ?_ | (refine WL.ld rfl (by first | exact fH | assumption) rfl rfl rfl ?_))
   aa (refine Go ?_;first | refine Br.ad ?_ | refine WC.sr ?_)
   aa (refine Go ?_;first | refine Br.ad ?_ | refine bU 19 ?_ TT.mk)
   aa (refine Gg ?_;refine Go ?_;first | refine Br.ad ?_ | refine bU 25 ?_ TT.mk)
   aa (refine Gg ?_;refine Go ?_;first | refine Br.ad ?_ | refine Gs [(5,_),(6,_),(11,_),(12,_),(13,_)] ?_)
   aa (first | refine Br.ad ?_ | refine WC.sr ?_)
   aa (refine Go ?_;first | refine Br.ad ?_ | refine bU 31 ?_ TT.mk)
   aa (refine Gg ?_;refine Go ?_;first | refine Br.ad ?_ | refine Gs [(11,_),(12,_),(13,_),(34,_)] ?_)
   aa (first | refine Br.ad ?_ | refine aJ 5 6 ?_ TT.mk)
   aa try (
   refine ay 5 ?_
   aa (refine G2 ?_;refine Gs [(2,_)] ?_;refine Gt ?_)
   aa (
    first
     | (refine ⟨congrArg Value.bool ?_,aB⟩;rw [List.take_of_length_le (by omega)] at ha;exact ha.symm)
     | (refine ⟨congrArg Value.bool ?_,aB⟩;exact (List.all_eq_false.2 ⟨y,List.mem_of_getElem? hy,by rw [hd];decide⟩).symm))
   skip)
   aa try (
   refine ay 6 ?_
   aa (refine WC.skip ?_)
   skip)
   aa (refine Gn ?_;first | refine Br.ad ?_ | refine WC.region ?_)
   aa (refine Go ?_;first | refine Br.ad ?_ | (exact ⟨j+1,⟨rfl,rfl,rfl,trivial⟩,(by exact ⟨rfl,by omega,by rw [List.take_add_one,hy];simp only [Option.toList_some,List.all_append,ha,List.all_cons,hd,List.all_nil,Bool.and_self]⟩),(by omega)⟩))
   try (refine Br.mk (i:=1000) ?_)
   refine Gn ?_;refine Gs [] ?_;refine G2 ?_;refine Gt ?_
   first
    | (refine ⟨congrArg Value.bool ?_,aB⟩;rw [List.take_of_length_le (by omega)] at ha;exact ha.symm)
    | (refine ⟨congrArg Value.bool ?_,aB⟩;exact (List.all_eq_false.2 ⟨y,List.mem_of_getElem? hy,by rw [hd];decide⟩).symm)
 · rw [decide_eq_false hl,Bool.false_and]
   have UF:(s.length:Int) ≠ 5:=by omega
   refine calls [(0,_)] Tryz.func289 rfl Tryz.ntmps289 rfl ⟨rfl,trivial⟩ ?_
   refine G2 ?_;refine G3 ?_
   refine aJ 1 2 ?_ TT.mk
   aa (refine ay 1 ?_)
   refine G2 ?_;refine Gs [(2,_)] ?_;refine Gt ?_
   exact ⟨rfl,.refl _ _⟩
structure gm where
 k:Int
 n:Int
 c:List UInt8
def gm.cells (v:gm):List Value:=nb v.k v.n v.c
def tz (a b:List UInt8):gm:=if a=([115,101,108,101,99,116]:List UInt8) then (match oc b 99 with | some n=>⟨5,n,[]⟩ | none=>⟨0,0,[]⟩) else if a=([102,97,105,108]:List UInt8) then (if tw b=true then ⟨8,0,b⟩ else ⟨0,0,[]⟩) else ⟨0,0,[]⟩
def bx (t:List UInt8):gm:=match jj (iL t) with
 | some k=>⟨k,0,[]⟩
 | none=>if (mb (iL t)).2.2=true then tz (mb (iL t)).1 (mb (iL t)).2.1 else ⟨0,0,[]⟩
theorem HK {h:aj} (a b:List UInt8):ai Tryz.prog 254 ⟨[St a,St b]⟩ h fun u h'=>u=.agg ⟨(tz a b).cells⟩∧Ext No h h':=by
 have kp:=fun h'=>BG (h:=h') b 99
 have kc:=fun h'=>HJ (h:=h') b
 unfold tz gm.cells nb
 by_cases h1:a=([115,101,108,101,99,116]:List UInt8)
 · subst h1
   rw [if_pos rfl]
   cases hp:oc b 99
   aa
     rw [hp] at kp
     unfold BF at kp
     refine calls [(0,_),(1,_)] Tryz.func254 rfl Tryz.ntmps254 rfl ⟨rfl,rfl,trivial⟩ ?_
     aa (refine WC.sr ?_;refine WL.al (au (fun w=>Tryz.zeroValue278 w)) rfl rfl rfl ?_;rintro _ h1 ⟨b1,rfl,b0,aT,aB⟩;refine Gn ?_;refine G3 ?_;refine WC.block ?_;refine G2 ?_;refine aJ 1 2 ?_ TT.mk;refine ay 1 ?_;refine G2 ?_;refine WL.call (vs:=[_,_]) rfl Tryz.call288 rfl (kp _) rfl rfl rfl ?_;rintro _ hq ⟨rfl,jw⟩;subst jw;refine Go ?_;refine Gs [(4,_),(5,_),(6,_)] ?_;refine G2 ?_;refine aJ 3 4 ?_ TT.mk)
     aa try (
     refine ay 3 ?_
     aa (refine G2 ?_;refine WL.step (aH (vs:=[_,_]) (cs:=[_,_,_]) (fun | [a0,a1]=>[a0,a1,(St [])] | _=>[]) rfl rfl (by kernel_rfl)) rfl rfl rfl ?_;refine WL.az (aq Tryz.sizeOf278 rfl rfl rfl aT rfl (by simp [Value.oneCell'])) rfl rfl ?_;rintro _ h3 ⟨bC,aS⟩;refine Gn ?_;refine Gs [(4,_)] ?_;refine WC.ret ?_;repeat' (ae first | refine bq ?_ | refine ba ?_))
     aa (refine cA _ ⟨⟨_,rfl,bJ Tryz.isAgg278 Tryz.sizeOf278 (by assumption) rfl⟩,trivial⟩ ?_;exact ⟨rfl,aB.trans' aS (fun q hq e=>by omega)⟩)
     skip)
     aa (refine ay 4 ?_;refine WC.skip ?_;refine Gn ?_;refine WC.sr ?_;refine WL.step (aH (vs:=[]) (cs:=[_,_,_]) (fun | []=>[(.int .i64 0),(.int .i64 0),(St [])] | _=>[]) rfl rfl (by kernel_rfl)) rfl rfl rfl ?_;refine WL.az (aq Tryz.sizeOf278 rfl rfl rfl aT rfl (by simp [Value.oneCell'])) rfl rfl ?_;rintro _ h3 ⟨bC,aS⟩;refine Gn ?_;refine WC.ret ?_;repeat' (ae first | refine bq ?_ | refine ba ?_))
     aa (refine cA _ ⟨⟨_,rfl,bJ Tryz.isAgg278 Tryz.sizeOf278 (by assumption) rfl⟩,trivial⟩ ?_;exact ⟨rfl,aB.trans' aS (fun q hq e=>by omega)⟩)
 · rw [if_neg h1]
   by_cases h2:a=([102,97,105,108]:List UInt8)
   · subst h2
     rw [if_pos rfl]
     cases hp:tw b
     aa
       rw [hp] at kc
       refine calls [(0,_),(1,_)] Tryz.func254 rfl Tryz.ntmps254 rfl ⟨rfl,rfl,trivial⟩ ?_
       aa (refine WC.sr ?_;refine WL.al (au (fun w=>Tryz.zeroValue278 w)) rfl rfl rfl ?_;rintro _ h1 ⟨b1,rfl,b0,aT,aB⟩;refine Gn ?_;refine G3 ?_;refine WC.block ?_;refine G2 ?_;refine aJ 1 2 ?_ TT.mk;refine ay 2 ?_;refine G2 ?_;refine Gs [(1,_),(4,_),(18,_)] ?_;refine aJ 5 6 ?_ TT.mk;refine ay 5 ?_;refine G2 ?_;refine WL.call (vs:=[_]) rfl Tryz.call289 rfl (kc _) rfl rfl rfl ?_;rintro _ h2 ⟨rfl,aK⟩;have bR:=aK.obj aT aQ;have X2:=aB.trans aK;refine Gn ?_;refine aJ 7 8 ?_ TT.mk)
       aa try (
       refine ay 7 ?_
       aa (refine G2 ?_;refine WL.step (aH (vs:=[_,_]) (cs:=[_,_,_]) (fun | [a0,a2]=>[a0,(.int .i64 0),a2] | _=>[]) rfl rfl (by kernel_rfl)) rfl rfl rfl ?_;refine WL.az (aq Tryz.sizeOf278 rfl rfl rfl bR rfl (by simp [Value.oneCell'])) rfl rfl ?_;rintro _ h3 ⟨bC,aS⟩;refine Gn ?_;refine Gs [(4,_)] ?_;refine WC.ret ?_;repeat' (ae first | refine bq ?_ | refine ba ?_))
       aa (refine cA _ ⟨⟨_,rfl,bJ Tryz.isAgg278 Tryz.sizeOf278 (by assumption) rfl⟩,trivial⟩ ?_;exact ⟨rfl,X2.trans' aS (fun q hq e=>by omega)⟩)
       skip)
       aa (refine ay 8 ?_;refine WC.skip ?_;refine Gn ?_;refine WC.sr ?_;refine WL.step (aH (vs:=[]) (cs:=[_,_,_]) (fun | []=>[(.int .i64 0),(.int .i64 0),(St [])] | _=>[]) rfl rfl (by kernel_rfl)) rfl rfl rfl ?_;refine WL.az (aq Tryz.sizeOf278 rfl rfl rfl bR rfl (by simp [Value.oneCell'])) rfl rfl ?_;rintro _ h3 ⟨bC,aS⟩;refine Gn ?_;refine WC.ret ?_;repeat' (ae first | refine bq ?_ | refine ba ?_))
       aa (refine cA _ ⟨⟨_,rfl,bJ Tryz.isAgg278 Tryz.sizeOf278 (by assumption) rfl⟩,trivial⟩ ?_;exact ⟨rfl,X2.trans' aS (fun q hq e=>by omega)⟩)
   · rw [if_neg h2]
     refine calls [(0,_),(1,_)] Tryz.func254 rfl Tryz.ntmps254 rfl ⟨rfl,rfl,trivial⟩ ?_
     refine WC.sr ?_;refine WL.al (au (fun w=>Tryz.zeroValue278 w)) rfl rfl rfl ?_
     rintro _ h1 ⟨b1,rfl,b0,aT,aB⟩
     refine Gn ?_;refine G3 ?_;refine WC.block ?_;refine G2 ?_
     refine aJ 1 2 ?_ TT.mk
     aa (refine ay 2 ?_)
     refine G2 ?_;refine Gs [(1,_),(4,_),(18,_)] ?_
     refine aJ 5 6 ?_ TT.mk
     aa (refine ay 6 ?_)
     refine WC.skip ?_;refine Gn ?_;refine WC.sr ?_;refine WL.step (aH (vs:=[]) (cs:=[_,_,_]) (fun | []=>[(.int .i64 0),(.int .i64 0),(St [])] | _=>[]) rfl rfl (by kernel_rfl)) rfl rfl rfl ?_
     refine WL.az (aq Tryz.sizeOf278 rfl rfl rfl aT rfl (by simp [Value.oneCell'])) rfl rfl ?_
     rintro _ h3 ⟨bC,aS⟩
     refine Gn ?_;refine WC.ret ?_
     repeat' (ae first | refine bq ?_ | refine ba ?_)
     refine cA _ ⟨⟨_,rfl,bJ Tryz.isAgg278 Tryz.sizeOf278 (by assumption) rfl⟩,trivial⟩ ?_
     exact ⟨rfl,aB.trans' aS (fun q hq e=>by omega)⟩
theorem pN {h:aj} (t:List UInt8) (hm:t.length≤1000000):ai Tryz.prog 214 ⟨[St t]⟩ h fun u h'=>u=.agg ⟨(bx t).cells⟩∧Ext No h h':=by
 have kt:=fun h'=>HH (h:=h') t hm
 have kw:=fun h'=>HI (h:=h') (iL t)
 have hl:(iL t).length≤1000000:=Nat.le_trans (Nat.le_trans (Eb _) (Ec _)) hm
 have kc:=fun h'=>KB (h:=h') (iL t) hl
 have kp:=fun h'=>HK (h:=h') (mb (iL t)).1 (mb (iL t)).2.1
 unfold bx
 cases hw:jj (iL t)
 · rw [hw] at kw
   dsimp only [Option.getD_none,Option.isSome_none] at kw
   obtain ⟨bc,hc⟩:∃ b,(mb (iL t)).2.2=b:=⟨_,rfl⟩
   rw [hc] at kc
   dsimp only
   rw [hc]
   unfold gm.cells nb at *
   cases bc
   aa
     refine calls [(0,_)] Tryz.func214 rfl Tryz.ntmps214 rfl ⟨rfl,trivial⟩ ?_
     aa (refine WC.sr ?_;refine WL.al (au (fun w=>Tryz.zeroValue278 w)) rfl rfl rfl ?_;rintro _ h1 ⟨b1,rfl,b0,aT,aB⟩;refine Gn ?_;refine G2 ?_;refine WL.call (vs:=[_,_]) rfl Tryz.call251 rfl (kt _) rfl rfl rfl ?_;rintro _ hq ⟨rfl,jw⟩;subst jw;refine Go ?_;refine G3 ?_;refine WL.call (vs:=[_]) rfl Tryz.call252 rfl (kw _) rfl rfl rfl ?_;rintro _ hq ⟨rfl,jw⟩;subst jw;refine Go ?_;refine Gs [(2,_),(3,_),(4,_),(5,_)] ?_;refine G2 ?_;refine aJ 1 2 ?_ TT.mk;refine ay 2 ?_;refine WC.skip ?_;refine Gn ?_;refine G2 ?_;refine WL.call (vs:=[_,_]) rfl Tryz.call253 rfl (kc _) rfl rfl rfl ?_;rintro _ hq ⟨rfl,jw⟩;subst jw;refine Go ?_;refine Gs [(2,_),(6,_),(7,_),(8,_)] ?_;refine G3 ?_;refine aJ 3 4 ?_ TT.mk)
     aa try (
     refine ay 3 ?_
     aa (refine WC.sr ?_;refine WL.step (aH (vs:=[]) (cs:=[_,_,_]) (fun | []=>[(.int .i64 0),(.int .i64 0),(St [])] | _=>[]) rfl rfl (by kernel_rfl)) rfl rfl rfl ?_;refine WL.az (aq Tryz.sizeOf278 rfl rfl rfl aT rfl (by simp [Value.oneCell'])) rfl rfl ?_;rintro _ h3 ⟨bC,aS⟩;have X3:=aB.trans' aS (fun q hq e=>by omega);refine Gn ?_;refine Gs [(2,_)] ?_;refine WC.ret ?_;repeat' (ae first | refine bq ?_ | refine ba ?_))
     aa (refine cA _ ⟨⟨_,rfl,bJ Tryz.isAgg278 Tryz.sizeOf278 (by assumption) rfl⟩,trivial⟩ ?_;exact ⟨rfl,X3⟩)
     skip)
     aa (refine ay 4 ?_;refine WC.skip ?_;refine Gn ?_;refine G2 ?_;refine WL.call (vs:=[_,_]) rfl Tryz.call254 rfl (kp _) rfl rfl rfl ?_;rintro _ h2 ⟨rfl,aK⟩;have bR:=aK.obj aT aQ;refine WL.az (aq Tryz.sizeOf278 rfl rfl rfl bR rfl (by simp [Value.oneCell'])) rfl rfl ?_;rintro _ h3 ⟨bC,aS⟩;have X3:=(aB.trans aK).trans' aS (fun q hq e=>by omega);refine Gn ?_;refine Gs [(2,_)] ?_;refine WC.ret ?_;repeat' (ae first | refine bq ?_ | refine ba ?_))
     aa (refine cA _ ⟨⟨_,rfl,bJ Tryz.isAgg278 Tryz.sizeOf278 (by assumption) rfl⟩,trivial⟩ ?_;exact ⟨rfl,X3⟩)
 · rw [hw] at kw
   unfold gm.cells nb
   refine calls [(0,_)] Tryz.func214 rfl Tryz.ntmps214 rfl ⟨rfl,trivial⟩ ?_
   refine WC.sr ?_;refine WL.al (au (fun w=>Tryz.zeroValue278 w)) rfl rfl rfl ?_
   rintro _ h1 ⟨b1,rfl,b0,aT,aB⟩
   refine Gn ?_;refine G2 ?_;refine WL.call (vs:=[_,_]) rfl Tryz.call251 rfl (kt _) rfl rfl rfl ?_
   rintro _ hq ⟨rfl,jw⟩
   subst jw
   refine Go ?_;refine G3 ?_;refine WL.call (vs:=[_]) rfl Tryz.call252 rfl (kw _) rfl rfl rfl ?_
   rintro _ hq ⟨rfl,jw⟩
   subst jw
   refine Go ?_;refine Gs [(2,_),(3,_),(4,_),(5,_)] ?_;refine G2 ?_
   refine aJ 1 2 ?_ TT.mk
   aa (refine ay 1 ?_)
   refine G2 ?_;refine WL.step (aH (vs:=[_]) (cs:=[_,_,_]) (fun | [a0]=>[a0,(.int .i64 0),(St [])] | _=>[]) rfl rfl (by kernel_rfl)) rfl rfl rfl ?_
   refine WL.az (aq Tryz.sizeOf278 rfl rfl rfl aT rfl (by simp [Value.oneCell'])) rfl rfl ?_
   rintro _ h3 ⟨bC,aS⟩
   refine Gn ?_;refine Gs [(2,_)] ?_;refine WC.ret ?_
   repeat' (ae first | refine bq ?_ | refine ba ?_)
   refine cA _ ⟨⟨_,rfl,bJ Tryz.isAgg278 Tryz.sizeOf278 (by assumption) rfl⟩,trivial⟩ ?_
   exact ⟨rfl,aB.trans' aS (fun q hq e=>by omega)⟩
theorem mc {h:aj} {be me:Nat} {aY:Int} (hb:h[be]?=some (.cells ⟨[.map (some me),In aY]⟩ 104 (0,0))):ai Tryz.prog 258 ⟨[.pointer (some ⟨be,0,none⟩)]⟩ h fun u h'=>u=.bool true∧h'=h:=by
 refine calls [(0,_)] Tryz.func258 rfl Tryz.ntmps258 rfl ⟨rfl,trivial⟩ ?_
 refine G2 ?_;refine G2 ?_;refine WL.step (ej Tryz.underlying46 rfl rfl) rfl rfl rfl (Go ?_)
 refine bU 5 ?_ TT.mk
 refine Gg ?_;refine WL.step (ah rfl) rfl rfl rfl ?_;refine Gg ?_;refine Ld ?_;refine WL.step (zK Tryz.underlying97 rfl rfl) rfl rfl rfl (Go ?_);refine Gs [(2,_)] ?_;refine Gt ?_
 exact ⟨rfl,rfl⟩
section
variable {h:aj} {bs ms bp mp be me:Nat} {st:Int} {sk ov:Bool} {aY:Int} {L P R:List (List UInt8 × Value)}
theorem iz (c:Int):ai Tryz.prog 207 ⟨[.int .u8 c]⟩ h fun u h'=>∃ q,u=.slice (some ⟨q,0,none⟩) 1 1∧h'[q]?=some (.cells ⟨[.int .u8 c,.int .u8 0,St [],St [],St [],In 0,In 0,.slice none 0 0,.slice none 0 0,.slice none 0 0,.slice none 0 0]⟩ 140 (0,0))∧h.size≤q∧Ext No h h':=by
 refine calls [(0,_)] Tryz.func207 rfl Tryz.ntmps207 rfl ⟨rfl,trivial⟩ ?_
 refine G2 ?_;refine G2 ?_;refine WL.step (aH (vs:=[_]) (cs:=[_,_,_,_,_,_,_,_,_,_,_]) (fun | [a0]=>[a0,(.int .u8 0),(St []),(St []),(St []),(.int .i64 0),(.int .i64 0),(.slice none 0 0),(.slice none 0 0),(.slice none 0 0),(.slice none 0 0)] | _=>[]) rfl rfl (by kernel_rfl)) rfl rfl rfl ?_
 refine WL.al (aw (vs:=[_]) (cs:=[_,_,_,_,_,_,_,_,_,_,_]) (fun | [.agg ⟨[a0,a1,a2,a3,a4,a5,a6,a7,a8,a9,iy]⟩]=>[a0,a1,a2,a3,a4,a5,a6,a7,a8,a9,iy] | _=>[]) Tryz.underlying80 rfl rfl (by kernel_rfl)) rfl rfl rfl ?_
 rintro _ h1 ⟨b1,rfl,b0,aT,aB⟩
 refine Go ?_;refine Gs [(2,_)] ?_;refine Gt ?_
 exact ⟨b1,rfl,aT,b0,aB⟩
abbrev nS:Value:=.slice none 0 0
end
section
variable {h h':aj} {bs ms bp mp be me:Nat} {st od:Int} {sk ov:Bool} {aY:Int} {L P P' R:List (List UInt8 × Value)} {S:Nat→Prop}
theorem eE {es:List (List UInt8 × Value)} {m q:Nat} {cs:Array Value} {TT:TypeId} (k:Mp .string St h m es) (hq:h[q]?=some (.cells cs TT (0,0))):¬ q=m:=fun e=>by
 subst e
 obtain ⟨_,_,z,_⟩:=k
 rw [hq] at z
 cases z
theorem Se.KF (k:Se h bs ms bp mp be me st sk ov aY L P R) {q:Nat} {cs:Array Value} (hq:h[q]?=some (.cells cs 273 (0,0))) (x:Ext (fun z=>z=q) h h'):Se h' bs ms bp mp be me st sk ov aY L P R:=by
 have o:∀ {z:Nat} {ds:Array Value} {TT:TypeId},TT ≠ 273→h[z]?=some (.cells ds TT (0,0))→¬ z=q:=fun hT hz e=>by
   subst e
   rw [hq] at hz
   simp only [Option.some.injEq,Obj.cells.injEq] at hz
   exact hT hz.2.1.symm
 exact ⟨x.obj k.bB (o (by decide) k.bB),k.ka.ext x (fun e=>eE k.ka hq e.symm),x.obj k.pb (o (by decide) k.pb),k.pm.ext x (fun e=>eE k.pm hq e.symm),x.obj k.eb (o (by decide) k.eb),k.em.ext x (fun e=>eE k.em hq e.symm),k.ne⟩
theorem Se.jU (k:Se h bs ms bp mp be me st sk ov aY L P R) {yu yw:Bool} (x:Ext (fun z=>z=bs) h h') (hb:h'[bs]?=some (.cells ⟨[.map (some ms),.pointer (some ⟨bp,0,none⟩),.pointer (some ⟨be,0,none⟩),.int .u8 od,.bool yu,.bool yw]⟩ 153 (0,0))):Se h' bs ms bp mp be me od yu yw aY L P R:=by
 have hq:=k.bB
 have o:∀ {z:Nat} {ds:Array Value} {TT:TypeId},TT ≠ 153→h[z]?=some (.cells ds TT (0,0))→¬ z=bs:=fun hT hz e=>by
   subst e
   rw [hq] at hz
   simp only [Option.some.injEq,Obj.cells.injEq] at hz
   exact hT hz.2.1.symm
 exact ⟨hb,k.ka.ext x (fun e=>eE k.ka hq e.symm),x.obj k.pb (o (by decide) k.pb),k.pm.ext x (fun e=>eE k.pm hq e.symm),x.obj k.eb (o (by decide) k.eb),k.em.ext x (fun e=>eE k.em hq e.symm),k.ne⟩
def pB:List UInt8 × List Int × List (Bool × List UInt8) × List (List (Bool × List UInt8)) × Bool × Bool:=(rh,[],[],[],false,false)
theorem KG {b m p:Nat} {es:List (List UInt8 × Value)} {name:List UInt8} {d:PD} (r:Pe h b m es p name d) :
   ai Tryz.prog 249 ⟨[.pointer (some ⟨b,0,none⟩),St name]⟩ h fun u h'=>(∃ d':PD,u=.tuple ⟨[.agg ⟨d'.cells⟩,.bool true]⟩∧d'.ok h'∧d'.pl=d.pl∧∀ k,d'.F k→h.size≤k)∧Ext No h h':=by
 refine calls [(0,_),(1,_)] Tryz.func249 rfl Tryz.ntmps249 rfl ⟨rfl,rfl,trivial⟩ ?_
 refine WC.sr ?_;refine WL.al (au (fun w=>Tryz.zeroValue273 w)) rfl rfl rfl ?_
 rintro _ h1 ⟨b1,rfl,b0,aT,aB⟩
 have r1:=r.av aB
 refine Go ?_;refine G2 ?_;refine WL.call (vs:=[_,_]) rfl Tryz.call256 rfl (u6 r1) rfl rfl rfl ?_
 rintro _ hz ⟨rfl,_⟩
 subst hz
 refine Go ?_;refine Gs [(4,_),(6,_),(7,_)] ?_;refine G3 ?_
 refine aJ 1 2 ?_ TT.mk
 aa (refine ay 2 ?_)
 refine WC.skip ?_;refine Gn ?_;refine G2 ?_;refine WL.step (ah rfl) rfl rfl rfl ?_;refine WL.step (aA Tryz.isAgg273 Tryz.sizeOf273 rfl rfl (by exact At.ax r1.bB)) rfl rfl rfl ?_
 refine WL.call (vs:=[_]) rfl Tryz.call248 rfl (tb d r1.ok) rfl rfl rfl ?_
 rintro _ h2 ⟨d2,rfl,jv,lj,aK,fg⟩
 refine WL.az (aq Tryz.sizeOf273 rfl rfl rfl (aK.obj aT aQ) rfl (fp jv)) rfl rfl ?_
 rintro _ h3 ⟨bC,aS⟩
 refine Go ?_;refine Gs [(4,_),(5,_)] ?_;refine WC.ret ?_
 repeat' (ae first | refine bq ?_ | refine ba ?_)
 refine di _ _ ⟨⟨_,rfl,bJ Tryz.isAgg273 Tryz.sizeOf273 (by assumption) rfl⟩,rfl,trivial⟩ ?_
 exact ⟨⟨d2,rfl,jv.ext aS (fun k hk e=>by have:=fg k hk;have:=ak aT;omega),lj,fun k hk=>by have:=fg k hk;have:=aB.size;omega⟩,(aB.trans aK).trans' aS (fun k hk e=>by omega)⟩
end
def cF (v:gm):Bool:=decide (v.k=3∨v.k=4)
def gE (v:gm):Bool:=decide (v.k=5∨v.k=6∨v.k=7)
theorem ns {h:aj} (v:gm):ai Tryz.prog 265 ⟨[.agg ⟨v.cells⟩]⟩ h fun u h'=>u=.bool (cF v)∧Ext No h h':=HD v.k v.n v.c
theorem ll {h:aj} (v:gm):ai Tryz.prog 215 ⟨[.agg ⟨v.cells⟩]⟩ h fun u h'=>u=.bool (gE v)∧Ext No h h':=Ea v.k v.n v.c
def jk (st:Int):Prop:=st=73∨st=84∨st=69
theorem wY {h:aj} {st:Int} (hs:jk st):ai Tryz.prog 227 ⟨[.int .u8 st]⟩ h fun u h'=>u=.int .u8 st∧h'=h:=by
 have kr:ai Tryz.prog 267 ⟨[.int .u8 st]⟩ h fun u h'=>u=.bool true∧h'=h:=by
   rcases hs with rfl | rfl | rfl
   aa
     refine calls [(0,_)] Tryz.func267 rfl Tryz.ntmps267 rfl ⟨rfl,trivial⟩ ?_
     aa (refine G2 ?_;refine G3 ?_;refine WC.block ?_;refine G3 ?_;refine aJ 1 2 ?_ TT.mk)
     aa try (
     refine ay 1 ?_
     aa (refine WC.skip ?_)
     skip)
     aa try (
     refine ay 2 ?_
     aa (refine G2 ?_;refine Gs [(3,_),(4,_)] ?_;refine aJ 3 4 ?_ TT.mk)
     aa try (
     refine ay 3 ?_
     aa (refine WC.skip ?_)
     skip)
     aa try (
     refine ay 4 ?_
     aa (refine WC.region (Go ?_))
     skip)
     skip)
     aa (refine Gn ?_;refine aJ 5 6 ?_ TT.mk;refine ay 5 ?_;refine G2 ?_;refine Gt ?_;exact ⟨rfl,rfl⟩)
 refine calls [(0,_)] Tryz.func227 rfl Tryz.ntmps227 rfl ⟨rfl,trivial⟩ ?_
 refine G2 ?_;refine G3 ?_;refine WL.call (vs:=[_]) rfl Tryz.call267 rfl (kr) rfl rfl rfl ?_
 rintro _ hz ⟨rfl,_⟩
 subst hz
 refine Go ?_
 refine aJ 1 2 ?_ TT.mk
 aa (refine ay 2 ?_)
 refine WC.skip ?_;refine Gn ?_;refine Gs [(0,_)] ?_;refine G2 ?_;refine Gt ?_
 exact ⟨rfl,rfl⟩
def fu (st:Int):Int:=if st=84 then 69 else st
theorem oe {st:Int} (hs:jk st):jk (fu st):=by
 rcases hs with rfl | rfl | rfl
 · exact .inl rfl
 · exact .inr (.inr rfl)
 · exact .inr (.inr rfl)
theorem BH {h:aj} {st:Int} (hs:jk st):ai Tryz.prog 156 ⟨[.int .u8 st]⟩ h fun u h'=>u=.int .u8 (fu st)∧h'=h:=by
 have kh:=fun h'=>wY (h:=h') hs
 rcases hs with rfl | rfl | rfl
 aa
   refine calls [(0,_)] Tryz.func156 rfl Tryz.ntmps156 rfl ⟨rfl,trivial⟩ ?_
   aa (refine G2 ?_;refine G3 ?_;refine WL.call (vs:=[_]) rfl Tryz.call227 rfl (kh _) rfl rfl rfl ?_;rintro _ hz ⟨rfl,_⟩;subst hz;refine Go ?_;refine G2 ?_;refine Gs [(0,_),(6,_)] ?_;refine aJ 1 2 ?_ TT.mk)
   aa try (
   refine ay 1 ?_
   aa (refine G2 ?_;refine Gt ?_;exact ⟨rfl,rfl⟩)
   skip)
   aa (refine ay 2 ?_;refine WC.skip ?_;refine Gn ?_;refine G2 ?_;refine Gt ?_;exact ⟨rfl,rfl⟩)
def tA (st:Int) (v:gm):List UInt8:=if v.k=4∨st=69 then ([82,79,76,76,66,65,67,75]:List UInt8) else ([67,79,77,77,73,84]:List UInt8)
theorem Ei {h:aj} {st:Int} (v:gm):ai Tryz.prog 296 ⟨[.int .u8 st,.agg ⟨v.cells⟩]⟩ h fun u h'=>u=St (tA st v)∧Ext No h h':=by
 unfold gm.cells nb
 rcases (show tA st v=([82,79,76,76,66,65,67,75]:List UInt8)∧v.k=4∨tA st v=([82,79,76,76,66,65,67,75]:List UInt8)∧v.k ≠ 4∧st=69∨tA st v=([67,79,77,77,73,84]:List UInt8)∧v.k ≠ 4∧st ≠ 69 by
   unfold tA
   by_cases e1:v.k=4
   · exact .inl ⟨if_pos (.inl e1),e1⟩
   · by_cases e2:st=69
     · exact .inr (.inl ⟨if_pos (.inr e2),e1,e2⟩)
     · exact .inr (.inr ⟨if_neg (fun e=>e.elim e1 e2),e1,e2⟩)) with ⟨e,h1⟩ | ⟨e,h1,h2⟩ | ⟨e,h1,h2⟩
 aa
   refine calls [(0,_),(1,_)] Tryz.func296 rfl Tryz.ntmps296 rfl ⟨rfl,rfl,trivial⟩ ?_
   aa (refine WC.sr ?_;refine WL.al (aI rfl) rfl rfl rfl ?_;rintro _ g1 ⟨b1,rfl,b0,aT,aB⟩;refine Go ?_;refine G3 ?_;refine Ld ?_;refine Go ?_;refine bU 8 ?_ TT.mk;refine Gg ?_;refine Go ?_;refine Gs [(11,_)] ?_;refine aJ 1 2 ?_ TT.mk)
   aa try (
   refine ay 1 ?_
   aa (refine G2 ?_;refine Gt ?_;exact ⟨by rw [e],aB⟩)
   skip)
   aa (refine ay 2 ?_;refine WC.skip ?_;refine Gn ?_;refine G2 ?_;refine Gt ?_;exact ⟨by rw [e],aB⟩)
def fv (st:Int) (v:gm):Int × List UInt8:=if cF v=true then (73,tA st v) else if v.k ≠ 2 then (st,[]) else (if st=73 then 84 else st,([66,69,71,73,78]:List UInt8))
theorem tB {st:Int} (hs:jk st) (v:gm):jk (fv st v).1:=by
 unfold fv
 split
 · exact .inl rfl
 · split
   · exact hs
   · dsimp only
     split
     · exact .inr (.inl rfl)
     · exact hs
theorem BI {h:aj} {st:Int} (hs:jk st) (v:gm):ai Tryz.prog 264 ⟨[.int .u8 st,.agg ⟨v.cells⟩]⟩ h fun u h'=>u=.tuple ⟨[.int .u8 (fv st v).1,St (fv st v).2]⟩∧Ext No h h':=by
 have kh:=fun h'=>wY (h:=h') hs
 have kx:=fun h'=>ns (h:=h') v
 have ke:=fun h'=>Ei (h:=h') (st:=st) v
 unfold gm.cells nb at *
 rcases (show cF v=true∧fv st v=(73,tA st v)∨cF v=false∧v.k ≠ 2∧fv st v=(st,[])∨cF v=false∧v.k=2∧st=73∧fv st v=(84,([66,69,71,73,78]:List UInt8))∨cF v=false∧v.k=2∧st ≠ 73∧fv st v=(st,([66,69,71,73,78]:List UInt8)) by
   unfold fv
   cases e1:cF v
   · by_cases e2:v.k=2
     · by_cases e3:st=73
       · exact .inr (.inr (.inl ⟨rfl,e2,e3,by simp [e2,e3]⟩))
       · exact .inr (.inr (.inr ⟨rfl,e2,e3,by simp [e2,e3]⟩))
     · exact .inr (.inl ⟨rfl,e2,by simp [e2]⟩)
   · exact .inl ⟨rfl,by simp⟩) with ⟨e,e4⟩ | ⟨e,h1,e4⟩ | ⟨e,h1,h2,e4⟩ | ⟨e,h1,h2,e4⟩
 aa
   rw [e] at kx
   refine calls [(0,_),(1,_)] Tryz.func264 rfl Tryz.ntmps264 rfl ⟨rfl,rfl,trivial⟩ ?_
   aa (refine WC.sr ?_;refine WL.al (aI rfl) rfl rfl rfl ?_;rintro _ g1 ⟨b1,rfl,b0,aT,aB⟩;refine Go ?_;refine G2 ?_;refine WL.call (vs:=[_]) rfl Tryz.call227 rfl (kh _) rfl rfl rfl ?_;rintro _ hz ⟨rfl,_⟩;subst hz;refine Go ?_;refine Gs [(0,_),(3,_)] ?_;refine WC.seq ?_;refine WC.sr ?_;refine WL.step (aA Tryz.isAgg278 Tryz.sizeOf278 rfl rfl (by exact At.ax aT)) rfl rfl rfl ?_;refine WL.call (vs:=[_]) rfl Tryz.call265 rfl (kx _) rfl rfl rfl ?_;rintro _ g2 ⟨rfl,aK⟩;have bR:=aK.obj aT aQ;have X2:=aB.trans aK;refine Gn ?_;refine aJ 1 2 ?_ TT.mk)
   aa try (
   refine ay 1 ?_
   aa (refine G2 ?_;refine WL.step (aA Tryz.isAgg278 Tryz.sizeOf278 rfl rfl (by exact At.ax bR)) rfl rfl rfl ?_;refine WL.call (vs:=[_,_]) rfl Tryz.call296 rfl (ke _) rfl rfl rfl ?_;rintro _ g3 ⟨rfl,aS⟩;have X2:=X2.trans aS;refine Go ?_;refine Gs [(4,_),(5,_)] ?_;refine Gt ?_;exact ⟨by rw [e4],X2⟩)
   skip)
   aa (refine ay 2 ?_;refine WC.skip ?_;refine Gn ?_;refine G3 ?_;refine WL.ld rfl (by first | exact ab bR rfl | assumption) rfl rfl rfl (Go ?_);refine Gs [(0,_),(15,_)] ?_;refine aJ 3 4 ?_ TT.mk)
   aa try (
   refine ay 3 ?_
   aa (refine G2 ?_;refine Gt ?_;exact ⟨by rw [e4],X2⟩)
   skip)
   aa (refine ay 4 ?_;refine WC.skip ?_;refine Gn ?_;refine G3 ?_;refine aJ 5 6 ?_ TT.mk)
   aa try (
   refine ay 5 ?_
   aa (refine WC.region (Go ?_))
   skip)
   aa try (
   refine ay 6 ?_
   aa (refine WC.skip ?_)
   skip)
   aa (refine Gn ?_;refine G2 ?_;refine Gs [(4,_),(5,_)] ?_;refine Gt ?_;exact ⟨by rw [e4],X2⟩)
def ph (v:gm) (aU:Nat):Int:=if v.k=6 then ((min aU 1000:Nat):Int) else if gE v=true then 1 else 0
theorem pO {h:aj} (v:gm) (aU:Nat):ai Tryz.prog 223 ⟨[.agg ⟨v.cells⟩,In (aU:Int)]⟩ h fun u h'=>u=In (ph v aU)∧Ext No h h':=by
 have kx:=fun h'=>ll (h:=h') v
 unfold gm.cells nb at *
 rcases (show v.k=6∧ph v aU=((min aU 1000:Nat):Int)∨v.k ≠ 6∧gE v=true∧ph v aU=1∨v.k ≠ 6∧gE v=false∧ph v aU=0 by
   unfold ph
   by_cases e2:v.k=6
   · exact .inl ⟨e2,if_pos e2⟩
   · cases e1:gE v
     · exact .inr (.inr ⟨e2,rfl,by simp [e2]⟩)
     · exact .inr (.inl ⟨e2,rfl,by simp [e2]⟩)) with ⟨h1,e4⟩ | ⟨h1,e,e4⟩ | ⟨h1,e,e4⟩
 aa
   try rw [e] at kx
   refine calls [(0,_),(1,_)] Tryz.func223 rfl Tryz.ntmps223 rfl ⟨rfl,rfl,trivial⟩ ?_
   aa (refine WC.sr ?_;refine WL.al (aI rfl) rfl rfl rfl ?_;rintro _ g1 ⟨b1,rfl,b0,aT,aB⟩;refine Go ?_;refine WC.seq ?_;refine WC.block ?_;refine G2 ?_;refine Ld ?_;refine Go ?_;refine Gs [(1,_),(2,_),(5,_)] ?_;refine aJ 1 2 ?_ TT.mk)
   aa try (
   refine ay 1 ?_
   aa (refine G2 ?_;refine WL.step (qF rfl rfl) rfl rfl rfl ?_;refine WL.step (kU rfl rfl) rfl rfl rfl (Go ?_);refine Gs [(4,_)] ?_;refine Gt ?_;refine ⟨by rw [e4] <;> (congr 1;omega),aB⟩)
   skip)
   aa (refine ay 2 ?_;refine WC.sr ?_;refine WL.step (aA Tryz.isAgg278 Tryz.sizeOf278 rfl rfl (by exact At.ax aT)) rfl rfl rfl ?_;refine WL.call (vs:=[_]) rfl Tryz.call215 rfl (kx _) rfl rfl rfl ?_;rintro _ g2 ⟨rfl,aK⟩;replace aB:=aB.trans aK;refine Go ?_;refine Gs [(12,_)] ?_;refine aJ 3 4 ?_ TT.mk)
   aa try (
   refine ay 3 ?_
   aa (refine G2 ?_;refine Gt ?_;refine ⟨by rw [e4] <;> (congr 1;omega),aB⟩)
   skip)
   aa (refine ay 4 ?_;refine WC.skip ?_;refine Gn ?_;refine G2 ?_;refine Gt ?_;refine ⟨by rw [e4] <;> (congr 1;omega),aB⟩)
section
variable {κ α:Type} [DecidableEq κ]
def bQ (L:List (κ × α)) (n:κ):Option α:=(L.find? fun p=>decide (p.1=n)).map (·.2)
def ct (L:List (κ × α)) (n:κ):List (κ × α):=L.filter fun p=>decide (p.1 ≠ n)
theorem fJ (p:κ × α) (L:List (κ × α)) (n:κ):bQ (p :: L) n=if p.1=n then some p.2 else bQ L n:=by
 unfold bQ
 rw [List.find?_cons]
 by_cases h:p.1=n <;> simp [h]
theorem cm {L:List (κ × α)} {n:κ} {v:α} (h:bQ L n=some v):(n,v)∈L:=by
 unfold bQ at h
 obtain ⟨p,hp,rfl⟩:=Option.map_eq_some_iff.1 h
 have h1:=List.find?_some hp
 simp at h1
 rw [← h1]
 exact List.mem_of_find?_eq_some hp
theorem nu {L:List (κ × α)} {n:κ} (h:bQ L n=none):∀ p∈L,p.1 ≠ n:=by
 unfold bQ at h
 rw [Option.map_eq_none_iff,List.find?_eq_none] at h
 exact fun p hp e=>h p hp (by simp [e])
theorem yx {L:List (κ × α)} {n:κ} (h:∀ p∈L,p.1 ≠ n):bQ L n=none:=by
 rcases hg:bQ L n with _ | v
 · rfl
 · exact absurd rfl (h _ (cm hg))
theorem nw {L:List (κ × α)} (hn:(L.map (·.1)).Nodup) {n:κ} {v:α} (h:(n,v)∈L):bQ L n=some v:=by
 induction L with
 | nil=>cases h
 | cons a L ih =>
   rw [fJ]
   simp only [List.map_cons,List.nodup_cons,List.mem_map,not_exists,not_and] at hn
   rcases List.mem_cons.1 h with rfl | h
   · rw [if_pos rfl]
   · rw [if_neg (fun e=>hn.1 (n,v) h e.symm)]
     exact ih hn.2 h
theorem gW {L:List (κ × α)} {n:κ}:(bQ L n).isSome=true ↔ n∈L.map (·.1):=by
 constructor
 · intro h
   obtain ⟨v,hv⟩:=Option.isSome_iff_exists.1 h
   exact List.mem_map.2 ⟨_,cm hv,rfl⟩
 · intro h
   obtain ⟨p,hp,rfl⟩:=List.mem_map.1 h
   rcases hg:bQ L p.1 with _ | v
   · exact absurd rfl (nu hg p hp)
   · rfl
def fq (f:α→Value) (E:List (κ × α)):List (κ × Value):=E.map fun p=>(p.1,f p.2)
theorem cW (f:α→Value) (E:List (κ × α)) (n:κ):dg (fq f E) n=(bQ E n).map f:=by
 unfold dg fq bQ
 induction E with
 | nil=>rfl
 | cons a E ih =>
   simp only [List.map_cons,List.find?_cons]
   by_cases h:a.1=n <;> simp [h] at ih ⊢
   exact ih
def cz (E:List (κ × α)) (n:κ) (v:α):List (κ × α):=if (bQ E n).isSome=true then E.map (fun p=>if p.1=n then (n,v) else p) else E++[(n,v)]
theorem mf (f:α→Value) (E:List (κ × α)) (n:κ) (v:α):uN (fq f E) n (f v)=fq f (cz E n v):=by
 unfold uN cz
 rw [cW]
 rcases bQ E n with _ | w
 · simp [fq]
 · simp only [Option.map_some,Option.isSome_some,if_true,fq,List.map_map]
   refine List.map_congr_left fun p _=>?_
   simp only [Function.comp]
   split <;> rfl
theorem eS (f:α→Value) (E:List (κ × α)) (n:κ):mU (fq f E) n=fq f (ct E n):=by
 unfold mU fq ct
 rw [List.filter_map]
 rfl
omit [DecidableEq κ] in
theorem mg (f:α→Value) (E:List (κ × α)):(fq f E).map (·.1)=E.map (·.1):=by simp [fq,List.map_map,Function.comp_def]
theorem mh (L:List (κ × α)) (n:κ) (v:α):(cz L n v).map (·.1)=if n∈L.map (·.1) then L.map (·.1) else L.map (·.1)++[n]:=by
 unfold cz
 by_cases h:(bQ L n).isSome=true
 · rw [if_pos h,if_pos (gW.1 h),List.map_map]
   refine List.map_congr_left fun p _=>?_
   simp only [Function.comp]
   split
   · bw e;exact e.symm
   · rfl
 · rw [if_neg h,if_neg (fun e=>h (gW.2 e))]
   simp
theorem wZ {L:List (κ × α)} (hn:(L.map (·.1)).Nodup) (n:κ) (v:α):((cz L n v).map (·.1)).Nodup:=by
 rw [mh]
 split
 · exact hn
 · bw h
   rw [List.nodup_append]
   exact ⟨hn,by simp,fun a ha b hb=>by rw [List.mem_singleton.1 hb];exact fun e=>h (e▸ha)⟩
theorem BJ {L:List (κ × α)} (hn:(L.map (·.1)).Nodup) (n m:κ) (v:α):bQ (cz L n v) m=if m=n then some v else bQ L m:=by
 by_cases e:m=n
 · subst e
   rw [if_pos rfl]
   refine nw (wZ hn m v) ?_
   unfold cz
   split
   · bw h
     obtain ⟨w,hw⟩:=Option.isSome_iff_exists.1 h
     exact List.mem_map.2 ⟨_,cm hw,by simp⟩
   · simp
 · rw [if_neg e]
   rcases h:bQ L m with _ | w
   · refine yx fun p hp e2=>?_
     have:m∈(cz L n v).map (·.1):=e2▸List.mem_map.2 ⟨p,hp,rfl⟩
     have hm:m ∉ L.map (·.1):=fun hm=>by have:=gW.2 hm;rw [h] at this;cases this
     rw [mh] at this
     split at this
     · exact hm this
     · rcases List.mem_append.1 this with h1 | h1
       · exact hm h1
       · exact e (List.mem_singleton.1 h1)
   · refine nw (wZ hn n v) ?_
     have:=cm h
     unfold cz
     split
     · exact List.mem_map.2 ⟨_,this,by simp [e]⟩
     · exact List.mem_append_left _ this
theorem BK (L:List (κ × α)) (n m:κ):bQ (ct L n) m=if m=n then none else bQ L m:=by
 induction L with
 | nil=>simp [ct,bQ]
 | cons a L ih =>
   unfold ct at ih ⊢
   rw [List.filter_cons]
   by_cases h:a.1=n
   · rw [if_neg (by simp [h]),ih,fJ]
     by_cases e:m=n
     · simp [e]
     · rw [if_neg e,if_neg e,if_neg (fun e2=>e (by rw [← e2,h]))]
   · rw [if_pos (by simp [h]),fJ,fJ,ih]
     by_cases e:a.1=m
     · rw [if_pos e,if_pos e,if_neg (fun e2=>h (by rw [e,e2]))]
     · rw [if_neg e,if_neg e]
end
structure gX where
  text : List UInt8
  vo : Value
  aU : List Int
structure eI where
  p : Nat
  d : PD
def uA (s : gX) : Value := .agg ⟨[St s.text, s.vo]⟩
def xa (i : eI) : Value := .pointer (some ⟨i.p, 0, none⟩)
structure Ad where
  bs : Nat
  ms : Nat
  bp : Nat
  mp : Nat
  be : Nat
  me : Nat
    z : Nat → Prop
def Mu (A : Ad) (P : List (List UInt8 × eI)) (q : Nat) : Prop := q = A.bs ∨ q = A.ms ∨ q = A.mp ∨ q = A.be ∨ ∃ r ∈ P, q = r.2.p
structure Zk (h : aj) (A : Ad) (L : List (List UInt8 × gX)) (P : List (List UInt8 × eI)) : Prop where
  l : ∀ q ∈ L, ∀ k, 0 < q.2.aU.length → q.2.vo.ownBlock = some k → ¬ A.z k
  p : ∀ q ∈ P, ∀ k, q.2.d.F k → ¬ A.z k
  s : ∀ q, A.z q → q < h.size
theorem Zk.sub {h h' : aj} {A : Ad} {L L' : List (List UInt8 × gX)} {P P' : List (List UInt8 × eI)} (k : Zk h A L P) (hs : h.size ≤ h'.size) (hL : ∀ q ∈ L', q ∈ L) (hP : ∀ q ∈ P', q ∈ P) : Zk h' A L' P' := ⟨fun q hq => k.l q (hL q hq), fun q hq => k.p q (hP q hq), fun q hq => Nat.lt_of_lt_of_le (k.s q hq) hs⟩
theorem Zk.up {h h' : aj} {A : Ad} {L : List (List UInt8 × gX)} {P : List (List UInt8 × eI)} (k : Zk h A L P) (hs : h.size ≤ h'.size) : Zk h' A L P := k.sub hs (fun _ h => h) (fun _ h => h)
structure Ss (h : aj) (A : Ad) (st : Int) (sk ov : Bool) (aY : Int) (L : List (List UInt8 × gX)) (P : List (List UInt8 × eI)) : Prop where
  se : Se h A.bs A.ms A.bp A.mp A.be A.me st sk ov aY (fq uA L) (fq xa P) []
  jA : ∀ q ∈ L, Rd h q.2.vo 1 q.2.aU.length (ints q.2.aU) ∧ q.2.aU.length ≤ 20000 ∧ ∀ k, 0 < q.2.aU.length → q.2.vo.ownBlock = some k → ¬ Mu A P k
  eJ : ∀ q ∈ P, h[q.2.p]? = some (.cells ⟨q.2.d.cells⟩ 273 (0, 0)) ∧ q.2.d.ok h ∧ ∀ k, q.2.d.F k → ¬ Mu A P k
  xb : ∀ q ∈ P, ∀ r ∈ P, q.1 ≠ r.1 → q.2.p ≠ r.2.p
  r9 : jk st
  yz : 0 ≤ aY ∧ aY ≤ 1000000
  zz : Zk h A L P
def Tn (A : Ad) (P : List (List UInt8 × eI)) (h h' : aj) (P' : List (List UInt8 × eI)) : Prop := Ext (Mu A P) h h' ∧ ∀ q, q < h.size → Mu A P' q → Mu A P q
theorem Tn.trans {A : Ad} {P P' Qa : List (List UInt8 × eI)} {h h' gg : aj} (a : Tn A P h h' P') (b : Tn A P' h' gg Qa) : Tn A P h gg Qa :=
  ⟨a.1.trans' b.1 (fun q hq e => a.2 q hq e), fun q hq e => a.2 q hq (b.2 q (by have := a.1.size; omega) e)⟩
theorem Tn.no {A : Ad} {P : List (List UInt8 × eI)} {h h' : aj} (x : Ext No h h') : Tn A P h h' P := ⟨x.mono fun _ _ e => e.elim, fun _ _ e => e⟩
theorem Tn.same {A : Ad} {P : List (List UInt8 × eI)} {h h' : aj} {S : Nat → Prop} (x : Ext S h h') (hS : ∀ q, S q → Mu A P q) : Tn A P h h' P := ⟨x.mono fun _ _ e => hS _ e, fun _ _ e => e⟩
theorem cD {κ α : Type} [DecidableEq κ] {E : List (κ × α)} {n : κ} {v : α} {q : κ × α} (h : q ∈ cz E n v) : q = (n, v) ∨ (q ∈ E ∧ q.1 ≠ n) := by
  unfold cz at h
  split at h
  · obtain ⟨p, hp, rfl⟩ := List.mem_map.1 h
    by_cases e : p.1 = n
    · rw [if_pos e]; exact .inl rfl
    · rw [if_neg e]; exact .inr ⟨hp, e⟩
  · bw hg
    rcases List.mem_append.1 h with h | h
    · exact .inr ⟨h, fun e => hg (gW.2 (List.mem_map.2 ⟨q, h, e⟩))⟩
    · exact .inl (List.mem_singleton.1 h)
theorem cJ {κ α : Type} [DecidableEq κ] {E : List (κ × α)} {n : κ} {q : κ × α} (h : q ∈ ct E n) : q ∈ E ∧ q.1 ≠ n := by
  unfold ct at h
  obtain ⟨h1, h2⟩ := List.mem_filter.1 h
  exact ⟨h1, by simpa using h2⟩
theorem bE {h : aj} {a b : Nat} {c d : Array Value} {T U : TypeId} {y z : Nat × Nat} (ha : h[a]? = some (.cells c T y)) (hb : h[b]? = some (.cells d U z)) (hT : T ≠ U) : a ≠ b := fun e => by
  subst e
  rw [ha] at hb
  simp only [Option.some.injEq, Obj.cells.injEq] at hb
  exact hT hb.2.1
section
variable {h h' : aj} {A : Ad} {st od : Int} {sk ov yu yw : Bool} {aY og : Int} {L : List (List UInt8 × gX)} {P : List (List UInt8 × eI)} {S : Nat → Prop}
theorem Ss.not (k : Ss h A st sk ov aY L P) {q : Nat} {cs : Array Value} {T : TypeId} (hq : h[q]? = some (.cells cs T (0, 0))) (h1 : T ≠ 153) (h2 : T ≠ 104) (h3 : T ≠ 273) : ¬ Mu A P q := fun e => by
  rcases e with e | e | e | e | ⟨r, hr, e⟩
  · exact bE hq k.se.bB h1 e
  · exact eE k.se.ka hq e
  · exact eE k.se.pm hq e
  · exact bE hq k.se.eb h2 e
  · exact bE hq (k.eJ r hr).1 h3 e
theorem Ss.BL (k : Ss h A st sk ov aY L P) {v : Value} {T : TypeId} {sz n : Nat} {xs : List Value} (ho : Own h v T sz n xs) (h1 : T ≠ 153) (h2 : T ≠ 104) (h3 : T ≠ 273) : ∀ q, v.ownBlock = some q → ¬ Mu A P q := fun q hq => by
  obtain ⟨_, ⟨rfl, _⟩ | ⟨g, cap, cur, rfl, hg, _⟩⟩ := ho
  · cases hq
  · simp only [Value.ownBlock, Option.some.injEq] at hq
    subst hq
    exact k.not hg h1 h2 h3
theorem Ss.lt (k : Ss h A st sk ov aY L P) {q : Nat} (e : Mu A P q) : q < h.size := by
  rcases e with e | e | e | e | ⟨r, hr, e⟩
  · exact e ▸ ak k.se.bB
  · exact e ▸ k.se.ka.lt
  · exact e ▸ k.se.pm.lt
  · exact e ▸ ak k.se.eb
  · exact e ▸ ak (k.eJ r hr).1
theorem Ss.av (k : Ss h A st sk ov aY L P) (x : Ext No h h') : Ss h' A st sk ov aY L P :=
  ⟨k.se.av x, fun q hq => ⟨(k.jA q hq).1.av x, (k.jA q hq).2⟩, fun q hq => ⟨x.obj (k.eJ q hq).1 aQ, (k.eJ q hq).2.1.ext x (fun _ _ => aQ), (k.eJ q hq).2.2⟩, k.xb, k.r9, k.yz, k.zz.up x.size⟩
theorem Ss.jU (k : Ss h A st sk ov aY L P) (x : Ext (fun z => z = A.bs) h h') (hb : h'[A.bs]? = some (.cells ⟨[.map (some A.ms), .pointer (some ⟨A.bp, 0, none⟩), .pointer (some ⟨A.be, 0, none⟩), .int .u8 od, .bool yu, .bool yw]⟩ 153 (0, 0))) (hs : jk od) : Ss h' A od yu yw aY L P ∧ Tn A P h h' P :=
  ⟨⟨k.se.jU x hb, fun q hq => ⟨(k.jA q hq).1.ext' x (fun z h0 hz e => (k.jA q hq).2.2 z h0 hz (.inl e)), (k.jA q hq).2⟩, fun q hq => ⟨x.obj (k.eJ q hq).1 (fun e => bE (k.eJ q hq).1 k.se.bB (by decide) e), (k.eJ q hq).2.1.ext x (fun z hz e => (k.eJ q hq).2.2 z hz (.inl e)), (k.eJ q hq).2.2⟩, k.xb, hs, k.yz, k.zz.up x.size⟩, Tn.same x (fun q e => .inl e)⟩
theorem Ss.oh (k : Ss h A st sk ov aY L P) {L' : List (List UInt8 × gX)} (x : Ext (fun z => z = A.ms) h h') (hm : Mp .string St h' A.ms (fq uA L')) (hL : ∀ q ∈ L', q ∈ L ∨ (Rd h q.2.vo 1 q.2.aU.length (ints q.2.aU) ∧ q.2.aU.length ≤ 20000 ∧ ∀ k, 0 < q.2.aU.length → q.2.vo.ownBlock = some k → ¬ Mu A P k ∧ ¬ A.z k)) : Ss h' A st sk ov aY L' P ∧ Tn A P h h' P := by
  have e := k.se
  refine ⟨⟨⟨x.obj e.bB (eE e.ka e.bB), hm, x.obj e.pb (eE e.ka e.pb), e.pm.ext x (fun z => e.ne.1 z.symm), x.obj e.eb (eE e.ka e.eb), e.em.ext x (fun z => e.ne.2.1 z.symm), e.ne⟩, fun q hq => ?_, fun q hq => ⟨x.obj (k.eJ q hq).1 (eE e.ka (k.eJ q hq).1), (k.eJ q hq).2.1.ext x (fun z hz e => (k.eJ q hq).2.2 z hz (.inr (.inl e))), (k.eJ q hq).2.2⟩, k.xb, k.r9, k.yz, ⟨fun q hq k0 a b => (hL q hq).elim (fun z => k.zz.l q z k0 a b) (fun z => (z.2.2 k0 a b).2), k.zz.p, (k.zz.up x.size).s⟩⟩, Tn.same x (fun q e => .inr (.inl e))⟩
  have := (hL q hq).elim (fun z => k.jA q z) (fun z => ⟨z.1, z.2.1, fun k0 a b => (z.2.2 k0 a b).1⟩)
  exact ⟨this.1.ext' x (fun z h0 hz e => this.2.2 z h0 hz (.inr (.inl e))), this.2⟩
theorem Ss.cO (k : Ss h A st sk ov aY L P) {P' : List (List UInt8 × eI)} (x : Ext (fun z => z = A.mp) h h') (hm : Mp .string St h' A.mp (fq xa P')) (hP : ∀ q ∈ P', q ∈ P) : Ss h' A st sk ov aY L P' ∧ Tn A P h h' P' := by
  have e := k.se
  have xc : ∀ q, Mu A P' q → Mu A P q := fun q z => by
    rcases z with z | z | z | z | ⟨r, hr, z⟩
    · exact .inl z
    · exact .inr (.inl z)
    · exact .inr (.inr (.inl z))
    · exact .inr (.inr (.inr (.inl z)))
    · exact .inr (.inr (.inr (.inr ⟨r, hP r hr, z⟩)))
  exact ⟨⟨⟨x.obj e.bB (eE e.pm e.bB), e.ka.ext x e.ne.1, x.obj e.pb (eE e.pm e.pb), hm, x.obj e.eb (eE e.pm e.eb), e.em.ext x (fun z => e.ne.2.2 z.symm), e.ne⟩,
    fun q hq => ⟨(k.jA q hq).1.ext' x (fun z h0 hz e => (k.jA q hq).2.2 z h0 hz (.inr (.inr (.inl e)))), (k.jA q hq).2.1, fun z h0 hz e => (k.jA q hq).2.2 z h0 hz (xc _ e)⟩,
    fun q hq => ⟨x.obj (k.eJ q (hP q hq)).1 (eE e.pm (k.eJ q (hP q hq)).1), (k.eJ q (hP q hq)).2.1.ext x (fun z hz e => (k.eJ q (hP q hq)).2.2 z hz (.inr (.inr (.inl e)))), fun z hz e => (k.eJ q (hP q hq)).2.2 z hz (xc _ e)⟩,
    fun q hq r hr => k.xb q (hP q hq) r (hP r hr), k.r9, k.yz, k.zz.sub x.size (fun _ h => h) hP⟩, x.mono (fun q _ e => .inr (.inr (.inl e))), fun q _ => xc q⟩
theorem Ss.mi (k : Ss h A st sk ov aY L P) {n : List UInt8} {p : Nat} {d : PD} (x : Ext (fun z => z = A.mp) h h') (hm : Mp .string St h' A.mp (fq xa (cz P n ⟨p, d⟩))) (hp : h'[p]? = some (.cells ⟨d.cells⟩ 273 (0, 0))) (hd : d.ok h') (hg : h.size ≤ p) (hF : ∀ z, d.F z → h.size ≤ z ∧ z ≠ p) : Ss h' A st sk ov aY L (cz P n ⟨p, d⟩) ∧ Tn A P h h' (cz P n ⟨p, d⟩) := by
  have e := k.se
  have xc : ∀ q, Mu A (cz P n ⟨p, d⟩) q → Mu A P q ∨ q = p := fun q z => by
    rcases z with z | z | z | z | ⟨r, hr, z⟩
    · exact .inl (.inl z)
    · exact .inl (.inr (.inl z))
    · exact .inl (.inr (.inr (.inl z)))
    · exact .inl (.inr (.inr (.inr (.inl z))))
    · rcases cD hr with rfl | ⟨hr, _⟩
      · exact .inr z
      · exact .inl (.inr (.inr (.inr (.inr ⟨r, hr, z⟩))))
  refine ⟨⟨⟨x.obj e.bB (eE e.pm e.bB), e.ka.ext x e.ne.1, x.obj e.pb (eE e.pm e.pb), hm, x.obj e.eb (eE e.pm e.eb), e.em.ext x (fun z => e.ne.2.2 z.symm), e.ne⟩,
    fun q hq => ⟨(k.jA q hq).1.ext' x (fun z h0 hz e => (k.jA q hq).2.2 z h0 hz (.inr (.inr (.inl e)))), (k.jA q hq).2.1, fun z h0 hz e => ?_⟩, fun q hq => ?_, fun q hq r hr ep => ?_, k.r9, k.yz, ⟨k.zz.l, fun q hq z hz => ?_, (k.zz.up x.size).s⟩⟩, x.mono (fun q _ e => .inr (.inr (.inl e))), fun q hq z => (xc q z).resolve_right (fun e => by omega)⟩
  · rcases xc z e with e | e
    · exact (k.jA q hq).2.2 z h0 hz e
    · have := (k.jA q hq).1.lt h0 hz; omega
  · rcases cD hq with rfl | ⟨hq, hn⟩
    · refine ⟨hp, hd, fun z hz e => ?_⟩
      rcases xc z e with e | e
      · have := k.lt e; have := (hF z hz).1; omega
      · exact (hF z hz).2 e
    · refine ⟨x.obj (k.eJ q hq).1 (eE e.pm (k.eJ q hq).1), (k.eJ q hq).2.1.ext x (fun z hz e => (k.eJ q hq).2.2 z hz (.inr (.inr (.inl e)))), fun z hz e => ?_⟩
      rcases xc z e with e | e
      · exact (k.eJ q hq).2.2 z hz e
      · have := (k.eJ q hq).2.1.lt hz; omega
  · rcases cD hq with rfl | ⟨hq, hn⟩ <;> rcases cD hr with rfl | ⟨hr, hm⟩
    · exact absurd rfl ep
    · have := ak (k.eJ r hr).1
      show p ≠ r.2.p
      omega
    · have := ak (k.eJ q hq).1
      show q.2.p ≠ p
      omega
    · exact k.xb q hq r hr ep
  · rcases cD hq with rfl | ⟨hq, _⟩
    · exact fun e => by have := k.zz.s z e; have := (hF z hz).1; omega
    · exact k.zz.p q hq z hz
theorem Ss.KH (k : Ss h A st sk ov aY L P) {n : List UInt8} {i : eI} {d : PD} (hi : bQ P n = some i) (x : Ext (fun z => z = i.p) h h') (hp : h'[i.p]? = some (.cells ⟨d.cells⟩ 273 (0, 0))) (hd : d.ok h') (hF : ∀ z, d.F z → i.d.F z ∨ h.size ≤ z) : Ss h' A st sk ov aY L (cz P n ⟨i.p, d⟩) ∧ Tn A P h h' (cz P n ⟨i.p, d⟩) := by
  have e := k.se
  have Jj := cm hi
  have Qb := k.eJ _ Jj
  have Mq : Mu A P i.p := .inr (.inr (.inr (.inr ⟨_, Jj, rfl⟩)))
  have xc : ∀ q, Mu A (cz P n ⟨i.p, d⟩) q → Mu A P q := fun q z => by
    rcases z with z | z | z | z | ⟨r, hr, z⟩
    · exact .inl z
    · exact .inr (.inl z)
    · exact .inr (.inr (.inl z))
    · exact .inr (.inr (.inr (.inl z)))
    · rcases cD hr with rfl | ⟨hr, _⟩
      · exact z ▸ Mq
      · exact .inr (.inr (.inr (.inr ⟨r, hr, z⟩)))
  have KI : fq xa (cz P n ⟨i.p, d⟩) = fq xa P := by
    unfold cz
    rw [if_pos (by rw [hi]; rfl)]
    unfold fq
    rw [List.map_map]
    refine List.map_congr_left fun q hq => ?_
    simp only [Function.comp]
    by_cases Ej : q.1 = n
    · rw [if_pos Ej]
      have uv : ((fq xa P).map (·.1)).Nodup := Mp.nodup fR e.pm
      rw [mg] at uv
      have := nw uv (show (q.1, q.2) ∈ P from hq)
      rw [Ej, hi] at this
      simp only [Option.some.injEq] at this
      rw [← this, Ej]
      rfl
    · rw [if_neg Ej]
  refine ⟨⟨?_, fun q hq => ⟨(k.jA q hq).1.ext' x (fun z h0 hz e => (k.jA q hq).2.2 z h0 hz (e ▸ Mq)), (k.jA q hq).2.1, fun z h0 hz e => (k.jA q hq).2.2 z h0 hz (xc _ e)⟩, fun q hq => ?_, fun q hq r hr ep => ?_, k.r9, k.yz, ⟨k.zz.l, fun q hq z hz => ?_, (k.zz.up x.size).s⟩⟩, x.mono (fun q _ e => e ▸ Mq), fun q _ => xc q⟩
  · rw [KI]
    exact e.KF Qb.1 x
  · rcases cD hq with rfl | ⟨hq, hn⟩
    · exact ⟨hp, hd, fun z hz e => (hF z hz).elim (fun y => Qb.2.2 z y (xc _ e)) (fun y => by have := k.lt (xc _ e); omega)⟩
    · exact ⟨x.obj (k.eJ q hq).1 (k.xb q hq _ Jj hn), (k.eJ q hq).2.1.ext x (fun z hz e => (k.eJ q hq).2.2 z hz (e ▸ Mq)), fun z hz e => (k.eJ q hq).2.2 z hz (xc _ e)⟩
  · rcases cD hq with rfl | ⟨hq, hn⟩ <;> rcases cD hr with rfl | ⟨hr, hm⟩
    · exact absurd rfl ep
    · exact fun e => k.xb _ Jj r hr (fun y => hm y.symm) e
    · exact fun e => k.xb q hq _ Jj hn e
    · exact k.xb q hq r hr ep
  · rcases cD hq with rfl | ⟨hq, _⟩
    · exact (hF z hz).elim (fun y => k.zz.p _ Jj z y) (fun y e => by have := k.zz.s z e; omega)
    · exact k.zz.p q hq z hz
end
end Go.Proofs.YtopgddfgefnmbaaGreatDoor
