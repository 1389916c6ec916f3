/-
  SEVERAL TEXTS IN ONE: K16, IxB, Cell, Back, K17, BkChk, BkChk2, Hv9, K28, Hv10, Hv1, Cl, Hv2, Hv3, Hv4, Hv5, Hv6, Hv7, K13, Hv8, Hv11, Hv12, Hv13, Port, Port2, Port3, K15, Port4, Port5, FmB, Sx, Hv14, Hv15, Hv16, K25.
-/
import Derived.Test.YtopgddfgefnmbaaGreatDoorPServePieces1
import Derived.Lib.IndexAny
import Derived.Lib.IndexLaws
import Derived.ChangeKeysEq
import Derived.HandedShaped
import Derived.Handed
import Derived.Scope
import Derived.Sort.Grow
set_option maxHeartbeats 8000000
set_option maxRecDepth 100000
namespace Go.RK
open Go
section
variable {P:Program} {f:Fr} {h:ah} {d:Option Tmp} {ty:TypeId} {pos:String} {af:Array Edge} {g:Option (Nat × Bool)}
theorem gV {x:Operand} {src e t:TypeId} {b n c:Nat} {cs:Array Value} {z:Nat × Nat} (hs:P.underlying src=some (.slice e)) (he:P.underlying e=some (.int .u8)) (hx:f.ev x=some (.slice (some ⟨b,0,Option.none⟩) n c)) (hb:h[b]?=some (.cells cs t z)) :
   eG P f ⟨d,.convert src src x,ty,pos,af,g⟩ h (fun v h'=>v=.slice (some ⟨b,0,Option.none⟩) n c∧(∃ z',h'[b]?=some (.cells cs t z'))∧Ext (fun k=>k=b) h h') :=
 fun ρ w ha hw=>by
   subst hw
   have hsh:w.shape? b=some (t,cs.size):=by simp [World.shape?,hb]
   refine ⟨_,w.freeze ⟨b,cs.size,Option.none⟩ 1,?_,⟨rfl,?_,?_⟩,.inl ?_⟩
   · unfold World.freeze
     split <;> exact ⟨rfl,rfl,rfl,trivial⟩
   · unfold World.freeze
     split
     · exact ⟨z,hb⟩
     · obtain ⟨lo,hi⟩:=z
       refine ⟨if lo == hi then (cs.size,cs.size+1) else (min lo cs.size,max hi (cs.size+1)),?_⟩
       simp only [Array.getElem?_modify,if_true,hb]
       rfl
   · unfold World.freeze
     split
     · exact .refl _ _
     · refine ⟨by simp,fun k _ hk=>?_⟩
       simp only [Array.getElem?_modify]
       rw [if_neg (fun e=>hk e.symm)]
   · simp [execOp,ha _ _ hx,convert,run_underlying hs,run_underlying he,markStringish,hsh]
end
end Go.RK
namespace Go.Proofs.YtopgddfgefnmbaaGreatDoor
open Go Go.RK
theorem pK (c:UInt8):((c.toNat:Int)).toNat.toUInt8=c:=by simp
theorem n9 {h:ah} (s:List UInt8) (c:UInt8) :
   ag Tryz.prog 231 ⟨[St s,By c]⟩ h fun u h'=>u=In (Lib.indexByte s c)∧h'=h:=fun w hw =>
 (Tryz.strings_IndexByte ⟨⟨s⟩⟩ c.toNat w).mono fun e w' ⟨he,hb⟩=>⟨⟨by rw [hb],by rw [hb],by rw [hb],trivial⟩,_,he,by rw [pK],by rw [hb,hw]⟩
theorem dz {h:ah} {v:Value} (l:List UInt8) (c:UInt8) (hr:Rd h v 1 l.length (bA l)) (h0:0 < l.length) :
   ag Tryz.prog 126 ⟨[v,By c]⟩ h fun u h'=>u=In (Lib.indexByte l c)∧h'=h:=by
 obtain ⟨A,cap,rfl,_⟩:=id hr
 obtain ⟨b,o,rfl,_,hat⟩:=Rd.at_ hr h0
 intro w hw
 subst hw
 have e:Lib.bytesOf (l.map fun x:UInt8=>(x.toNat:Int))=l:=by
   unfold Lib.bytesOf
   rw [List.map_map]
   conv=>rhs;rw [← List.map_id l]
   exact List.map_congr_left fun x _=>pK x
 refine (Tryz.bytes_IndexByte b o l.length cap (l.map fun x:UInt8=>(x.toNat:Int)) c.toNat w (by simp) fun i hi=>?_).mono fun e' w' ⟨he,hb⟩=>⟨⟨by rw [hb],by rw [hb],by rw [hb],trivial⟩,_,he,by rw [pK,e],by rw [hb]⟩
 rw [mn]
 have:=hat i (By l[i]) (by simp [hi])
 rw [this]
 simp [List.getD,hi]
def aY (s:List UInt8):Bool := !s.contains 0
theorem fq {h:ah} (s:List UInt8):ag Tryz.prog 187 ⟨[St s]⟩ h fun u h'=>u=.bool (aY s)∧h'=h:=by
 refine calls [(0,_)] Tryz.func187 rfl Tryz.ntmps187 rfl ⟨rfl,trivial⟩ ?_
 refine G2 ?_;refine G2 ?_;refine WL.call (vs:=[_,_]) rfl Tryz.call231 rfl (n9 s 0) rfl rfl rfl ?_
 rintro _ hz ⟨rfl,_⟩
 subst hz
 refine WL.step (mH rfl rfl) rfl rfl rfl (Go ?_);refine Gs [(2,_)] ?_;refine Gt ?_
 exact ⟨by unfold aY;rw [Lib.contains_iff_indexByte];exact congrArg Value.bool (by rw [← decide_not];exact decide_eq_decide.2 (by omega)),rfl⟩
theorem oa {h:ah} {A:Option Addr} {c:Nat} (l:List (List UInt8)) (p:(List UInt8)→Bool) {fk:Nat} {fs us:List Value} (hcf:∀ (args:Array Value) (w:World),(callFunc fk args).run Tryz.prog w=.ok (.enter fk args) w) (hr:Rd h (.slice A l.length c) 1 l.length (l.map St)) (hm:l.length≤maxLen)
   (hp:∀ x∈l,ag Tryz.prog fk ⟨fs++[St x]++us⟩ h fun u h'=>u=.bool (p x)∧h'=h) :
   ag Tryz.prog 230 ⟨[.slice A l.length c,.func (.func fk) ⟨fs⟩ ⟨us⟩]⟩ h fun u h'=>u=In (jB p l)∧h'=h:=by
 unfold maxLen at hm
 refine calls [(0,_),(1,_)] Tryz.func230 rfl Tryz.ntmps230 rfl ⟨rfl,rfl,trivial⟩ ?_
 refine G2 ?_;refine G3 ?_;refine WC.block ?_;refine WC.bD (X:=Nat) (fun x=>([(8,In (x:Int))]:Fr)) [(0,_),(1,_),(7,_)] (fun k h'=>h'=h∧k≤l.length∧∀ x∈l.take k,p x=false) (fun k=>l.length - k) (0) ⟨rfl,rfl,rfl,rfl,trivial⟩ (by exact ⟨rfl,Nat.zero_le _,by simp⟩) ?_
 rintro k _ ⟨rfl,hk,hn⟩
 refine WC.sub [(8,_),(0,_),(1,_),(7,_)] ⟨rfl,rfl,rfl,rfl,trivial⟩ ?_;refine G2 ?_;refine WC.seq ?_
 refine aH 1 2 (Hb.mk fun hb=>?_) (Hb.mk fun hb=>?_)
 all_goals try (
 refine aw 1 ?_
 refine WC.skip ?_
 skip)
 all_goals try (
 refine aw 2 ?_
 refine WC.exit ?_
 repeat' (with_reducible first | refine aU ?_ | refine aD rfl ?_ | refine aJ ?_ | refine aL ?_ | refine aS ?_)
 refine Br.out (i:=1000) ?_
 skip)
 all_goals (refine Gn ?_;first | refine Br.ab ?_ | refine WC.seq ?_)
 all_goals (first | refine Br.ab ?_ | refine WC.block ?_)
 all_goals (first | refine Br.ab ?_ | refine WC.sr ?_)
 all_goals (refine Go ?_;first | refine Br.ab ?_ | refine WC.sr ?_)
 all_goals (refine Go ?_)
 all_goals (
  first
    | (refine Br.ab ?_)
    | (obtain ⟨b,o,hA,hbL,hat⟩:=Rd.at_ hr (by omega)
       obtain ⟨y,hy⟩:∃ y,l[k]?=some y:=⟨_,List.getElem?_eq_getElem (by omega)⟩
       have hc:=hat.get (p:=o+k * 1) (v:=St y) k (by rw [List.getElem?_map,hy];exact rfl) (by omega)))
 all_goals (first | refine Br.ab ?_ | (refine WL.step (aE Tryz.underlying249 Tryz.sizeOf9 rfl rfl rfl (by omega) (by first | rfl | assumption)) rfl rfl rfl ?_))
 all_goals (first | refine Br.ab ?_ | refine Ld ?_)
 all_goals (
  first
    | (refine Br.ab ?_)
    | (refine WL.fC (vs:=[_]) rfl rfl hcf rfl (hp y (List.mem_of_getElem? hy)) rfl rfl rfl ?_
       rintro _ hz ⟨rfl,_⟩
       subst hz))
 all_goals (first | refine Br.ab ?_ | cases hpy:p y)
 all_goals (refine Gn ?_;first | refine Br.ab ?_ | refine Gs [(0,_),(1,_),(5,_),(7,_),(8,_),(16,_)] ?_)
 all_goals (first | refine Br.ab ?_ | refine aH 3 4 ?_ TT.mk)
 all_goals try (
 refine aw 3 ?_
 refine G2 ?_;refine Gs [(4,_)] ?_;refine Gt ?_
 first | exact ⟨by rw [dg (by rw [List.take_of_length_le (by omega)] at hn;exact hn)],rfl⟩ | exact ⟨by rw [de hy hpy hn],rfl⟩
 skip)
 all_goals try (
 refine aw 4 ?_
 refine WC.skip ?_
 skip)
 all_goals (refine Gn ?_;first | refine Br.ab ?_ | refine WC.region ?_)
 all_goals (refine Go ?_;first | refine Br.ab ?_ | (exact ⟨k+1,⟨rfl,rfl,rfl,rfl,trivial⟩,(by exact ⟨rfl,by omega,dh hn hy hpy⟩),(by omega)⟩))
 try (refine Br.mk (i:=1000) ?_)
 refine Gn ?_;refine Gs [] ?_;refine G2 ?_;refine Gt ?_
 first | exact ⟨by rw [dg (by rw [List.take_of_length_le (by omega)] at hn;exact hn)],rfl⟩ | exact ⟨by rw [de hy hpy hn],rfl⟩
theorem yj {h:ah} (s:List UInt8):ag Tryz.prog 186 ⟨[St s]⟩ h fun u h'=>u=.bool (!aY s)∧h'=h:=by
 refine calls [(0,_)] Tryz.func186 rfl Tryz.ntmps186 rfl ⟨rfl,trivial⟩ ?_
 refine G2 ?_;refine G2 ?_;refine WL.call (vs:=[_]) rfl Tryz.call187 rfl (fq s) rfl rfl rfl ?_
 rintro _ hz ⟨rfl,_⟩
 subst hz
 cases hc:aY s
 all_goals (refine Go ?_;refine Gs [(2,_)] ?_;refine Gt ?_;exact ⟨rfl,rfl⟩)
theorem pM {h:ah} {A:Option Addr} {c:Nat} (l:List (List UInt8)) (p:List UInt8→Bool) {fk:Nat} {fs us:List Value} (hcf:∀ (args:Array Value) (w:World),(callFunc fk args).run Tryz.prog w=.ok (.enter fk args) w) (hr:Rd h (.slice A l.length c) 1 l.length (l.map St)) (hm:l.length≤maxLen)
   (hp:∀ x∈l,ag Tryz.prog fk ⟨fs++[St x]++us⟩ h fun u h'=>u=.bool (p x)∧h'=h) :
   ag Tryz.prog 185 ⟨[.slice A l.length c,.func (.func fk) ⟨fs⟩ ⟨us⟩]⟩ h fun u h'=>u=.bool (l.any p)∧h'=h:=by
 refine calls [(0,_),(1,_)] Tryz.func185 rfl Tryz.ntmps185 rfl ⟨rfl,rfl,trivial⟩ ?_
 refine G2 ?_;refine G2 ?_;refine WL.call (vs:=[_,_]) rfl Tryz.call230 rfl (oa l p hcf hr hm hp) rfl rfl rfl ?_
 rintro _ hz ⟨rfl,_⟩
 subst hz
 refine WL.step (dv rfl rfl) rfl rfl rfl (Go ?_);refine Gs [(4,_)] ?_;refine Gt ?_
 exact ⟨by rw [dT],rfl⟩
theorem oc {h:ah} {A:Option Addr} {c:Nat} (l:List Int) (p:Int→Bool) {fk:Nat} {fs us:List Value} (hcf:∀ (args:Array Value) (w:World),(callFunc fk args).run Tryz.prog w=.ok (.enter fk args) w) (hr:Rd h (.slice A l.length c) 1 l.length (ints l)) (hm:l.length≤maxLen)
   (hp:∀ x∈l,ag Tryz.prog fk ⟨fs++[In x]++us⟩ h fun u h'=>u=.bool (p x)∧h'=h) :
   ag Tryz.prog 182 ⟨[.slice A l.length c,.func (.func fk) ⟨fs⟩ ⟨us⟩]⟩ h fun u h'=>u=.bool (l.any p)∧h'=h:=by
 refine calls [(0,_),(1,_)] Tryz.func182 rfl Tryz.ntmps182 rfl ⟨rfl,rfl,trivial⟩ ?_
 refine G2 ?_;refine G2 ?_;refine WL.call (vs:=[_,_]) rfl Tryz.call229 rfl (jo l p hcf hr hm hp) rfl rfl rfl ?_
 rintro _ hz ⟨rfl,_⟩
 subst hz
 refine WL.step (dv rfl rfl) rfl rfl rfl (Go ?_);refine Gs [(4,_)] ?_;refine Gt ?_
 exact ⟨by rw [dT],rfl⟩
theorem ru {h:ah} {v:Value} (l:List (List UInt8)) (hr:Rd h v 1 l.length (l.map St)) (hm:l.length≤maxLen) :
   ag Tryz.prog 136 ⟨[v]⟩ h fun u h'=>u=.bool (l.all aY)∧h'=h:=by
 obtain ⟨A,c,rfl,_⟩:=id hr
 refine calls [(0,_)] Tryz.func136 rfl Tryz.ntmps136 rfl ⟨rfl,trivial⟩ ?_
 refine G2 ?_;refine G2 ?_;refine WL.call (vs:=[_,_]) rfl Tryz.call185 rfl (pM l (fun s => !aY s) Tryz.call186 (fs:=[]) (us:=[]) hr hm (fun x _=>yj x)) rfl rfl rfl ?_
 rintro _ hz ⟨rfl,_⟩
 subst hz
 rw [show (l.any fun s => !aY s) = !l.all aY by rw [List.not_all_eq_any_not]]
 cases hc:l.all aY
 all_goals (refine Go ?_;refine Gs [(2,_)] ?_;refine Gt ?_;exact ⟨rfl,rfl⟩)
def mu (l:List Int) (lo hi:Int):Bool:=decide (l.length≤65535) && !l.any fun n=>decide (n < lo) || decide (hi < n)
theorem wD {h:ah} {b1 b2:Nat} {lo hi:Int} {t1 t2:TypeId} (n:Int) (h1:h[b1]?=some (.cells ⟨[In lo]⟩ t1 (0,0))) (h2:h[b2]?=some (.cells ⟨[In hi]⟩ t2 (0,0))) :
   ag Tryz.prog 183 ⟨[In n,.pointer (some ⟨b1,0,none⟩),.pointer (some ⟨b2,0,none⟩)]⟩ h fun u h'=>u=.bool (decide (n < lo) || decide (hi < n))∧h'=h:=by
 refine calls [(0,_),(1,_),(2,_)] Tryz.func183 rfl Tryz.ntmps183 rfl ⟨rfl,rfl,rfl,trivial⟩ ?_
 refine G2 ?_;refine G2 ?_;refine Ld ?_;refine Go ?_
 refine bK 8 (Hb.mk fun hb=>?_) (Hb.mk fun hb=>?_)
 all_goals (refine Gg ?_;first | refine WL.pass rfl rfl rfl ?_ | refine Ld ?_)
 all_goals (refine Gg ?_;refine Go ?_;refine Gs [(4,_)] ?_;refine Gt ?_;exact ⟨by first | (rw [decide_eq_true (show n < lo by omega)];done) | (rw [decide_eq_true (show n < lo by omega)];rfl) | (rw [decide_eq_false (show ¬ n < lo by omega)];rfl),rfl⟩)
theorem gW {h:ah} {v:Value} (l:List Int) (lo hi:Int) (hr:Rd h v 1 l.length (ints l)) (hm:l.length≤maxLen) :
   ag Tryz.prog 133 ⟨[v,In lo,In hi]⟩ h fun u h'=>u=.bool (mu l lo hi)∧Ext No h h':=by
 obtain ⟨A,c,rfl,_⟩:=id hr
 refine calls [(0,_),(1,_),(2,_)] Tryz.func133 rfl Tryz.ntmps133 rfl ⟨rfl,rfl,rfl,trivial⟩ ?_
 refine WC.sr ?_;refine WL.aj (aG rfl) rfl rfl rfl ?_
 rintro _ h1 ⟨b1,rfl,bR,aR,az⟩
 refine WL.aj (aG rfl) rfl rfl rfl ?_
 rintro _ h2 ⟨b2,rfl,gg,bH,aI⟩
 have rv:=aI.obj aR aO
 have hx:=az.trans aI
 refine Go ?_;refine G2 ?_
 refine bK 10 (Hb.mk fun hb=>?_) (Hb.mk fun hb=>?_)
 all_goals (refine Gg ?_;first | refine WL.pass rfl rfl rfl ?_ | refine WL.step (eH (vs:=[]) (us:=[_,_]) rfl rfl) rfl rfl rfl ?_)
 all_goals (
  first
    | (refine WL.pass rfl rfl rfl ?_)
    | (refine WL.call (vs:=[_,_]) rfl Tryz.call182 rfl (oc l (fun n=>decide (n < lo) || decide (hi < n)) Tryz.call183 (fs:=[]) (us:=[.pointer (some ⟨b1,0,none⟩),.pointer (some ⟨b2,0,none⟩)]) (hr.aq hx) hm (fun x _=>wD x rv bH)) rfl rfl rfl ?_
       rintro _ hz ⟨rfl,_⟩
       subst hz))
 all_goals (refine Gg ?_;refine Go ?_;refine Gs [(6,_)] ?_;refine Gt ?_;exact ⟨by unfold mu;first | (rw [decide_eq_true (by omega)];rfl) | (rw [decide_eq_false (by omega)];rfl),hx⟩)
def iD (k:UInt8):Int:=if ([66,67,68,69,72,80,81,83,88]:List UInt8).contains k then 1 else if ([70,99,100,102,112]:List UInt8).contains k then 2 else 0
theorem ry {h:ah} (k:UInt8):ag Tryz.prog 93 ⟨[By k]⟩ h fun u h'=>u=In (iD k)∧Ext No h h':=by
 have e1:=Lib.contains_iff_indexByte [66,67,68,69,72,80,81,83,88] k
 have e2:=Lib.contains_iff_indexByte [70,99,100,102,112] k
 refine calls [(0,_)] Tryz.func93 rfl Tryz.ntmps93 rfl ⟨rfl,trivial⟩ ?_
 refine G2 ?_;refine WC.seq ?_;refine WC.block ?_;refine WC.sr ?_;refine WL.aj (au (vs:=[_,_,_,_,_,_,_,_,_]) (cs:=[_,_,_,_,_,_,_,_,_]) (fun | [a0,a1,a2,a3,a4,a5,a6,a7,a8]=>[a0,a1,a2,a3,a4,a5,a6,a7,a8] | _=>[]) Tryz.underlying23 rfl rfl (by kernel_rfl)) rfl rfl rfl ?_
 rintro _ h1 ⟨b1,rfl,bR,aR,az⟩
 refine WL.aj (gV Tryz.underlying23 Tryz.underlying5 rfl (by assumption)) rfl rfl rfl ?_
 rintro _ h2 ⟨rfl,⟨z2,bH⟩,aI⟩
 have ia:Ext No h h2:=az.trans' aI (fun q hq e=>by omega)
 refine Go ?_;refine WL.call (vs:=[_,_]) rfl Tryz.call126 rfl (dz [66,67,68,69,72,80,81,83,88] k (bx bH rfl) (by simp)) rfl rfl rfl ?_
 rintro _ hz ⟨rfl,_⟩
 subst hz
 refine WL.step (dv rfl rfl) rfl rfl rfl ?_
 rw [← e1]
 cases fp:([66,67,68,69,72,80,81,83,88]:List UInt8).contains k
 all_goals (refine Go ?_;refine Gs [(0,_),(3,_)] ?_;refine aH 1 2 ?_ TT.mk)
 all_goals try (
 refine aw 1 ?_
 refine G2 ?_;refine Gt ?_
 first | exact ⟨by unfold iD;rw [fp];rfl,ia⟩ | exact ⟨by unfold iD;rw [fp,kJ];rfl,(ia.trans aQ).trans' aW (fun q hq e=>by have:=ia.size;omega)⟩
 skip)
 all_goals (refine aw 2 ?_)
 refine WC.sr ?_;refine WL.aj (au (vs:=[_,_,_,_,_]) (cs:=[_,_,_,_,_]) (fun | [a0,a1,a2,a3,a4]=>[a0,a1,a2,a3,a4] | _=>[]) Tryz.underlying23 rfl rfl (by kernel_rfl)) rfl rfl rfl ?_
 rintro _ h3 ⟨b3,rfl,gl,bq,aQ⟩
 refine WL.aj (gV Tryz.underlying23 Tryz.underlying5 rfl (by assumption)) rfl rfl rfl ?_
 rintro _ h4 ⟨rfl,⟨z4,bC⟩,aW⟩
 refine Go ?_;refine WL.call (vs:=[_,_]) rfl Tryz.call126 rfl (dz [70,99,100,102,112] k (bx bC rfl) (by simp)) rfl rfl rfl ?_
 rintro _ hz ⟨rfl,_⟩
 subst hz
 refine WL.step (dv rfl rfl) rfl rfl rfl ?_
 rw [← e2]
 cases kJ:([70,99,100,102,112]:List UInt8).contains k
 all_goals (refine Go ?_;refine Gs [(9,_)] ?_;refine aH 3 4 ?_ TT.mk)
 all_goals try (
 refine aw 3 ?_
 refine G2 ?_;refine Gt ?_
 first | exact ⟨by unfold iD;rw [fp];rfl,ia⟩ | exact ⟨by unfold iD;rw [fp,kJ];rfl,(ia.trans aQ).trans' aW (fun q hq e=>by have:=ia.size;omega)⟩
 skip)
 all_goals (refine aw 4 ?_)
 refine WC.skip ?_;refine Gn ?_;refine G2 ?_;refine Gt ?_
 first | exact ⟨by unfold iD;rw [fp];rfl,ia⟩ | exact ⟨by unfold iD;rw [fp,kJ];rfl,(ia.trans aQ).trans' aW (fun q hq e=>by have:=ia.size;omega)⟩
structure aX where
 null:Bool
 v:Value
 bytes:List UInt8
def aX.cells (c:aX):List Value:=[.bool c.null,c.v]
theorem aX.len (c:aX):c.cells.length=2:=rfl
def aX.pl (c:aX):Bool × List UInt8:=(c.null,c.bytes)
def aX.ok (h:ah) (c:aX):Prop:=Rd h c.v 1 c.bytes.length (bA c.bytes)∧c.bytes.length≤reachBytes
def cF (h:ah) (v:Value) (l:List aX):Prop:=Rd h v 2 l.length (l.flatMap aX.cells)∧(l.length * 32≤reachBytes∧∃ A c,v=.slice A l.length c∧c≤maxLen)∧∀ c∈l,c.ok h
theorem aX.ok.aq {h h':ah} {c:aX} (k:c.ok h) (a:Ext No h h'):c.ok h':=⟨k.1.aq a,k.2⟩
theorem cF.aq {h h':ah} {v:Value} {l:List aX} (k:cF h v l) (a:Ext No h h'):cF h' v l:=⟨k.1.aq a,k.2.1,fun c hc=>(k.2.2 c hc).aq a⟩
def du (v:Value) (l:List aX) (b:Nat):Prop:=(0 < l.length∧v.ownBlock=some b)∨∃ c∈l,0 < c.bytes.length∧c.v.ownBlock=some b
theorem cF.lt {h:ah} {v:Value} {l:List aX} {b:Nat} (k:cF h v l) (hb:du v l b):b < h.size:=by
 rcases hb with ⟨h1,h2⟩ | ⟨c,hc,h1,h2⟩
 · exact k.1.lt h1 h2
 · exact (k.2.2 c hc).1.lt h1 h2
theorem cF.ext {h h':ah} {S:Nat→Prop} {v:Value} {l:List aX} (k:cF h v l) (a:Ext S h h') (hS:∀ b,du v l b→¬ S b):cF h' v l :=
 ⟨k.1.ext' a fun b h1 h2=>hS b (.inl ⟨h1,h2⟩),k.2.1,fun c hc=>⟨(k.2.2 c hc).1.ext' a fun b h1 h2=>hS b (.inr ⟨c,hc,h1,h2⟩),(k.2.2 c hc).2⟩⟩
structure Rw where
 v:Value
 l:List aX
def Rw.pl (r:Rw):List (Bool × List UInt8):=r.l.map aX.pl
def jL (h:ah) (v:Value) (L:List Rw):Prop:=Rd h v 1 L.length (L.map Rw.v)∧(L.length * 24≤reachBytes∧∃ A c,v=.slice A L.length c∧c≤maxLen)∧∀ r∈L,cF h r.v r.l
def dH (v:Value) (L:List Rw) (b:Nat):Prop:=(0 < L.length∧v.ownBlock=some b)∨∃ r∈L,du r.v r.l b
theorem jL.lt {h:ah} {v:Value} {l:List Rw} {b:Nat} (k:jL h v l) (hb:dH v l b):b < h.size:=by
 rcases hb with ⟨h1,h2⟩ | ⟨c,hc,h1⟩
 · exact k.1.lt h1 h2
 · exact (k.2.2 c hc).lt h1
theorem jL.ext {h h':ah} {S:Nat→Prop} {v:Value} {l:List Rw} (k:jL h v l) (a:Ext S h h') (hS:∀ b,dH v l b→¬ S b):jL h' v l :=
 ⟨k.1.ext' a fun b h1 h2=>hS b (.inl ⟨h1,h2⟩),k.2.1,fun c hc=>(k.2.2 c hc).ext a fun b h1=>hS b (.inr ⟨c,hc,h1⟩)⟩
theorem jL.aq {h h':ah} {v:Value} {l:List Rw} (k:jL h v l) (a:Ext No h h'):jL h' v l:=k.ext a fun _ _=>aO
theorem tD (w:World):dS Tryz.prog w 85 aX.cells (fun c=>c.ok w.heap):=by
 have h1:=cg (P:=Tryz.prog) (w:=w) (o:=1) (f:=⟨ "Bytes", 23,1,false, "", "", 8⟩) rfl (lM Tryz.underlying23 (by kernel_rfl) (by kernel_rfl) Tryz.underlying5) (by kernel_rfl) (fun _=>rfl) mR
 have h2:=cg (P:=Tryz.prog) (w:=w) (o:=0) (f:=⟨ "Null", 4,0,false, "", "", 0⟩) rfl (tu Tryz.underlying4) (by kernel_rfl) (fun _=>rfl) h1
 exact (jY Tryz.underlying85 (by kernel_rfl) h2).map (fun p=>(⟨p.1,p.2.1.1,p.2.1.2⟩:aX)) (fun _=>rfl) (fun p q=>q.2.1)
theorem rz (w:World):dS Tryz.prog w 40 (fun p:Value × List aX=>[p.1]) (fun p=>cF w.heap p.1 p.2) :=
 (dK Tryz.underlying40 (by kernel_rfl) (by decide) aX.len (tD w)).map id (fun _=>rfl) fun p q=>⟨q.1,⟨by have:=q.2.2.2.2;rwa [show Tryz.prog.bytesOf 85=32 by kernel_rfl] at this,q.2.2.1⟩,q.2.2.2.1⟩
theorem map_take {α β:Type} {F:α→β} {l m:List α} {k:Nat} {a b:α} (h:(l.take k).map F=(m.take k).map F) (ha:l[k]?=some a) (hb:m[k]?=some b) (e:F a=F b):(l.take (k+1)).map F=(m.take (k+1)).map F:=by
 rw [List.take_add_one,List.take_add_one,ha,hb,List.map_append,List.map_append,h]
 simp [e]
theorem gX {α β:Type} {F:α→β} {l m:List α} {k:Nat} {a b:α} (ha:l[k]?=some a) (hb:m[k]?=some b) (e:F a ≠ F b):l.map F ≠ m.map F:=fun h=>e (by
 have:=congrArg (·[k]?) h
 simpa [ha,hb] using this)
theorem wF {h:ah} {v u:Value} (l m:List aX) (hl:cF h v l) (hm:cF h u m) :
   ag Tryz.prog 160 ⟨[v,u]⟩ h fun u h'=>u=.bool (decide (l.map aX.pl=m.map aX.pl))∧h'=h:=by
 obtain ⟨hr,⟨hlm,A,c,rfl,_⟩,ho⟩:=hl
 obtain ⟨hs,⟨hmm,B,d,rfl,_⟩,hp⟩:=hm
 unfold reachBytes at hlm hmm
 refine calls [(0,_),(1,_)] Tryz.func160 rfl Tryz.ntmps160 rfl ⟨rfl,rfl,trivial⟩ ?_
 refine G2 ?_;refine G3 ?_;refine Gs [(0,_),(1,_),(10,_)] ?_
 refine aH 1 2 (Hb.mk fun hb=>?_) (Hb.mk fun hb=>?_)
 all_goals try (
 refine aw 1 ?_
 refine G2 ?_;refine Gt ?_
 first | exact ⟨by rw [decide_eq_false (fun e=>by have:=congrArg List.length e;simp at this;omega)],rfl⟩ | exact ⟨by rw [decide_eq_false (gX fp kJ (by simp_all [aX.pl]))],rfl⟩ | exact ⟨by rw [decide_eq_true (by rw [List.take_of_length_le (by omega),List.take_of_length_le (by omega)] at hn;exact hn)],rfl⟩
 skip)
 all_goals (refine aw 2 ?_)
 refine WC.skip ?_;refine Gn ?_;refine G3 ?_;refine WC.block ?_;refine WC.bD (X:=Nat) (fun x=>([(5,In (x:Int))]:Fr)) [(0,_),(1,_)] (fun k h'=>h'=h∧k≤l.length∧(l.take k).map aX.pl=(m.take k).map aX.pl) (fun k=>l.length - k) (0) ⟨rfl,rfl,rfl,trivial⟩ (by exact ⟨rfl,Nat.zero_le _,by simp⟩) ?_
 rintro k _ ⟨rfl,hk,hn⟩
 refine WC.sub [(5,_),(0,_),(1,_)] ⟨rfl,rfl,rfl,trivial⟩ ?_;refine G3 ?_
 refine aH 3 4 (Hb.mk fun hb=>?_) (Hb.mk fun hb=>?_)
 all_goals try (
 refine aw 3 ?_
 refine WC.skip ?_
 skip)
 all_goals try (
 refine aw 4 ?_
 refine WC.exit ?_
 repeat' (with_reducible first | refine aU ?_ | refine aD rfl ?_ | refine aJ ?_ | refine aL ?_ | refine aS ?_)
 refine Br.out (i:=1000) ?_
 skip)
 all_goals (refine Gn ?_;first | refine Br.ab ?_ | refine Gs [(0,_),(1,_),(5,_)] ?_)
 all_goals (first | refine Br.ab ?_ | refine WC.seq ?_)
 all_goals (first | refine Br.ab ?_ | refine WC.block ?_)
 all_goals (first | refine Br.ab ?_ | refine WC.seq ?_)
 all_goals (
  first
    | (refine Br.ab ?_)
    | (obtain ⟨b,o,hA,hbL,hat⟩:=Rd.at_ hr (by omega)
       obtain ⟨b2,o2,hB,bH,yi⟩:=Rd.at_ hs (by omega)
       obtain ⟨⟨n1,v1,s1⟩,fp⟩:∃ y,l[k]?=some y:=⟨_,List.getElem?_eq_getElem (by omega)⟩
       obtain ⟨⟨n2,v2,s2⟩,kJ⟩:∃ y,m[k]?=some y:=⟨_,List.getElem?_eq_getElem (by omega)⟩
       have rA:=(ho _ (List.mem_of_getElem? fp)).1
       have iU:=(hp _ (List.mem_of_getElem? kJ)).1
       simp only at rA iU
       have vi:=At.elem aX.len hat fp
       have DB:=At.elem aX.len yi kJ
       obtain ⟨A1,k1,rfl,_⟩:=id rA
       obtain ⟨A2,k2,rfl,_⟩:=id iU))
 all_goals (first | refine Br.ab ?_ | (refine WC.fU dm (by kernel_rfl) ?_))
 all_goals (first | refine Br.ab ?_ | refine WQ.aK (ak rfl) rfl rfl rfl ?_)
 all_goals (first | refine Br.ab ?_ | refine WQ.aK (ak rfl) rfl rfl rfl ?_)
 all_goals (first | refine Br.ab ?_ | (refine WQ.aK (aE Tryz.underlying40 Tryz.sizeOf85 rfl rfl rfl (by omega) (by first | rfl | assumption)) rfl rfl rfl ?_))
 all_goals (first | refine Br.ab ?_ | refine WQ.aK (ad rfl Tryz.underlying85 rfl Tryz.sizeOf4) rfl rfl rfl ?_)
 all_goals (first | refine Br.ab ?_ | (refine WQ.aK (aA Tryz.isAgg4 rfl (by first | exact vi.get 0 rfl rfl | assumption)) rfl rfl rfl ?_))
 all_goals (first | refine Br.ab ?_ | refine WQ.aK (ak rfl) rfl rfl rfl ?_)
 all_goals (first | refine Br.ab ?_ | refine WQ.aK (ak rfl) rfl rfl rfl ?_)
 all_goals (first | refine Br.ab ?_ | (refine WQ.aK (aE Tryz.underlying40 Tryz.sizeOf85 rfl rfl rfl (by omega) (by first | rfl | assumption)) rfl rfl rfl ?_))
 all_goals (first | refine Br.ab ?_ | refine WQ.aK (ad rfl Tryz.underlying85 rfl Tryz.sizeOf4) rfl rfl rfl ?_)
 all_goals (first | refine Br.ab ?_ | (refine WQ.aK (aA Tryz.isAgg4 rfl (by first | exact DB.get 0 rfl rfl | assumption)) rfl rfl rfl ?_))
 all_goals (first | refine Br.ab ?_ | refine WQ.aK (BC Tryz.underlying4 rfl rfl) rfl rfl rfl ?_)
 all_goals (first | refine Br.ab ?_ | refine WQ.aK (ak rfl) rfl rfl rfl ?_)
 all_goals (first | refine Br.ab ?_ | (try ((fail_if_success (refine WQ.part 28 (b:=true) rfl (fun _=>?_) (fun _=>?_)));(fail_if_success (refine WQ.part 28 (b:=false) rfl (fun _=>?_) (fun _=>?_)));(refine WQ.part 28 rfl (fun hb=>?_) (fun hb=>?_) <;> (first | replace hb:=of_decide_eq_true hb | replace hb:=of_decide_eq_false hb | replace hb:=of_decide_eq_false (nt hb) | replace hb:=of_decide_eq_true (nf hb) | skip)))))
 all_goals (first | refine Br.ab ?_ | (first | (refine WQ.pass rfl rfl rfl ?_) | (refine WQ.aK (ak rfl) rfl rfl rfl ?_)))
 all_goals (first | refine Br.ab ?_ | (first | (refine WQ.pass rfl rfl rfl ?_) | (refine WQ.aK (ak rfl) rfl rfl rfl ?_)))
 all_goals (first | refine Br.ab ?_ | (first | (refine WQ.pass rfl rfl rfl ?_) | (refine WQ.aK (aE Tryz.underlying40 Tryz.sizeOf85 rfl rfl rfl (by omega) (by first | rfl | assumption)) rfl rfl rfl ?_)))
 all_goals (first | refine Br.ab ?_ | (first | (refine WQ.pass rfl rfl rfl ?_) | (refine WQ.aK (ad rfl Tryz.underlying85 rfl Tryz.sizeOf23) rfl rfl rfl ?_)))
 all_goals (first | refine Br.ab ?_ | (first | (refine WQ.pass rfl rfl rfl ?_) | (refine WQ.aK (aA Tryz.isAgg23 rfl (by first | exact vi.get 1 rfl rfl | assumption)) rfl rfl rfl ?_)))
 all_goals (first | refine Br.ab ?_ | (first | (refine WQ.pass rfl rfl rfl ?_) | (refine WQ.aK (dM Tryz.underlying23 Tryz.underlying5 Tryz.underlying9 rfl (by assumption)) rfl rfl rfl ?_)))
 all_goals (first | refine Br.ab ?_ | (first | (refine WQ.pass rfl rfl rfl ?_) | (refine WQ.aK (ak rfl) rfl rfl rfl ?_)))
 all_goals (first | refine Br.ab ?_ | (first | (refine WQ.pass rfl rfl rfl ?_) | (refine WQ.aK (ak rfl) rfl rfl rfl ?_)))
 all_goals (first | refine Br.ab ?_ | (first | (refine WQ.pass rfl rfl rfl ?_) | (refine WQ.aK (aE Tryz.underlying40 Tryz.sizeOf85 rfl rfl rfl (by omega) (by first | rfl | assumption)) rfl rfl rfl ?_)))
 all_goals (first | refine Br.ab ?_ | (first | (refine WQ.pass rfl rfl rfl ?_) | (refine WQ.aK (ad rfl Tryz.underlying85 rfl Tryz.sizeOf23) rfl rfl rfl ?_)))
 all_goals (first | refine Br.ab ?_ | (first | (refine WQ.pass rfl rfl rfl ?_) | (refine WQ.aK (aA Tryz.isAgg23 rfl (by first | exact DB.get 1 rfl rfl | assumption)) rfl rfl rfl ?_)))
 all_goals (first | refine Br.ab ?_ | (first | (refine WQ.pass rfl rfl rfl ?_) | (refine WQ.aK (dM Tryz.underlying23 Tryz.underlying5 Tryz.underlying9 rfl (by assumption)) rfl rfl rfl ?_)))
 all_goals (first | refine Br.ab ?_ | (first | (refine WQ.pass rfl rfl rfl ?_) | (refine WQ.aK (mm rfl rfl) rfl rfl rfl ?_)))
 all_goals (first | refine Br.ab ?_ | (first | (refine WQ.aK (cH rfl rfl) rfl rfl rfl ?_) | (refine WQ.aK (cI rfl rfl) rfl rfl rfl ?_)))
 all_goals (first | refine Br.ab ?_ | refine WQ.nil ?_)
 all_goals (refine Gn ?_;first | refine Br.ab ?_ | refine Gs [(0,_),(1,_),(5,_),(42,_)] ?_)
 all_goals (first | refine Br.ab ?_ | (first | (refine aH 5 6 ?_ TT.mk) | (refine aH 5 6 (Hb.mk fun hb=>?_) (Hb.mk fun hb=>?_))))
 all_goals try (
 refine aw 5 ?_
 all_goals (refine G2 ?_;refine Gs [(4,_)] ?_;refine Gt ?_;first | exact ⟨by rw [decide_eq_false (fun e=>by have:=congrArg List.length e;simp at this;omega)],rfl⟩ | exact ⟨by rw [decide_eq_false (gX fp kJ (by simp_all [aX.pl]))],rfl⟩ | exact ⟨by rw [decide_eq_true (by rw [List.take_of_length_le (by omega),List.take_of_length_le (by omega)] at hn;exact hn)],rfl⟩)
 skip)
 all_goals try (
 refine aw 6 ?_
 refine WC.skip ?_
 skip)
 all_goals (refine Gn ?_;first | refine Br.ab ?_ | refine WC.region ?_)
 all_goals (refine Go ?_;first | refine Br.ab ?_ | (exact ⟨k+1,⟨rfl,rfl,rfl,trivial⟩,(by exact ⟨rfl,by omega,map_take hn fp kJ (by simp_all [aX.pl])⟩),(by omega)⟩))
 try (refine Br.mk (i:=1000) ?_)
 refine Gn ?_;refine Gs [] ?_;refine G2 ?_;refine Gt ?_
 first | exact ⟨by rw [decide_eq_false (fun e=>by have:=congrArg List.length e;simp at this;omega)],rfl⟩ | exact ⟨by rw [decide_eq_false (gX fp kJ (by simp_all [aX.pl]))],rfl⟩ | exact ⟨by rw [decide_eq_true (by rw [List.take_of_length_le (by omega),List.take_of_length_le (by omega)] at hn;exact hn)],rfl⟩
structure cA where
 nm:List UInt8
 t:Int
 a:Int
 o:Int
 s:Int
 m:Int
 f:Int
deriving DecidableEq
def cA.rB (c:cA):List jm:=[.s c.nm,.i .i64 c.t,.i .i64 c.a,.i .i64 c.o,.i .i64 c.s,.i .i64 c.m,.i .i64 c.f]
def cA.cells (c:cA):List Value:=[St c.nm,In c.t,In c.a,In c.o,In c.s,In c.m,In c.f]
theorem cA.len (c:cA):c.cells.length=7:=rfl
theorem cA.inj (c d:cA):c.rB=d.rB ↔ c=d:=by cases c;cases d;simp [cA.rB]
structure bj where
 k:Int
 t:List UInt8
deriving DecidableEq
def bj.rB (c:bj):List jm:=[.i .u8 c.k,.s c.t]
def bj.cells (c:bj):List Value:=[.int .u8 c.k,St c.t]
theorem bj.len (c:bj):c.cells.length=2:=rfl
theorem bj.inj (c d:bj):c.rB=d.rB ↔ c=d:=by cases c;cases d;simp [bj.rB]
structure Bk where
 kind:Int
 status:Int
 tag:List UInt8
 name:List UInt8
 value:List UInt8
 n:Int
 m:Int
 vo:Value
 oids:List Int
 vc:Value
 cols:List cA
 vr:Value
 row:List aX
 vf:Value
 fields:List bj
def Bk.cells (b:Bk):List Value:=[.int .u8 b.kind,.int .u8 b.status,St b.tag,St b.name,St b.value,In b.n,In b.m,b.vo,b.vc,b.vr,b.vf]
structure Bk.ok (h:ah) (b:Bk):Prop where
 oids:Rd h b.vo 1 b.oids.length (ints b.oids)∧b.oids.length≤maxLen
 cols:Rd h b.vc 7 b.cols.length (b.cols.flatMap cA.cells)∧b.cols.length≤maxLen
 row:cF h b.vr b.row
 fields:Rd h b.vf 2 b.fields.length (b.fields.flatMap bj.cells)∧b.fields.length≤maxLen
theorem Bk.ok.aq {h h':ah} {b:Bk} (k:b.ok h) (a:Ext No h h'):b.ok h':=⟨⟨k.1.1.aq a,k.1.2⟩,⟨k.2.1.aq a,k.2.2⟩,k.3.aq a,⟨k.4.1.aq a,k.4.2⟩⟩
def Bk.pl (b:Bk):=(b.kind,b.status,b.tag,b.name,b.value,b.n,b.m,b.oids,b.cols,b.row.map aX.pl,b.fields)
theorem mU {h:ah} {v u:Value} (l m:List Int) (hr:Rd h v 1 l.length (ints l)) (hs:Rd h u 1 m.length (ints m)) (hl:l.length≤maxLen) (hm:m.length≤maxLen) :
   ag Tryz.prog 159 ⟨[v,u]⟩ h fun u h'=>u=.bool (decide (l=m))∧h'=h:=by
 unfold maxLen at hl hm
 obtain ⟨A,c,rfl,_⟩:=id hr
 obtain ⟨B,d,rfl,_⟩:=id hs
 refine calls [(0,_),(1,_)] Tryz.func159 rfl Tryz.ntmps159 rfl ⟨rfl,rfl,trivial⟩ ?_
 refine G2 ?_;refine G3 ?_;refine Gs [(0,_),(1,_),(10,_)] ?_
 refine aH 1 2 (Hb.mk fun hb=>?_) (Hb.mk fun hb=>?_)
 all_goals try (
 refine aw 1 ?_
 refine G2 ?_;refine Gt ?_
 first | exact ⟨by rw [decide_eq_false (fun e=>by subst e;omega)],rfl⟩ | exact ⟨by rw [decide_eq_false (fun e=>by subst e;rw [hy] at hz;injection hz with hz;omega)],rfl⟩ | exact ⟨by rw [decide_eq_true (by rw [List.take_of_length_le (by omega),List.take_of_length_le (by omega)] at hn;exact hn)],rfl⟩
 skip)
 all_goals (refine aw 2 ?_)
 refine WC.skip ?_;refine Gn ?_;refine G3 ?_;refine WC.block ?_;refine WC.bD (X:=Nat) (fun x=>([(5,In (x:Int))]:Fr)) [(0,_),(1,_)] (fun k h'=>h'=h∧k≤l.length∧l.take k=m.take k) (fun k=>l.length - k) (0) ⟨rfl,rfl,rfl,trivial⟩ (by exact ⟨rfl,Nat.zero_le _,by simp⟩) ?_
 rintro k _ ⟨rfl,hk,hn⟩
 refine WC.sub [(5,_),(0,_),(1,_)] ⟨rfl,rfl,rfl,trivial⟩ ?_;refine G3 ?_
 refine aH 3 4 (Hb.mk fun hb=>?_) (Hb.mk fun hb=>?_)
 all_goals try (
 refine aw 3 ?_
 refine WC.skip ?_
 skip)
 all_goals try (
 refine aw 4 ?_
 refine WC.exit ?_
 repeat' (with_reducible first | refine aU ?_ | refine aD rfl ?_ | refine aJ ?_ | refine aL ?_ | refine aS ?_)
 refine Br.out (i:=1000) ?_
 skip)
 all_goals (refine Gn ?_;first | refine Br.ab ?_ | refine Gs [(0,_),(1,_),(5,_)] ?_)
 all_goals (first | refine Br.ab ?_ | refine WC.seq ?_)
 all_goals (first | refine Br.ab ?_ | refine WC.block ?_)
 all_goals (first | refine Br.ab ?_ | refine WC.seq ?_)
 all_goals (
  first
    | (refine Br.ab ?_)
    | (obtain ⟨b,o,hA,hbL,hat⟩:=Rd.at_ hr (by omega)
       obtain ⟨b2,o2,hB,bH,yi⟩:=Rd.at_ hs (by omega)
       obtain ⟨y,hy⟩:∃ y,l[k]?=some y:=⟨_,List.getElem?_eq_getElem (by omega)⟩
       obtain ⟨z,hz⟩:∃ z,m[k]?=some z:=⟨_,List.getElem?_eq_getElem (by omega)⟩
       have hc:=hat.get (p:=o+k * 1) k (gT hy) (by omega)
       have kJ:=yi.get (p:=o2+k * 1) k (gT hz) (by omega)))
 all_goals (first | refine Br.ab ?_ | (refine WC.fU dm (by kernel_rfl) ?_))
 all_goals (first | refine Br.ab ?_ | refine WQ.aK (ak rfl) rfl rfl rfl ?_)
 all_goals (first | refine Br.ab ?_ | refine WQ.aK (ak rfl) rfl rfl rfl ?_)
 all_goals (first | refine Br.ab ?_ | (refine WQ.aK (aE Tryz.underlying39 Tryz.sizeOf3 rfl rfl rfl (by omega) (by first | rfl | assumption)) rfl rfl rfl ?_))
 all_goals (first | refine Br.ab ?_ | (refine WQ.aK (aA Tryz.isAgg3 rfl (by first | assumption | exact aa (by assumption) rfl)) rfl rfl rfl ?_))
 all_goals (first | refine Br.ab ?_ | refine WQ.aK (ak rfl) rfl rfl rfl ?_)
 all_goals (first | refine Br.ab ?_ | refine WQ.aK (ak rfl) rfl rfl rfl ?_)
 all_goals (first | refine Br.ab ?_ | (refine WQ.aK (aE Tryz.underlying39 Tryz.sizeOf3 rfl rfl rfl (by omega) (by first | rfl | assumption)) rfl rfl rfl ?_))
 all_goals (first | refine Br.ab ?_ | (refine WQ.aK (aA Tryz.isAgg3 rfl (by first | assumption | exact aa (by assumption) rfl)) rfl rfl rfl ?_))
 all_goals (first | refine Br.ab ?_ | refine WQ.aK (jx rfl rfl) rfl rfl rfl ?_)
 all_goals (first | refine Br.ab ?_ | refine WQ.nil ?_)
 all_goals (refine Gn ?_;first | refine Br.ab ?_ | refine Gs [(0,_),(1,_),(5,_),(25,_)] ?_)
 all_goals (first | refine Br.ab ?_ | (refine aH 5 6 (Hb.mk fun hb=>?_) (Hb.mk fun hb=>?_)))
 all_goals try (
 refine aw 5 ?_
 refine G2 ?_;refine Gs [(4,_)] ?_;refine Gt ?_
 first | exact ⟨by rw [decide_eq_false (fun e=>by subst e;omega)],rfl⟩ | exact ⟨by rw [decide_eq_false (fun e=>by subst e;rw [hy] at hz;injection hz with hz;omega)],rfl⟩ | exact ⟨by rw [decide_eq_true (by rw [List.take_of_length_le (by omega),List.take_of_length_le (by omega)] at hn;exact hn)],rfl⟩
 skip)
 all_goals try (
 refine aw 6 ?_
 refine WC.skip ?_
 skip)
 all_goals (refine Gn ?_;first | refine Br.ab ?_ | refine WC.region ?_)
 all_goals (refine Go ?_;first | refine Br.ab ?_ | (exact ⟨k+1,⟨rfl,rfl,rfl,trivial⟩,(by exact ⟨rfl,by omega,by rw [List.take_add_one,List.take_add_one,hn,hy,hz,show y=z by omega]⟩),(by omega)⟩))
 try (refine Br.mk (i:=1000) ?_)
 refine Gn ?_;refine Gs [] ?_;refine G2 ?_;refine Gt ?_
 first | exact ⟨by rw [decide_eq_false (fun e=>by subst e;omega)],rfl⟩ | exact ⟨by rw [decide_eq_false (fun e=>by subst e;rw [hy] at hz;injection hz with hz;omega)],rfl⟩ | exact ⟨by rw [decide_eq_true (by rw [List.take_of_length_le (by omega),List.take_of_length_le (by omega)] at hn;exact hn)],rfl⟩
end Go.Proofs.YtopgddfgefnmbaaGreatDoor
namespace Go.RK
open Go
section
variable {P:Program}
theorem ib (w:World) (d:Nat) {e:TypeId} (he:P.underlying e=some .string) (hp:P.plainKey e=true) (xs ys:Array Value):∀ (us vs:List (List UInt8)) (o:Nat),vs.length=us.length →
   (∀ (j:Nat) (a:List UInt8),us[j]?=some a→xs[o+j]?=some (St a))→(∀ (j:Nat) (a:List UInt8),vs[j]?=some a→ys[o+j]?=some (St a)) →
   (Op.eqItems (d+1) e 1 xs ys (List.range' o us.length)).run P w=.ok (decide (us=vs)) w
 | [],vs,o,hl,_,_=>by
   obtain rfl:vs=[]:=List.eq_nil_of_length_eq_zero hl
   simp [Op.eqItems]
 | a :: us,[],o,hl,_,_=>by simp at hl
 | a :: us,b :: vs,o,hl,hx,hy=>by
   have p1:=hx 0 a rfl
   have p2:=hy 0 b rfl
   rw [Nat.add_zero] at p1 p2
   have r1:=run_part_plain (P:=P) (w:=w) hp p1
   have r2:=run_part_plain (P:=P) (w:=w) hp p2
   have r3:(Op.equalIn (d+1) e (St a) (St b)).run P w=.ok (decide (a=b)) w:=by
     show (Op.equalIn (d+1) e (.string _) (.string _)).run P w=_
     rw [run_equalIn_string w d e _ _ he]
     simp [iQ]
   have ih:=ib w d he hp xs ys us vs (o+1) (by simpa using hl) (fun j c hj=>by
     have:=hx (j+1) c (by simpa using hj)
     rwa [show o+(j+1)=o+1+j by omega] at this) (fun j c hj=>by
     have:=hy (j+1) c (by simpa using hj)
     rwa [show o+(j+1)=o+1+j by omega] at this)
   rw [List.length_cons,List.range'_succ]
   simp only [Op.eqItems,Nat.mul_one,Sem.run_bind,r1,r2,r3,Result.andThen_ok]
   by_cases h:a=b
   · simp [h,ih]
   · simp [h]
variable {f:Fr} {h:ah} {d:Option Tmp} {ty:TypeId} {pos:String} {af:Array Edge} {g:Option (Nat × Bool)}
theorem pN {t t2 e:TypeId} {x y:Operand} {n:Nat} {i:TypeInfo} {us vs:List (List UInt8)} (hu:P.underlying t=some (.array n e)) (hi:P.info? e=some i) (he:P.underlying e=some .string) (hp:P.plainKey e=true) (h1:P.cellsOf e=1) (hg:P.eqGuardType P.depth t=false)
   (hl:us.length=n) (kO:vs.length=n) (hx:f.ev x=some (.agg ⟨us.map St⟩)) (hy:f.ev y=some (.agg ⟨vs.map St⟩)) :
   bN P f ⟨d,.binOp .eql t x y t2,ty,pos,af,g⟩ h (.bool (decide (us=vs))):=fun ρ w hag _=>by
 have r1:=run_eqGuard_agg (P:=P) w .eql t x y ⟨us.map St⟩ ⟨vs.map St⟩ hg
 have r2:=run_eql_struct (P:=P) w t ⟨us.map St⟩ ⟨vs.map St⟩
 rw [show (10000:Nat)=9999+1 from rfl,run_equalIn_array w 9999 _ _ hu hi,h1,List.range_eq_range',← hl] at r2
 rw [ib w 9998 he hp _ _ us vs 0 (by omega) (fun j a hj=>by simp [hj]) (fun j a hj=>by simp [hj])] at r2
 simp only [execOp,hag _ _ hx,hag _ _ hy,Sem.run_bind,r1,r2,Result.andThen_ok,Sem.run_pure]
end
end Go.RK
namespace Go.Proofs.YtopgddfgefnmbaaGreatDoor
open Go Go.RK
structure eO where
 n:Int
 lo:Int
 hi:Int
def eO.cells (b:eO):List Value:=[In b.n,In b.lo,In b.hi]
theorem eO.len (b:eO):b.cells.length=3:=rfl
def eO.ok (b:eO):Prop:=b.lo≤b.n∧b.n≤b.hi
theorem od {h:ah} {v:Value} (l:List eO) (p:eO→Bool) {fk:Nat} {fs us:List Value} (hcf:∀ (args:Array Value) (w:World),(callFunc fk args).run Tryz.prog w=.ok (.enter fk args) w) (hr:Rd h v 3 l.length (l.flatMap eO.cells)) (hm:l.length≤maxLen)
   (hp:∀ x∈l,∀ h',Ext No h h'→ag Tryz.prog fk ⟨fs++[.agg ⟨eO.cells x⟩]++us⟩ h' fun u h''=>u=.bool (p x)∧Ext No h' h'') :
   ag Tryz.prog 300 ⟨[v,.func (.func fk) ⟨fs⟩ ⟨us⟩]⟩ h fun u h'=>u=In (jB p l)∧Ext No h h':=by
 obtain ⟨A,c,rfl,_⟩:=id hr
 unfold maxLen at hm
 refine calls [(0,_),(1,_)] Tryz.func300 rfl Tryz.ntmps300 rfl ⟨rfl,rfl,trivial⟩ ?_
 refine G2 ?_;refine G3 ?_;refine WC.block ?_;refine WC.bD (X:=Nat) (fun x=>([(8,In (x:Int))]:Fr)) [(0,_),(1,_),(7,_)] (fun k h'=>Ext No h h'∧k≤l.length∧∀ x∈l.take k,p x=false) (fun k=>l.length - k) (0) ⟨rfl,rfl,rfl,rfl,trivial⟩ (by exact ⟨.refl _ _,Nat.zero_le _,by simp⟩) ?_
 rintro k h1 ⟨az,hk,hn⟩
 refine WC.sub [(8,_),(0,_),(1,_),(7,_)] ⟨rfl,rfl,rfl,rfl,trivial⟩ ?_;refine G2 ?_;refine WC.seq ?_
 refine aH 1 2 (Hb.mk fun hb=>?_) (Hb.mk fun hb=>?_)
 all_goals try (
 refine aw 1 ?_
 refine WC.skip ?_
 skip)
 all_goals try (
 refine aw 2 ?_
 refine WC.exit ?_
 repeat' (with_reducible first | refine aU ?_ | refine aD rfl ?_ | refine aJ ?_ | refine aL ?_ | refine aS ?_)
 refine Br.out (i:=1000) ?_
 skip)
 all_goals (refine Gn ?_;first | refine Br.ab ?_ | refine WC.seq ?_)
 all_goals (first | refine Br.ab ?_ | refine WC.block ?_)
 all_goals (first | refine Br.ab ?_ | refine WC.sr ?_)
 all_goals (refine Go ?_;first | refine Br.ab ?_ | refine WC.sr ?_)
 all_goals (first | refine Br.ab ?_ | refine WL.step (ak rfl) rfl rfl rfl ?_)
 all_goals (first | refine Br.ab ?_ | refine WL.step (ak rfl) rfl rfl rfl ?_)
 all_goals (
  first
    | (refine Br.ab ?_)
    | (obtain ⟨b,o,hA,hbL,hat⟩:=Rd.at_ (hr.aq az) (by omega)
       obtain ⟨y,hy⟩:∃ y,l[k]?=some y:=⟨_,List.getElem?_eq_getElem (by omega)⟩
       have hc:At h1 b (o+k * 3) (eO.cells y):=At.elem eO.len hat hy))
 all_goals (first | refine Br.ab ?_ | refine WL.step (ak rfl) rfl rfl rfl ?_)
 all_goals (first | refine Br.ab ?_ | (refine WL.step (aE Tryz.underlying337 Tryz.sizeOf310 rfl rfl rfl (by omega) (by first | rfl | assumption)) rfl rfl rfl ?_))
 all_goals (first | refine Br.ab ?_ | (refine WL.step (ay Tryz.isAgg310 Tryz.sizeOf310 rfl rfl (by assumption)) rfl rfl rfl ?_))
 all_goals (
  first
    | (refine Br.ab ?_)
    | (refine WL.fC (vs:=[_]) rfl rfl hcf rfl (hp y (List.mem_of_getElem? hy) h1 az) rfl rfl rfl ?_
       rintro _ h2 ⟨rfl,aI⟩))
 all_goals (first | refine Br.ab ?_ | cases hpy:p y)
 all_goals (refine Gn ?_;first | refine Br.ab ?_ | refine Gs [(0,_),(1,_),(5,_),(7,_),(8,_),(16,_)] ?_)
 all_goals (first | refine Br.ab ?_ | refine aH 3 4 ?_ TT.mk)
 all_goals try (
 refine aw 3 ?_
 refine G2 ?_;refine Gs [(4,_)] ?_;refine Gt ?_
 first | exact ⟨by rw [dg (by rw [List.take_of_length_le (by omega)] at hn;exact hn)],az⟩ | exact ⟨by rw [de hy hpy hn],az.trans aI⟩
 skip)
 all_goals try (
 refine aw 4 ?_
 refine WC.skip ?_
 skip)
 all_goals (refine Gn ?_;first | refine Br.ab ?_ | refine WC.region ?_)
 all_goals (refine Go ?_;first | refine Br.ab ?_ | (exact ⟨k+1,⟨rfl,rfl,rfl,rfl,trivial⟩,(by exact ⟨az.trans aI,by omega,dh hn hy hpy⟩),(by omega)⟩))
 try (refine Br.mk (i:=1000) ?_)
 refine Gn ?_;refine Gs [] ?_;refine G2 ?_;refine Gt ?_
 first | exact ⟨by rw [dg (by rw [List.take_of_length_le (by omega)] at hn;exact hn)],az⟩ | exact ⟨by rw [de hy hpy hn],az.trans aI⟩
theorem oe {h:ah} {v:Value} (l:List cA) (p:cA→Bool) {fk:Nat} {fs us:List Value} (hcf:∀ (args:Array Value) (w:World),(callFunc fk args).run Tryz.prog w=.ok (.enter fk args) w) (hr:Rd h v 7 l.length (l.flatMap cA.cells)) (hm:l.length≤maxLen)
   (hp:∀ x∈l,∀ h',Ext No h h'→ag Tryz.prog fk ⟨fs++[.agg ⟨cA.cells x⟩]++us⟩ h' fun u h''=>u=.bool (p x)∧Ext No h' h'') :
   ag Tryz.prog 269 ⟨[v,.func (.func fk) ⟨fs⟩ ⟨us⟩]⟩ h fun u h'=>u=In (jB p l)∧Ext No h h':=by
 obtain ⟨A,c,rfl,_⟩:=id hr
 unfold maxLen at hm
 refine calls [(0,_),(1,_)] Tryz.func269 rfl Tryz.ntmps269 rfl ⟨rfl,rfl,trivial⟩ ?_
 refine G2 ?_;refine G3 ?_;refine WC.block ?_;refine WC.bD (X:=Nat) (fun x=>([(8,In (x:Int))]:Fr)) [(0,_),(1,_),(7,_)] (fun k h'=>Ext No h h'∧k≤l.length∧∀ x∈l.take k,p x=false) (fun k=>l.length - k) (0) ⟨rfl,rfl,rfl,rfl,trivial⟩ (by exact ⟨.refl _ _,Nat.zero_le _,by simp⟩) ?_
 rintro k h1 ⟨az,hk,hn⟩
 refine WC.sub [(8,_),(0,_),(1,_),(7,_)] ⟨rfl,rfl,rfl,rfl,trivial⟩ ?_;refine G2 ?_;refine WC.seq ?_
 refine aH 1 2 (Hb.mk fun hb=>?_) (Hb.mk fun hb=>?_)
 all_goals try (
 refine aw 1 ?_
 refine WC.skip ?_
 skip)
 all_goals try (
 refine aw 2 ?_
 refine WC.exit ?_
 repeat' (with_reducible first | refine aU ?_ | refine aD rfl ?_ | refine aJ ?_ | refine aL ?_ | refine aS ?_)
 refine Br.out (i:=1000) ?_
 skip)
 all_goals (refine Gn ?_;first | refine Br.ab ?_ | refine WC.seq ?_)
 all_goals (first | refine Br.ab ?_ | refine WC.block ?_)
 all_goals (first | refine Br.ab ?_ | refine WC.sr ?_)
 all_goals (refine Go ?_;first | refine Br.ab ?_ | refine WC.sr ?_)
 all_goals (first | refine Br.ab ?_ | refine WL.step (ak rfl) rfl rfl rfl ?_)
 all_goals (first | refine Br.ab ?_ | refine WL.step (ak rfl) rfl rfl rfl ?_)
 all_goals (
  first
    | (refine Br.ab ?_)
    | (obtain ⟨b,o,hA,hbL,hat⟩:=Rd.at_ (hr.aq az) (by omega)
       obtain ⟨y,hy⟩:∃ y,l[k]?=some y:=⟨_,List.getElem?_eq_getElem (by omega)⟩
       have hc:At h1 b (o+k * 7) (cA.cells y):=At.elem cA.len hat hy))
 all_goals (first | refine Br.ab ?_ | refine WL.step (ak rfl) rfl rfl rfl ?_)
 all_goals (first | refine Br.ab ?_ | (refine WL.step (aE Tryz.underlying137 Tryz.sizeOf212 rfl rfl rfl (by omega) (by first | rfl | assumption)) rfl rfl rfl ?_))
 all_goals (first | refine Br.ab ?_ | (refine WL.step (ay Tryz.isAgg212 Tryz.sizeOf212 rfl rfl (by assumption)) rfl rfl rfl ?_))
 all_goals (
  first
    | (refine Br.ab ?_)
    | (refine WL.fC (vs:=[_]) rfl rfl hcf rfl (hp y (List.mem_of_getElem? hy) h1 az) rfl rfl rfl ?_
       rintro _ h2 ⟨rfl,aI⟩))
 all_goals (first | refine Br.ab ?_ | cases hpy:p y)
 all_goals (refine Gn ?_;first | refine Br.ab ?_ | refine Gs [(0,_),(1,_),(5,_),(7,_),(8,_),(16,_)] ?_)
 all_goals (first | refine Br.ab ?_ | refine aH 3 4 ?_ TT.mk)
 all_goals try (
 refine aw 3 ?_
 refine G2 ?_;refine Gs [(4,_)] ?_;refine Gt ?_
 first | exact ⟨by rw [dg (by rw [List.take_of_length_le (by omega)] at hn;exact hn)],az⟩ | exact ⟨by rw [de hy hpy hn],az.trans aI⟩
 skip)
 all_goals try (
 refine aw 4 ?_
 refine WC.skip ?_
 skip)
 all_goals (refine Gn ?_;first | refine Br.ab ?_ | refine WC.region ?_)
 all_goals (refine Go ?_;first | refine Br.ab ?_ | (exact ⟨k+1,⟨rfl,rfl,rfl,rfl,trivial⟩,(by exact ⟨az.trans aI,by omega,dh hn hy hpy⟩),(by omega)⟩))
 try (refine Br.mk (i:=1000) ?_)
 refine Gn ?_;refine Gs [] ?_;refine G2 ?_;refine Gt ?_
 first | exact ⟨by rw [dg (by rw [List.take_of_length_le (by omega)] at hn;exact hn)],az⟩ | exact ⟨by rw [de hy hpy hn],az.trans aI⟩
theorem og {h:ah} {v:Value} (l:List bj) (p:bj→Bool) {fk:Nat} {fs us:List Value} (hcf:∀ (args:Array Value) (w:World),(callFunc fk args).run Tryz.prog w=.ok (.enter fk args) w) (hr:Rd h v 2 l.length (l.flatMap bj.cells)) (hm:l.length≤maxLen)
   (hp:∀ x∈l,∀ h',Ext No h h'→ag Tryz.prog fk ⟨fs++[.agg ⟨bj.cells x⟩]++us⟩ h' fun u h''=>u=.bool (p x)∧Ext No h' h'') :
   ag Tryz.prog 272 ⟨[v,.func (.func fk) ⟨fs⟩ ⟨us⟩]⟩ h fun u h'=>u=In (jB p l)∧Ext No h h':=by
 obtain ⟨A,c,rfl,_⟩:=id hr
 unfold maxLen at hm
 refine calls [(0,_),(1,_)] Tryz.func272 rfl Tryz.ntmps272 rfl ⟨rfl,rfl,trivial⟩ ?_
 refine G2 ?_;refine G3 ?_;refine WC.block ?_;refine WC.bD (X:=Nat) (fun x=>([(8,In (x:Int))]:Fr)) [(0,_),(1,_),(7,_)] (fun k h'=>Ext No h h'∧k≤l.length∧∀ x∈l.take k,p x=false) (fun k=>l.length - k) (0) ⟨rfl,rfl,rfl,rfl,trivial⟩ (by exact ⟨.refl _ _,Nat.zero_le _,by simp⟩) ?_
 rintro k h1 ⟨az,hk,hn⟩
 refine WC.sub [(8,_),(0,_),(1,_),(7,_)] ⟨rfl,rfl,rfl,rfl,trivial⟩ ?_;refine G2 ?_;refine WC.seq ?_
 refine aH 1 2 (Hb.mk fun hb=>?_) (Hb.mk fun hb=>?_)
 all_goals try (
 refine aw 1 ?_
 refine WC.skip ?_
 skip)
 all_goals try (
 refine aw 2 ?_
 refine WC.exit ?_
 repeat' (with_reducible first | refine aU ?_ | refine aD rfl ?_ | refine aJ ?_ | refine aL ?_ | refine aS ?_)
 refine Br.out (i:=1000) ?_
 skip)
 all_goals (refine Gn ?_;first | refine Br.ab ?_ | refine WC.seq ?_)
 all_goals (first | refine Br.ab ?_ | refine WC.block ?_)
 all_goals (first | refine Br.ab ?_ | refine WC.sr ?_)
 all_goals (refine Go ?_;first | refine Br.ab ?_ | refine WC.sr ?_)
 all_goals (first | refine Br.ab ?_ | refine WL.step (ak rfl) rfl rfl rfl ?_)
 all_goals (first | refine Br.ab ?_ | refine WL.step (ak rfl) rfl rfl rfl ?_)
 all_goals (
  first
    | (refine Br.ab ?_)
    | (obtain ⟨b,o,hA,hbL,hat⟩:=Rd.at_ (hr.aq az) (by omega)
       obtain ⟨y,hy⟩:∃ y,l[k]?=some y:=⟨_,List.getElem?_eq_getElem (by omega)⟩
       have hc:At h1 b (o+k * 2) (bj.cells y):=At.elem bj.len hat hy))
 all_goals (first | refine Br.ab ?_ | refine WL.step (ak rfl) rfl rfl rfl ?_)
 all_goals (first | refine Br.ab ?_ | (refine WL.step (aE Tryz.underlying138 Tryz.sizeOf194 rfl rfl rfl (by omega) (by first | rfl | assumption)) rfl rfl rfl ?_))
 all_goals (first | refine Br.ab ?_ | (refine WL.step (ay Tryz.isAgg194 Tryz.sizeOf194 rfl rfl (by assumption)) rfl rfl rfl ?_))
 all_goals (
  first
    | (refine Br.ab ?_)
    | (refine WL.fC (vs:=[_]) rfl rfl hcf rfl (hp y (List.mem_of_getElem? hy) h1 az) rfl rfl rfl ?_
       rintro _ h2 ⟨rfl,aI⟩))
 all_goals (first | refine Br.ab ?_ | cases hpy:p y)
 all_goals (refine Gn ?_;first | refine Br.ab ?_ | refine Gs [(0,_),(1,_),(5,_),(7,_),(8,_),(16,_)] ?_)
 all_goals (first | refine Br.ab ?_ | refine aH 3 4 ?_ TT.mk)
 all_goals try (
 refine aw 3 ?_
 refine G2 ?_;refine Gs [(4,_)] ?_;refine Gt ?_
 first | exact ⟨by rw [dg (by rw [List.take_of_length_le (by omega)] at hn;exact hn)],az⟩ | exact ⟨by rw [de hy hpy hn],az.trans aI⟩
 skip)
 all_goals try (
 refine aw 4 ?_
 refine WC.skip ?_
 skip)
 all_goals (refine Gn ?_;first | refine Br.ab ?_ | refine WC.region ?_)
 all_goals (refine Go ?_;first | refine Br.ab ?_ | (exact ⟨k+1,⟨rfl,rfl,rfl,rfl,trivial⟩,(by exact ⟨az.trans aI,by omega,dh hn hy hpy⟩),(by omega)⟩))
 try (refine Br.mk (i:=1000) ?_)
 refine Gn ?_;refine Gs [] ?_;refine G2 ?_;refine Gt ?_
 first | exact ⟨by rw [dg (by rw [List.take_of_length_le (by omega)] at hn;exact hn)],az⟩ | exact ⟨by rw [de hy hpy hn],az.trans aI⟩
theorem jq {h:ah} {v:Value} (l:List aX) (p:aX→Bool) {fk:Nat} {fs us:List Value} (hcf:∀ (args:Array Value) (w:World),(callFunc fk args).run Tryz.prog w=.ok (.enter fk args) w) (hr:Rd h v 2 l.length (l.flatMap aX.cells)) (hm:l.length≤maxLen)
   (hp:∀ x∈l,∀ h',Ext No h h'→ag Tryz.prog fk ⟨fs++[.agg ⟨aX.cells x⟩]++us⟩ h' fun u h''=>u=.bool (p x)∧Ext No h' h'') :
   ag Tryz.prog 83 ⟨[v,.func (.func fk) ⟨fs⟩ ⟨us⟩]⟩ h fun u h'=>u=In (jB p l)∧Ext No h h':=by
 obtain ⟨A,c,rfl,_⟩:=id hr
 unfold maxLen at hm
 refine calls [(0,_),(1,_)] Tryz.func83 rfl Tryz.ntmps83 rfl ⟨rfl,rfl,trivial⟩ ?_
 refine G2 ?_;refine G3 ?_;refine WC.block ?_;refine WC.bD (X:=Nat) (fun x=>([(8,In (x:Int))]:Fr)) [(0,_),(1,_),(7,_)] (fun k h'=>Ext No h h'∧k≤l.length∧∀ x∈l.take k,p x=false) (fun k=>l.length - k) (0) ⟨rfl,rfl,rfl,rfl,trivial⟩ (by exact ⟨.refl _ _,Nat.zero_le _,by simp⟩) ?_
 rintro k h1 ⟨az,hk,hn⟩
 refine WC.sub [(8,_),(0,_),(1,_),(7,_)] ⟨rfl,rfl,rfl,rfl,trivial⟩ ?_;refine G2 ?_;refine WC.seq ?_
 refine aH 1 2 (Hb.mk fun hb=>?_) (Hb.mk fun hb=>?_)
 all_goals try (
 refine aw 1 ?_
 refine WC.skip ?_
 skip)
 all_goals try (
 refine aw 2 ?_
 refine WC.exit ?_
 repeat' (with_reducible first | refine aU ?_ | refine aD rfl ?_ | refine aJ ?_ | refine aL ?_ | refine aS ?_)
 refine Br.out (i:=1000) ?_
 skip)
 all_goals (refine Gn ?_;first | refine Br.ab ?_ | refine WC.seq ?_)
 all_goals (first | refine Br.ab ?_ | refine WC.block ?_)
 all_goals (first | refine Br.ab ?_ | refine WC.sr ?_)
 all_goals (refine Go ?_;first | refine Br.ab ?_ | refine WC.sr ?_)
 all_goals (first | refine Br.ab ?_ | refine WL.step (ak rfl) rfl rfl rfl ?_)
 all_goals (first | refine Br.ab ?_ | refine WL.step (ak rfl) rfl rfl rfl ?_)
 all_goals (
  first
    | (refine Br.ab ?_)
    | (obtain ⟨b,o,hA,hbL,hat⟩:=Rd.at_ (hr.aq az) (by omega)
       obtain ⟨y,hy⟩:∃ y,l[k]?=some y:=⟨_,List.getElem?_eq_getElem (by omega)⟩
       have hc:At h1 b (o+k * 2) (aX.cells y):=At.elem aX.len hat hy))
 all_goals (first | refine Br.ab ?_ | refine WL.step (ak rfl) rfl rfl rfl ?_)
 all_goals (first | refine Br.ab ?_ | (refine WL.step (aE Tryz.underlying40 Tryz.sizeOf85 rfl rfl rfl (by omega) (by first | rfl | assumption)) rfl rfl rfl ?_))
 all_goals (first | refine Br.ab ?_ | (refine WL.step (ay Tryz.isAgg85 Tryz.sizeOf85 rfl rfl (by assumption)) rfl rfl rfl ?_))
 all_goals (
  first
    | (refine Br.ab ?_)
    | (refine WL.fC (vs:=[_]) rfl rfl hcf rfl (hp y (List.mem_of_getElem? hy) h1 az) rfl rfl rfl ?_
       rintro _ h2 ⟨rfl,aI⟩))
 all_goals (first | refine Br.ab ?_ | cases hpy:p y)
 all_goals (refine Gn ?_;first | refine Br.ab ?_ | refine Gs [(0,_),(1,_),(5,_),(7,_),(8,_),(16,_)] ?_)
 all_goals (first | refine Br.ab ?_ | refine aH 3 4 ?_ TT.mk)
 all_goals try (
 refine aw 3 ?_
 refine G2 ?_;refine Gs [(4,_)] ?_;refine Gt ?_
 first | exact ⟨by rw [dg (by rw [List.take_of_length_le (by omega)] at hn;exact hn)],az⟩ | exact ⟨by rw [de hy hpy hn],az.trans aI⟩
 skip)
 all_goals try (
 refine aw 4 ?_
 refine WC.skip ?_
 skip)
 all_goals (refine Gn ?_;first | refine Br.ab ?_ | refine WC.region ?_)
 all_goals (refine Go ?_;first | refine Br.ab ?_ | (exact ⟨k+1,⟨rfl,rfl,rfl,rfl,trivial⟩,(by exact ⟨az.trans aI,by omega,dh hn hy hpy⟩),(by omega)⟩))
 try (refine Br.mk (i:=1000) ?_)
 refine Gn ?_;refine Gs [] ?_;refine G2 ?_;refine Gt ?_
 first | exact ⟨by rw [dg (by rw [List.take_of_length_le (by omega)] at hn;exact hn)],az⟩ | exact ⟨by rw [de hy hpy hn],az.trans aI⟩
def cA.okB (c:cA):Prop:=aY c.nm=true∧(0≤c.t∧c.t≤4294967295)∧(0≤c.a∧c.a≤65535)∧(0≤c.o∧c.o≤4294967295)∧(-32768≤c.s∧c.s≤32767)∧(-2147483648≤c.m∧c.m≤2147483647)∧(0≤c.f∧c.f≤65535)
def bj.okB (c:bj):Prop:=c.k ≠ 0∧aY c.t=true
def aX.okB (c:aX):Prop:=(c.null=true→c.bytes.length=0)∧c.bytes.length≤1048576
theorem lQ {h:ah} {v w:Value} (l m:List UInt8) (hr:Rd h v 1 l.length (bA l)) (hs:Rd h w 1 m.length (bA m)) :
   ag Tryz.prog 12 ⟨[v,w]⟩ h fun u h'=>u=.bool (decide (l=m))∧h'=h:=by
 obtain ⟨A,c,rfl,_⟩:=id hr
 obtain ⟨B,d,rfl,_⟩:=id hs
 by_cases e:l=m
 all_goals
   refine calls [(0,_),(1,_)] Tryz.func12 rfl Tryz.ntmps12 rfl ⟨rfl,rfl,trivial⟩ ?_
   all_goals (refine G2 ?_;refine G2 ?_;refine WL.step (dM Tryz.underlying23 Tryz.underlying5 Tryz.underlying9 rfl hr) rfl rfl rfl (Go ?_);refine WL.step (dM Tryz.underlying23 Tryz.underlying5 Tryz.underlying9 rfl hs) rfl rfl rfl (Go ?_);refine Gs [(4,_)] ?_;refine Gt ?_;exact ⟨by simp [e],rfl⟩)
def zB (k : Int) : Bk := ⟨k, 0, [], [], [], 0, 0, .slice none 0 0, [], .slice none 0 0, [], .slice none 0 0, [], .slice none 0 0, []⟩
def sY (b : Bk) : Bk :=
 if b.kind = 83 then { zB b.kind with name := b.name, value := b.value }
 else if b.kind = 75 then { zB b.kind with n := b.n, m := b.m }
 else if b.kind = 90 then { zB b.kind with status := b.status }
 else if b.kind = 67 then { zB b.kind with tag := b.tag }
 else if b.kind = 68 then { zB b.kind with vr := b.vr, row := b.row }
 else if b.kind = 84 then { zB b.kind with vc := b.vc, cols := b.cols }
 else if b.kind = 116 then { zB b.kind with vo := b.vo, oids := b.oids }
 else if b.kind = 69 ∨ b.kind = 78 then { zB b.kind with vf := b.vf, fields := b.fields }
 else zB b.kind
theorem fX (h : ah) : cF h (.slice none 0 0) [] := ⟨Rd.nil _ _, ⟨by simp, _, _, rfl, by decide⟩, by simp⟩
theorem G0 (h : ah) (k : Int) : (zB k).ok h := ⟨⟨Rd.nil _ _, by simp [zB]⟩, ⟨Rd.nil _ _, by simp [zB]⟩, fX h, ⟨Rd.nil _ _, by simp [zB]⟩⟩
theorem Es {h : ah} {b : Bk} (k : b.ok h) : (sY b).ok h := by
 obtain ⟨k1, k2, k3, k4⟩ := k
 obtain ⟨z1, z2, z3, z4⟩ := G0 h b.kind
 unfold sY
 repeat' split
 all_goals first | exact ⟨z1, z2, z3, z4⟩ | exact ⟨z1, z2, k3, z4⟩ | exact ⟨z1, k2, z3, z4⟩ | exact ⟨k1, z2, z3, z4⟩ | exact ⟨z1, z2, z3, k4⟩
theorem BP {h : ah} (b : Bk) (hb : b.ok h) : ag Tryz.prog 202 ⟨[.agg ⟨b.cells⟩]⟩ h fun u h' => u = .agg ⟨(sY b).cells⟩ ∧ Ext No h h' := by
 obtain ⟨k, st, t, n, v, x, y, vo, lo, vc, lc, vr, lr, vf, lf⟩ := b
 obtain ⟨⟨ho, _⟩, ⟨hc, _⟩, hr, hf, _⟩ := hb
 simp only at ho hc hr hf
 obtain ⟨A1, c1, rfl, _⟩ := id ho
 obtain ⟨A2, c2, rfl, _⟩ := id hc
 obtain ⟨_, ⟨_, A3, c3, rfl, _⟩, _⟩ := id hr
 obtain ⟨A4, c4, rfl, _⟩ := id hf
 dsimp only [Bk.cells]
 refine calls [(0, _)] Tryz.func202 rfl Tryz.ntmps202 rfl ⟨rfl, trivial⟩ ?_
 refine WC.sr ?_; refine WL.aj (aG rfl) rfl rfl rfl ?_
 rintro _ h1 ⟨b1, rfl, bR, aR, az⟩
 refine WL.aj (an (fun w => Tryz.zeroValue140 w)) rfl rfl rfl ?_
 rintro _ h2 ⟨b2, rfl, gg, bH, aI⟩
 have rC := aI.obj aR aO
 refine Gn ?_; refine G2 ?_; refine Ld ?_; refine WL.step (aF (vs := [_]) (cs := [_, _, _, _, _, _, _, _, _, _, _]) (fun | [a0] => [a0, (.int .u8 0), (St []), (St []), (St []), (.int .i64 0), (.int .i64 0), (.slice none 0 0), (.slice none 0 0), (.slice none 0 0), (.slice none 0 0)] | _ => []) rfl rfl (by kernel_rfl)) rfl rfl rfl ?_
 refine WL.aj (an (fun w => Tryz.zeroValue140 w)) rfl rfl rfl ?_
 rintro _ h3 ⟨b3, rfl, gl, bq, aQ⟩
 have yl := aQ.obj rC aO
 have ym := aQ.obj bH aO
 have gr : ¬ b1 = b3 := by have := ai rC; omega
 have kR : ¬ b2 = b3 := by have := ai bH; omega
 refine WL.ax (al Tryz.sizeOf140 rfl rfl rfl (by assumption) rfl (by simp [Value.oneCell'])) rfl rfl ?_
 rintro _ h4 ⟨bC, aW⟩
 have ew := aW.obj yl gr
 have eP := aW.obj ym kR
 have oH : Ext No h h4 := ((az.trans aI).trans aQ).trans' aW (fun q hq e => by have := az.size; have := aI.size; omega)
 refine Gn ?_; refine Gs [(1, _), (2, _), (3, _)] ?_; refine G3 ?_; refine Ld ?_; refine Gn ?_; refine WC.block ?_; refine G2 ?_
 refine aH 1 2 (Hb.mk fun hb => ?_) (Hb.mk fun hb => ?_)
 all_goals try (
 refine aw 1 ?_
 refine WC.bW (fun h' => Ext (fun q => q = b3) h4 h') 7 8 rfl dm ?_
 refine WH.tk 0 rfl (fun hq hC => ad rfl Tryz.underlying140 rfl Tryz.sizeOf9) rfl rfl rfl ?_ (hC := (by first | exact Ext.refl _ _ | assumption | exact aM.trans aN))
 refine WH.tk 1 rfl (fun hq hC => aA Tryz.isAgg9 rfl (by first | exact hC.cell (by first | exact aa ew rfl | assumption) gr)) rfl rfl rfl ?_ (hC := (by first | exact Ext.refl _ _ | assumption | exact aM.trans aN))
 refine WH.tk 2 rfl (fun hq hC => ad rfl Tryz.underlying140 rfl Tryz.sizeOf9) rfl rfl rfl ?_ (hC := (by first | exact Ext.refl _ _ | assumption | exact aM.trans aN))
 refine WH.tk 3 rfl (fun hq hC => aA Tryz.isAgg9 rfl (by first | exact hC.cell (by first | exact aa ew rfl | assumption) gr)) rfl rfl rfl ?_ (hC := (by first | exact Ext.refl _ _ | assumption | exact aM.trans aN))
 refine WH.tk 4 rfl (fun hq hC => ad rfl Tryz.underlying140 rfl Tryz.sizeOf9) rfl rfl rfl ?_ (hC := (by first | exact Ext.refl _ _ | assumption | exact aM.trans aN))
 refine WH.one 5 (by kernel_rfl) ?_
 refine aC.cO rfl (aB Tryz.sizeOf9 rfl rfl (by assumption) (Nat.le_of_ble_eq_true rfl) rfl rfl) rfl rfl ?_ (fun _ => by kernel_rfl)
 rintro _ h5 ⟨bV, aM⟩
 refine ⟨fun _ => aM, ?_⟩
 refine WH.tk 6 rfl (fun hq hC => ad rfl Tryz.underlying140 rfl Tryz.sizeOf9) rfl rfl rfl ?_ (hC := (by first | exact Ext.refl _ _ | assumption | exact aM.trans aN))
 refine WH.one 7 (by kernel_rfl) ?_
 refine aC.cO rfl (aB Tryz.sizeOf9 rfl rfl (by assumption) (Nat.le_of_ble_eq_true rfl) rfl rfl) rfl rfl ?_ (fun _ => by kernel_rfl)
 rintro _ h6 ⟨bX, aN⟩
 refine ⟨fun _ => aM.trans aN, ?_⟩
 have hE := aM.trans aN
 have fi := hE.obj eP kR
 refine WH.done (by kernel_rfl) ?_
 skip)
 all_goals try (
 refine aw 2 ?_
 refine G2 ?_; refine Gs [(1, _), (2, _), (3, _), (8, _), (17, _)] ?_
 refine aH 3 4 (Hb.mk fun hb => ?_) (Hb.mk fun hb => ?_)
 all_goals try (
 refine aw 3 ?_
 refine WC.bW (fun h' => Ext (fun q => q = b3) h4 h') 7 8 rfl dm ?_
 refine WH.tk 0 rfl (fun hq hC => ad rfl Tryz.underlying140 rfl Tryz.sizeOf3) rfl rfl rfl ?_ (hC := (by first | exact Ext.refl _ _ | assumption | exact aM.trans aN))
 refine WH.tk 1 rfl (fun hq hC => aA Tryz.isAgg3 rfl (by first | exact hC.cell (by first | exact aa ew rfl | assumption) gr)) rfl rfl rfl ?_ (hC := (by first | exact Ext.refl _ _ | assumption | exact aM.trans aN))
 refine WH.tk 2 rfl (fun hq hC => ad rfl Tryz.underlying140 rfl Tryz.sizeOf3) rfl rfl rfl ?_ (hC := (by first | exact Ext.refl _ _ | assumption | exact aM.trans aN))
 refine WH.tk 3 rfl (fun hq hC => aA Tryz.isAgg3 rfl (by first | exact hC.cell (by first | exact aa ew rfl | assumption) gr)) rfl rfl rfl ?_ (hC := (by first | exact Ext.refl _ _ | assumption | exact aM.trans aN))
 refine WH.tk 4 rfl (fun hq hC => ad rfl Tryz.underlying140 rfl Tryz.sizeOf3) rfl rfl rfl ?_ (hC := (by first | exact Ext.refl _ _ | assumption | exact aM.trans aN))
 refine WH.one 5 (by kernel_rfl) ?_
 refine aC.cO rfl (aB Tryz.sizeOf3 rfl rfl (by assumption) (Nat.le_of_ble_eq_true rfl) rfl rfl) rfl rfl ?_ (fun _ => by kernel_rfl)
 rintro _ h5 ⟨bV, aM⟩
 refine ⟨fun _ => aM, ?_⟩
 refine WH.tk 6 rfl (fun hq hC => ad rfl Tryz.underlying140 rfl Tryz.sizeOf3) rfl rfl rfl ?_ (hC := (by first | exact Ext.refl _ _ | assumption | exact aM.trans aN))
 refine WH.one 7 (by kernel_rfl) ?_
 refine aC.cO rfl (aB Tryz.sizeOf3 rfl rfl (by assumption) (Nat.le_of_ble_eq_true rfl) rfl rfl) rfl rfl ?_ (fun _ => by kernel_rfl)
 rintro _ h6 ⟨bX, aN⟩
 refine ⟨fun _ => aM.trans aN, ?_⟩
 have hE := aM.trans aN
 have fi := hE.obj eP kR
 refine WH.done (by kernel_rfl) ?_
 skip)
 all_goals try (
 refine aw 4 ?_
 refine G2 ?_
 refine aH 5 6 (Hb.mk fun hb => ?_) (Hb.mk fun hb => ?_)
 all_goals try (
 refine aw 5 ?_
 refine WC.region (Go ?_); refine Ld ?_; refine Go ?_; refine WL.ax (aB Tryz.sizeOf5 rfl rfl (by assumption) (Nat.le_of_ble_eq_true rfl) rfl rfl) rfl rfl ?_
 rintro _ h5 ⟨bV, hE⟩
 have fi := hE.obj eP kR
 refine Gn ?_
 skip)
 all_goals try (
 refine aw 6 ?_
 refine G2 ?_; refine Gs [(1, _), (2, _), (3, _), (8, _), (30, _)] ?_
 refine aH 7 8 (Hb.mk fun hb => ?_) (Hb.mk fun hb => ?_)
 all_goals try (
 refine aw 7 ?_
 refine WC.region (Go ?_); refine Ld ?_; refine Go ?_; refine WL.ax (aB Tryz.sizeOf9 rfl rfl (by assumption) (Nat.le_of_ble_eq_true rfl) rfl rfl) rfl rfl ?_
 rintro _ h5 ⟨bV, hE⟩
 have fi := hE.obj eP kR
 refine Gn ?_
 skip)
 all_goals try (
 refine aw 8 ?_
 refine G2 ?_
 refine aH 9 10 (Hb.mk fun hb => ?_) (Hb.mk fun hb => ?_)
 all_goals try (
 refine aw 9 ?_
 refine WC.region (Go ?_); refine Ld ?_; refine Go ?_; refine WL.ax (aB Tryz.sizeOf40 rfl rfl (by assumption) (Nat.le_of_ble_eq_true rfl) rfl rfl) rfl rfl ?_
 rintro _ h5 ⟨bV, hE⟩
 have fi := hE.obj eP kR
 refine Gn ?_
 skip)
 all_goals try (
 refine aw 10 ?_
 refine G2 ?_; refine Gs [(1, _), (2, _), (3, _), (8, _), (40, _)] ?_
 refine aH 11 12 (Hb.mk fun hb => ?_) (Hb.mk fun hb => ?_)
 all_goals try (
 refine aw 11 ?_
 refine WC.region (Go ?_); refine Ld ?_; refine Go ?_; refine WL.ax (aB Tryz.sizeOf137 rfl rfl (by assumption) (Nat.le_of_ble_eq_true rfl) rfl rfl) rfl rfl ?_
 rintro _ h5 ⟨bV, hE⟩
 have fi := hE.obj eP kR
 refine Gn ?_
 skip)
 all_goals try (
 refine aw 12 ?_
 refine G2 ?_
 refine aH 13 14 (Hb.mk fun hb => ?_) (Hb.mk fun hb => ?_)
 all_goals try (
 refine aw 13 ?_
 refine WC.region (Go ?_); refine Ld ?_; refine Go ?_; refine WL.ax (aB Tryz.sizeOf39 rfl rfl (by assumption) (Nat.le_of_ble_eq_true rfl) rfl rfl) rfl rfl ?_
 rintro _ h5 ⟨bV, hE⟩
 have fi := hE.obj eP kR
 refine Gn ?_
 skip)
 all_goals try (
 refine aw 14 ?_
 refine G3 ?_; refine Gs [(1, _), (2, _), (3, _), (8, _), (50, _)] ?_
 refine aH 15 16 (Hb.mk fun hb => ?_) (Hb.mk fun hb => ?_)
 all_goals try (
 refine aw 15 ?_
 refine WC.skip ?_
 skip)
 all_goals try (
 refine aw 16 ?_
 refine WC.region (Go ?_)
 skip)
 all_goals (refine Gn ?_; refine aH 17 18 (Hb.mk fun hb => ?_) (Hb.mk fun hb => ?_))
 all_goals try (
 refine aw 17 ?_
 all_goals (refine WC.region (Go ?_); refine Ld ?_; refine Go ?_; refine WL.ax (aB Tryz.sizeOf138 rfl rfl (by assumption) (Nat.le_of_ble_eq_true rfl) rfl rfl) rfl rfl ?_; rintro _ h5 ⟨bV, hE⟩; have fi := hE.obj eP kR; refine Gn ?_)
 skip)
 all_goals try (
 refine aw 18 ?_
 all_goals (refine WC.skip ?_)
 skip)
 skip)
 skip)
 skip)
 skip)
 skip)
 skip)
 skip)
 all_goals (refine Gn ?_; refine WC.sr ?_; refine WL.step (ay Tryz.isAgg140 Tryz.sizeOf140 rfl rfl (by exact (by first | exact At.av bX | exact At.av bV | exact At.av bC))) rfl rfl rfl ?_; refine WL.ax (al Tryz.sizeOf140 rfl rfl rfl (by first | exact fi | exact eP) rfl (by simp [Value.oneCell'])) rfl rfl ?_; rintro _ h9 ⟨bY, bZ⟩; refine Gn ?_; refine Gs [(2, _)] ?_; refine WC.ret ?_; repeat' (with_reducible first | refine aZ ?_ | refine aV ?_))
 all_goals (refine cm _ ⟨⟨_, rfl, bB Tryz.isAgg140 Tryz.sizeOf140 (by assumption) rfl⟩, trivial⟩ ?_)
 all_goals (
  have fT := az.size
  have pz := aI.size
  refine ⟨?_, by first | exact (oH.trans' hE (fun q hq e => by omega)).trans' bZ (fun q hq e => by omega) | exact oH.trans' bZ (fun q hq e => by omega)⟩
  first
   | (exfalso; omega)
   | (simp only [sY, if_pos, *]; rfl)
   | (simp [sY, zB, Bk.cells, *]; done))
def pO : List UInt8 := [82, 83, 75, 90, 49, 50, 51, 110, 115, 73, 67, 68, 84, 116, 69, 78]
def Bk.mb (b : Bk) : Prop := b.kind ≠ 90 ∨ b.status = 73 ∨ b.status = 84 ∨ b.status = 69
structure Bk.may (b : Bk) : Prop where
 kind : ∃ k : UInt8, Value.int .u8 b.kind = By k ∧ pO.contains k = true
 tag : aY b.tag = true
 name : aY b.name = true
 value : aY b.value = true
 cols : b.cols.length ≤ 65535 ∧ ∀ c ∈ b.cols, c.okB
 fields : b.fields.length ≤ 65535 ∧ ∀ f ∈ b.fields, f.okB
 row : b.row.length ≤ 65535 ∧ ∀ c ∈ b.row, c.okB
 oids : b.oids.length ≤ 65535 ∧ ∀ n ∈ b.oids, 0 ≤ n ∧ n ≤ 4294967295
 n : 0 ≤ b.n ∧ b.n ≤ 4294967295
 m : 0 ≤ b.m ∧ b.m ≤ 4294967295
 st : b.mb
 own : (sY b).pl = b.pl
def gB (k st n m:Int):Bk:=⟨k,st,[],[],[],n,m,.slice none 0 0,[],.slice none 0 0,[],.slice none 0 0,[],.slice none 0 0,[]⟩
theorem yo (k st n m:Int) (h:ah):(gB k st n m).ok h:=⟨⟨Rd.nil _ _,by simp [gB,maxLen]⟩,⟨Rd.nil _ _,by simp [gB,maxLen]⟩,⟨Rd.nil _ _,⟨by simp [gB],_,_,rfl,by decide⟩,by simp [gB]⟩,⟨Rd.nil _ _,by simp [gB,maxLen]⟩⟩
theorem Et:(gB 82 0 0 0).may:=⟨⟨82,rfl,by decide⟩,by decide,by decide,by decide,⟨by simp [gB],by simp [gB]⟩,⟨by simp [gB],by simp [gB]⟩,⟨by simp [gB],by simp [gB]⟩,⟨by simp [gB],by simp [gB]⟩,by decide,by decide,.inl (by decide),by simp [sY,gB,zB]⟩
theorem Eu:(gB 75 0 1 7919).may:=⟨⟨75,rfl,by decide⟩,by decide,by decide,by decide,⟨by simp [gB],by simp [gB]⟩,⟨by simp [gB],by simp [gB]⟩,⟨by simp [gB],by simp [gB]⟩,⟨by simp [gB],by simp [gB]⟩,by decide,by decide,.inl (by decide),by simp [sY,gB,zB]⟩
theorem Ev:(gB 90 73 0 0).may:=⟨⟨90,rfl,by decide⟩,by decide,by decide,by decide,⟨by simp [gB],by simp [gB]⟩,⟨by simp [gB],by simp [gB]⟩,⟨by simp [gB],by simp [gB]⟩,⟨by simp [gB],by simp [gB]⟩,by decide,by decide,.inr (by decide),by simp [sY,gB,zB]⟩
end Go.Proofs.YtopgddfgefnmbaaGreatDoor
namespace Go.RK
open Go Go.MapKept Go.ChangeMaps
section
variable {P:Program} {f:Fr} {h:ah} {d:Option Tmp} {ty:TypeId} {pos:String} {af:Array Edge} {g:Option (Nat × Bool)}
variable {t t2:TypeId} {x y:Operand} {a b:Int} {k:IntKind}
def G1 (k:IntKind) (a b:Int):Int:=k.wrap ((BitVec.ofInt k.bits a &&& BitVec.ofInt k.bits b).toNat:Int)
def IX (k:IntKind) (a b:Int):Int:=k.wrap ((BitVec.ofInt k.bits a ||| BitVec.ofInt k.bits b).toNat:Int)
theorem yp (hx:f.ev x=some (.int k a)) (hy:f.ev y=some (.int k b)):bN P f ⟨d,.binOp .and t x y t2,ty,pos,af,g⟩ h (.int k (G1 k a b)) :=
 fun ρ w ha _=>by simp [execOp,ha _ _ hx,ha _ _ hy,eqGuard_and,binOp_and,Op.intBits,G1]
theorem DC (hx:f.ev x=some (.int k a)) (hy:f.ev y=some (.int k b)):bN P f ⟨d,.binOp .or t x y t2,ty,pos,af,g⟩ h (.int k (IX k a b)) :=
 fun ρ w ha _=>by simp [execOp,ha _ _ hx,ha _ _ hy,eqGuard_or,binOp_or,Op.intBits,IX]
theorem vj (hx:f.ev x=some (In a)) (hy:f.ev y=some (.int k b)) (hb:0≤b∧b≤64) (hr : -9223372036854775808≤a * 2 ^ b.toNat∧a * 2 ^ b.toNat≤9223372036854775807):bN P f ⟨d,.binOp .shl t x y t2,ty,pos,af,g⟩ h (In (a * 2 ^ b.toNat)) :=
 fun ρ w ha _=>by
   have h1:¬ b < 0:=by omega
   have h2:min b.toNat 64=b.toNat:=by omega
   have h3:(IntKind.i64).bits=64:=rfl
   have h4:=wrap_i64 _ hr.1 hr.2
   simp [execOp,ha _ _ hx,ha _ _ hy,eqGuard_shl,binOp_shl,Op.shift,h1,h3,h2,h4]
theorem vk {n c:Int} (hn:0≤n∧n≤1099511627776) (hc:0≤c∧c≤255):IX .i64 (n * 256) c=n * 256+c:=by
 obtain ⟨m,rfl⟩:=Int.eq_ofNat_of_zero_le hn.1
 obtain ⟨b,rfl⟩:=Int.eq_ofNat_of_zero_le hc.1
 have Mr:(IntKind.i64).bits=64:=rfl
 unfold IX
 rw [Mr,BitVec.toNat_or,BitVec.toNat_ofInt,BitVec.toNat_ofInt]
 have e1:((m:Int) * 256 % ((2 ^ 64:Nat):Int)).toNat=m <<< 8:=by rw [Nat.shiftLeft_eq];omega
 have e2:((b:Int) % ((2 ^ 64:Nat):Int)).toNat=b:=by omega
 rw [e1,e2,← Nat.shiftLeft_add_eq_or_of_lt (by omega:b < 2 ^ 8),Nat.shiftLeft_eq]
 rw [wrap_i64 _ (by omega) (by omega)]
 omega
end
end Go.RK
namespace Go.Proofs.YtopgddfgefnmbaaGreatDoor
open Go Go.RK
theorem G4 {h:ah}:ag Tryz.prog 124 ⟨[In 0]⟩ h fun u h'=>u=.tuple ⟨[In 1,In 7919]⟩∧h'=h:=by
 refine calls [(0,_)] Tryz.func124 rfl Tryz.ntmps124 rfl ⟨rfl,trivial⟩ ?_
 refine G2 ?_;refine G2 ?_;refine WL.step (pD rfl rfl) rfl rfl rfl ?_;refine WL.step (j1 rfl rfl) rfl rfl rfl (Go ?_);refine Gs [(4,_)] ?_;refine G2 ?_;refine WL.step (yp rfl rfl) rfl rfl rfl (Go ?_);refine WL.step (jR rfl rfl (by omega)) rfl rfl rfl ?_
 refine WL.step (yp rfl rfl) rfl rfl rfl (Go ?_);refine Gs [(2,_),(3,_)] ?_;refine Gt ?_
 exact ⟨by rfl,rfl⟩
theorem wG {h:ah}:ag Tryz.prog 125 ⟨[.slice none 0 0]⟩ h fun u h'=>u=.slice none 0 0∧h'=h:=by
 refine calls [(0,_)] Tryz.func125 rfl Tryz.ntmps125 rfl ⟨rfl,trivial⟩ ?_
 refine G2 ?_;refine G2 ?_;refine G3 ?_;refine WC.block ?_;refine WC.bD (X:=Unit) (fun x=>([(8,In 0),(3,.slice none 0 0)]:Fr)) [(6,_),(7,_)] (fun _ h'=>h'=h) (fun _=>0) (()) ⟨rfl,rfl,rfl,rfl,trivial⟩ (by exact rfl) ?_
 rintro _ h1 hz
 subst hz
 refine WC.sub [(3,_),(8,_),(6,_),(7,_)] ⟨rfl,rfl,rfl,rfl,trivial⟩ ?_;refine G2 ?_;refine WC.seq ?_
 refine aH 1 2 ?_ TT.mk
 all_goals (refine aw 2 ?_)
 refine WC.exit ?_
 repeat' (with_reducible first | refine aU ?_ | refine aD rfl ?_ | refine aJ ?_ | refine aL ?_ | refine aS ?_)
 refine Br.out (i:=1000) ?_;refine Gn ?_;refine Br.ab ?_;refine Br.ab ?_;refine Br.ab ?_;refine Br.ab ?_;refine Br.ab ?_;refine Br.ab ?_;refine Br.ab ?_;refine Gn ?_;refine Br.ab ?_;refine Go ?_;refine Br.ab ?_;refine Go ?_;refine Br.ab ?_;refine Br.ab ?_;refine Br.ab ?_;refine Br.ab ?_;refine Go ?_;refine Br.ab ?_;refine Br.ab ?_;refine Go ?_;refine Br.ab ?_
 try (refine Br.mk (i:=1000) ?_)
 refine Gn ?_;refine Gs [(3,_)] ?_;refine G2 ?_;refine Gt ?_
 exact ⟨rfl,rfl⟩
abbrev pP:List Value:=(gB 82 0 0 0).cells++(gB 75 0 1 7919).cells++(gB 90 73 0 0).cells
theorem Ew {h:ah}:ag Tryz.prog 91 ⟨[.slice none 0 0,In 0]⟩ h fun u h'=>Own h' u 140 11 3 pP∧Ext No h h'∧∀ q,u.ownBlock=some q→h.size≤q:=by
 refine calls [(0,_),(1,_)] Tryz.func91 rfl Tryz.ntmps91 rfl ⟨rfl,rfl,trivial⟩ ?_
 refine G2 ?_;refine G2 ?_;refine WL.call (vs:=[_]) rfl Tryz.call124 rfl (G4) rfl rfl rfl ?_
 rintro _ hz ⟨rfl,_⟩
 subst hz
 refine Go ?_;refine Gs [(0,_),(5,_),(6,_)] ?_;refine WC.sr ?_;refine WL.step (aF (vs:=[_]) (cs:=[_,_,_,_,_,_,_,_,_,_,_]) (fun | [a0]=>[a0,(.int .u8 0),(St []),(St []),(St []),(.int .i64 0),(.int .i64 0),(.slice none 0 0),(.slice none 0 0),(.slice none 0 0),(.slice none 0 0)] | _=>[]) rfl rfl (by kernel_rfl)) rfl rfl rfl ?_
 refine WL.aj (au (vs:=[_]) (cs:=[_,_,_,_,_,_,_,_,_,_,_]) (fun | [.agg ⟨[a0,a1,a2,a3,a4,a5,a6,a7,a8,a9,gY]⟩]=>[a0,a1,a2,a3,a4,a5,a6,a7,a8,a9,gY] | _=>[]) Tryz.underlying80 rfl rfl (by kernel_rfl)) rfl rfl rfl ?_
 rintro _ h1 ⟨b1,rfl,bR,aR,az⟩
 refine Go ?_;refine WL.call (vs:=[_]) rfl Tryz.call125 rfl (wG) rfl rfl rfl ?_
 rintro _ hz ⟨rfl,_⟩
 subst hz
 refine WL.aj (aT (sz:=11) (bytes:=168) rfl Tryz.underlying80 (show Tryz.prog.info? 140=some Tryz.t140 by kernel_rfl) rfl rfl rfl rfl (by decide) rfl rfl (dE aR rfl (by simp [maxLen])) (Rd.nil _ _) (by simp [Value.oneCell']) (by simp only [maxLen];omega) (by omega)) rfl rfl rfl ?_
 rintro v2 h2 ⟨dc,aI,kO⟩
 have dc:Own h2 v2 140 11 1 (gB 82 0 0 0).cells:=dc
 have eI:=bU kO (fun k hk=>by simp only [Value.ownBlock,Option.some.injEq] at hk;exact hk▸bR) az.size
 have X2:Ext No h h2:=az.trans' aI (fun q hq e=>by simp only [Value.ownBlock,Option.some.injEq] at e;omega)
 refine Go ?_;refine Gs [(5,_),(6,_),(7,_)] ?_;refine G2 ?_;refine WL.step (aF (vs:=[_,_,_]) (cs:=[_,_,_,_,_,_,_,_,_,_,_]) (fun | [a0,a5,a6]=>[a0,(.int .u8 0),(St []),(St []),(St []),a5,a6,(.slice none 0 0),(.slice none 0 0),(.slice none 0 0),(.slice none 0 0)] | _=>[]) rfl rfl (by kernel_rfl)) rfl rfl rfl ?_
 refine WL.step (aF (vs:=[_,_]) (cs:=[_,_,_,_,_,_,_,_,_,_,_]) (fun | [a0,a1]=>[a0,a1,(St []),(St []),(St []),(.int .i64 0),(.int .i64 0),(.slice none 0 0),(.slice none 0 0),(.slice none 0 0),(.slice none 0 0)] | _=>[]) rfl rfl (by kernel_rfl)) rfl rfl rfl ?_
 refine WL.aj (au (vs:=[_,_]) (cs:=[_,_,_,_,_,_,_,_,_,_,_,_,_,_,_,_,_,_,_,_,_,_]) (fun | [.agg ⟨[a0,a1,a2,a3,a4,a5,a6,a7,a8,a9,gY]⟩,.agg ⟨[yq,a12,Ex,Ey,Ez,G5,G6,Jv,Jw,a20,a21]⟩]=>[a0,a1,a2,a3,a4,a5,a6,a7,a8,a9,gY,yq,a12,Ex,Ey,Ez,G5,G6,Jv,Jw,a20,a21] | _=>[]) Tryz.underlying80 rfl rfl (by kernel_rfl)) rfl rfl rfl ?_
 rintro _ h3 ⟨b3,rfl,gl,bq,aQ⟩
 refine WL.aj (aT (sz:=11) (bytes:=168) rfl Tryz.underlying80 (show Tryz.prog.info? 140=some Tryz.t140 by kernel_rfl) rfl rfl rfl rfl (by decide) rfl rfl (dc.ext aQ (fun _ _=>aO)) (bx (len:=2) (sz:=11) (cs:=(gB 75 0 1 7919).cells++(gB 90 73 0 0).cells) bq rfl) (by simp [gB,Bk.cells,Value.oneCell']) (by simp only [maxLen];omega) (by omega)) rfl rfl rfl ?_
 rintro v4 h4 ⟨fP,aW,rD⟩
 have fP:Own h4 v4 140 11 3 pP:=fP
 refine Go ?_;refine Gs [(4,_)] ?_;refine Gt ?_
 exact ⟨fP,(X2.trans aQ).trans' aW (fun q hq e=>by have:=eI q e;omega),bU rD eI (by have:=X2.size;have:=aQ.size;omega)⟩
theorem rE {h:ah} (s:List UInt8) (hm:s.length≤1000000):ag Tryz.prog 104 ⟨[St s]⟩ h fun u h'=>u=.bool (aY s)∧h'=h:=by
 have hci:aY s=true ↔ ∀ c∈s,c ≠ 0:=by
   unfold aY
   rw [Bool.not_eq_true',← Bool.not_eq_true,List.contains_iff_mem]
   exact ⟨fun z c hc e=>z (e▸hc),fun z hc=>z 0 hc rfl⟩
 refine calls [(0,_)] Tryz.func104 rfl Tryz.ntmps104 rfl ⟨rfl,trivial⟩ ?_
 refine G2 ?_;refine G3 ?_;refine WC.block ?_;refine WC.bD (X:=Nat) (fun x=>([(3,In (x:Int))]:Fr)) [(0,_)] (fun k h'=>h=h'∧k≤s.length∧∀ c∈s.take k,c ≠ 0) (fun k=>s.length - k) (0) ⟨rfl,rfl,trivial⟩ (by exact ⟨rfl,Nat.zero_le _,fun c hc=>by cases hc⟩) ?_
 rintro k h2 ⟨e,hk,hn⟩
 subst e
 refine WC.sub [(3,_),(0,_)] ⟨rfl,rfl,trivial⟩ ?_;refine G3 ?_
 refine aH 1 2 (Hb.mk fun hb=>?_) (Hb.mk fun hb=>?_)
 all_goals try (
 refine aw 1 ?_
 refine WC.skip ?_
 skip)
 all_goals try (
 refine aw 2 ?_
 refine WC.exit ?_
 repeat' (with_reducible first | refine aU ?_ | refine aD rfl ?_ | refine aJ ?_ | refine aL ?_ | refine aS ?_)
 refine Br.out (i:=1000) ?_
 skip)
 all_goals (refine Gn ?_;first | refine Br.ab ?_ | refine Gs [(0,_),(3,_)] ?_)
 all_goals (first | refine Br.ab ?_ | refine WC.seq ?_)
 all_goals (first | refine Br.ab ?_ | refine WC.block ?_)
 all_goals (first | refine Br.ab ?_ | refine WC.seq ?_)
 all_goals (first | refine Br.ab ?_ | (obtain ⟨y,hy⟩:∃ y,s[k]?=some y:=⟨_,List.getElem?_eq_getElem (by omega)⟩))
 all_goals (first | refine Br.ab ?_ | refine WC.region ?_)
 all_goals (refine Go ?_;first | refine Br.ab ?_ | (refine WL.step (cP Tryz.underlying9 rfl rfl (by omega) (by assumption)) rfl rfl rfl ?_))
 all_goals (refine Go ?_;first | refine Br.ab ?_ | (refine aH 3 4 (Hb.mk fun hb=>?_) (Hb.mk fun hb=>?_)))
 all_goals try (
 refine aw 3 ?_
 refine G2 ?_;refine Gs [(2,_)] ?_;refine Gt ?_
 first
  | (refine ⟨congrArg Value.bool ?_,rfl⟩;symm;rw [hci];rw [List.take_of_length_le (by omega)] at hn;exact hn)
  | (refine ⟨congrArg Value.bool ?_,rfl⟩;cases hq:aY s;rfl;exact absurd (UInt8.toNat_inj.1 (by simpa using hb)) (hci.1 hq _ (List.mem_of_getElem? hy)))
 skip)
 all_goals try (
 refine aw 4 ?_
 refine WC.skip ?_
 skip)
 all_goals (refine Gn ?_;first | refine Br.ab ?_ | refine Gs [(0,_),(3,_)] ?_)
 all_goals (first | refine Br.ab ?_ | refine WC.region ?_)
 all_goals (refine Go ?_;first | refine Br.ab ?_ | (exact ⟨k+1,⟨rfl,rfl,trivial⟩,(by exact ⟨rfl,by omega,fun c hc=>by rw [List.take_add_one,hy] at hc;simp only [Option.toList_some,List.mem_append,List.mem_singleton] at hc;rcases hc with hc | rfl;exact hn c hc;exact (fun e=>by subst e;simp at *)⟩),(by omega)⟩))
 try (refine Br.mk (i:=1000) ?_)
 refine Gn ?_;refine Gs [] ?_;refine G2 ?_;refine Gt ?_
 first
  | (refine ⟨congrArg Value.bool ?_,rfl⟩;symm;rw [hci];rw [List.take_of_length_le (by omega)] at hn;exact hn)
  | (refine ⟨congrArg Value.bool ?_,rfl⟩;cases hq:aY s;rfl;exact absurd (UInt8.toNat_inj.1 (by simpa using hb)) (hci.1 hq _ (List.mem_of_getElem? hy)))
abbrev iE:List UInt8:=([117,115,101,114]:List UInt8)
abbrev uL:List UInt8:=([117]:List UInt8)
theorem G7 {h:ah} {p:Nat} (hp:h[p]?=some (.cells ⟨[St iE,St uL]⟩ 59 (0,0))):ag Tryz.prog 61 ⟨[.agg ⟨[In 196608,In 0,In 0,.slice (some ⟨p,0,none⟩) 1 1]⟩]⟩ h fun u h'=>u=.bool true∧Ext No h h':=by
 have c1:=fun h'=>rE (h:=h') iE (by decide)
 have c2:=fun h'=>rE (h:=h') uL (by decide)
 rw [show aY iE=true from rfl] at c1
 rw [show aY uL=true from rfl] at c2
 refine calls [(0,_)] Tryz.func61 rfl Tryz.ntmps61 rfl ⟨rfl,trivial⟩ ?_
 refine WC.sr ?_;refine WL.aj (aG rfl) rfl rfl rfl ?_
 rintro _ h1 ⟨b1,rfl,bR,aR,az⟩
 have Jx:=az.obj hp aO
 refine Go ?_;refine G3 ?_;refine WC.block ?_;refine WC.bD (X:=Nat) (fun x=>([(3,In (x:Int))]:Fr)) [(1,_)] (fun k h'=>h'=h1∧k≤1) (fun k=>1 - k) (0) ⟨rfl,rfl,trivial⟩ (by exact ⟨rfl,Nat.zero_le _⟩) ?_
 rintro k h2 ⟨hz,hk⟩
 subst hz
 refine WC.sub [(3,_),(1,_)] ⟨rfl,rfl,trivial⟩ ?_;refine G3 ?_;refine WL.ld rfl (by first | exact aa aR rfl | assumption) rfl rfl rfl (Go ?_)
 refine Gs [(1,_),(3,_),(9,_)] ?_
 refine aH 1 2 (Hb.mk fun hb=>?_) (Hb.mk fun hb=>?_)
 all_goals try (
 refine aw 1 ?_
 refine WC.skip ?_
 skip)
 all_goals try (
 refine aw 2 ?_
 refine WC.exit ?_
 repeat' (with_reducible first | refine aU ?_ | refine aD rfl ?_ | refine aJ ?_ | refine aL ?_ | refine aS ?_)
 refine Br.out (i:=1000) ?_
 skip)
 all_goals (refine Gn ?_;first | refine Br.ab ?_ | refine WC.seq ?_)
 all_goals (first | refine Br.ab ?_ | refine WC.block ?_)
 all_goals (first | refine Br.ab ?_ | refine WC.sr ?_)
 all_goals (first | refine Br.ab ?_ | (obtain rfl:k=0:=by omega))
 all_goals (first | refine Br.ab ?_ | refine WL.step (ad rfl Tryz.underlying62 rfl Tryz.sizeOf60) rfl rfl rfl ?_)
 all_goals (first | refine Br.ab ?_ | (refine WL.ld rfl (by first | exact aa aR rfl | assumption) rfl rfl rfl ?_))
 all_goals (refine Go ?_;first | refine Br.ab ?_ | (refine WL.step (aE Tryz.underlying60 Tryz.sizeOf59 rfl rfl rfl (by omega) (by first | rfl | assumption)) rfl rfl rfl ?_))
 all_goals (refine Go ?_;first | refine Br.ab ?_ | (refine WL.ld rfl (by first | exact aa Jx rfl | assumption) rfl rfl rfl ?_))
 all_goals (refine Go ?_;first | refine Br.ab ?_ | refine bK 19 ?_ TT.mk)
 all_goals (refine Gg ?_;first | refine Br.ab ?_ | (refine WL.ld rfl (by first | exact aa aR rfl | assumption) rfl rfl rfl ?_))
 all_goals (refine Gg ?_;first | refine Br.ab ?_ | (refine WL.step (aE Tryz.underlying60 Tryz.sizeOf59 rfl rfl rfl (by omega) (by first | rfl | assumption)) rfl rfl rfl ?_))
 all_goals (refine Gg ?_;first | refine Br.ab ?_ | (refine WL.ld rfl (by first | exact aa Jx rfl | assumption) rfl rfl rfl ?_))
 all_goals (
  first
    | (refine Br.ab ?_)
    | (refine WL.call (vs:=[_]) rfl Tryz.call104 rfl (c1 _) rfl rfl rfl ?_
       rintro _ hq ⟨rfl,iV⟩
       subst iV))
 all_goals (refine Gg ?_;refine Go ?_;first | refine Br.ab ?_ | refine bK 29 ?_ TT.mk)
 all_goals (refine Gg ?_;first | refine Br.ab ?_ | (refine WL.ld rfl (by first | exact aa aR rfl | assumption) rfl rfl rfl ?_))
 all_goals (refine Gg ?_;first | refine Br.ab ?_ | (refine WL.step (aE Tryz.underlying60 Tryz.sizeOf59 rfl rfl rfl (by omega) (by first | rfl | assumption)) rfl rfl rfl ?_))
 all_goals (refine Gg ?_;first | refine Br.ab ?_ | (refine WL.ld rfl (by first | exact aa Jx rfl | assumption) rfl rfl rfl ?_))
 all_goals (
  first
    | (refine Br.ab ?_)
    | (refine WL.call (vs:=[_]) rfl Tryz.call104 rfl (c2 _) rfl rfl rfl ?_
       rintro _ hq ⟨rfl,iV⟩
       subst iV))
 all_goals (refine Gg ?_;refine Go ?_;first | refine Br.ab ?_ | refine Gs [(1,_),(3,_),(38,_)] ?_)
 all_goals (first | refine Br.ab ?_ | refine aH 3 4 ?_ TT.mk)
 all_goals try (
 refine aw 4 ?_
 refine WC.skip ?_
 skip)
 all_goals (refine Gn ?_;first | refine Br.ab ?_ | refine WC.region ?_)
 all_goals (refine Go ?_;first | refine Br.ab ?_ | (exact ⟨0+1,⟨rfl,rfl,trivial⟩,(by exact ⟨rfl,by omega⟩),(by omega)⟩))
 try (refine Br.mk (i:=1000) ?_)
 refine Gn ?_;refine G2 ?_;refine WL.ld rfl (by first | exact aa aR rfl | assumption) rfl rfl rfl (Go ?_)
 refine bK 42 ?_ TT.mk
 refine Gg ?_;refine WL.ld rfl (by first | exact aa aR rfl | assumption) rfl rfl rfl ?_
 refine Gg ?_;refine Go ?_;refine Gs [(1,_),(4,_)] ?_;refine G3 ?_;refine WL.ld rfl (by first | exact aa aR rfl | assumption) rfl rfl rfl ?_
 refine Gn ?_;refine WC.block ?_;refine G2 ?_
 refine aH 5 6 ?_ TT.mk
 all_goals (refine aw 5 ?_)
 refine G2 ?_;refine Gs [(2,_)] ?_;refine Gt ?_
 first | exact ⟨rfl,az⟩ | (exfalso;simp_all)
abbrev jr:List UInt8:=[0,3,0,0,117,115,101,114,0,117,0,0]
theorem BQ {h:ah} {p:Nat} (hp:h[p]?=some (.cells ⟨[St iE,St uL]⟩ 59 (0,0))):ag Tryz.prog 29 ⟨[.agg ⟨[In 196608,In 0,In 0,.slice (some ⟨p,0,none⟩) 1 1]⟩]⟩ h fun u h'=>∃ v,u=.tuple ⟨[v,In 0]⟩∧Own h' v 5 1 12 (bA jr)∧Ext No h h':=by
 have Ot:iE.length=4:=rfl
 have Ov:uL.length=1:=rfl
 have km:=fun (g:ah) (x:Ext No h g)=>G7 (x.obj hp aO)
 refine calls [(0,_)] Tryz.func29 rfl Tryz.ntmps29 rfl ⟨rfl,trivial⟩ ?_
 refine WC.sr ?_;refine WL.aj (aG rfl) rfl rfl rfl ?_
 rintro _ h1 ⟨b1,rfl,bR,aR,az⟩
 refine Go ?_;refine WC.seq ?_;refine WC.sr ?_;refine WL.step (ay Tryz.isAgg62 Tryz.sizeOf62 rfl rfl (by exact At.av aR)) rfl rfl rfl ?_
 refine WL.call (vs:=[_]) rfl Tryz.call61 rfl (km _ az) rfl rfl rfl ?_
 rintro _ h2 ⟨rfl,aI⟩
 have bT:=aI.obj aR aO
 have X2:=az.trans aI
 refine Go ?_;refine Gs [(1,_),(8,_)] ?_
 refine aH 1 2 ?_ TT.mk
 all_goals (refine aw 2 ?_)
 refine WC.skip ?_;refine Gn ?_;refine G2 ?_;refine WL.ld rfl (by first | exact aa bT rfl | assumption) rfl rfl rfl ?_
 refine WL.call (vs:=[_,_,_]) rfl Tryz.call62 rfl (j6 [] 196608 4 (.inr (.inr rfl)) (by unfold Rt;decide) (Rd.nil _ _) (by decide)) rfl rfl rfl ?_
 rintro v3 h3 ⟨dN,aQ,gS⟩
 have dN:Own h3 v3 5 1 4 (bA [0,3,0,0]):=dN
 have cw:=aQ.obj bT aO
 have X3:=X2.trans aQ
 refine Go ?_;refine Gs [(1,_),(4,_)] ?_;refine G3 ?_;refine WL.ld rfl (by first | exact aa cw rfl | assumption) rfl rfl rfl ?_
 refine Gn ?_;refine WC.block ?_;refine G2 ?_
 refine aH 3 4 ?_ TT.mk
 all_goals (refine aw 3 ?_)
 refine G3 ?_;refine Gs [(1,_),(4,_),(5,_)] ?_;refine WC.block ?_;refine WC.bD (X:=Nat × Value) (fun x=>([(5,In (x.1:Int)),(4,x.2)]:Fr)) [(1,_)] (fun x h'=>(x.1=0∧x.2=v3∧h'=h3)∨(x.1=1∧Own h' x.2 5 1 11 (bA [0,3,0,0,117,115,101,114,0,117,0])∧Ext No h2 h'∧∀ q,x.2.ownBlock=some q→h2.size≤q)) (fun x=>1 - x.1) ((0,v3)) ⟨rfl,rfl,rfl,trivial⟩ (by exact .inl ⟨rfl,rfl,rfl⟩) ?_
 rintro ⟨k,w⟩ h4 hI
 dsimp only at hI
 have X4:Ext No h2 h4:=by rcases hI with ⟨_,_,rfl⟩ | ⟨_,_,x,_⟩;exact aQ;exact x
 have bJ:=X4.obj bT aO
 have Ms:=(X2.trans X4).obj hp aO
 refine WC.sub [(4,_),(5,_),(1,_)] ⟨rfl,rfl,rfl,trivial⟩ ?_
 dsimp only
 refine G3 ?_;refine WL.ld rfl (by first | exact aa bJ rfl | assumption) rfl rfl rfl (Go ?_)
 refine Gs [(1,_),(4,_),(5,_),(20,_)] ?_
 refine aH 5 6 (Hb.mk fun hb=>?_) (Hb.mk fun hb=>?_)
 all_goals try (
 refine aw 5 ?_
 refine WC.skip ?_
 skip)
 all_goals try (
 refine aw 6 ?_
 refine WC.exit ?_
 repeat' (with_reducible first | refine aU ?_ | refine aD rfl ?_ | refine aJ ?_ | refine aL ?_ | refine aS ?_)
 refine Br.out (i:=1001) ?_
 skip)
 all_goals (refine Gn ?_;first | refine Br.ab ?_ | refine WC.seq ?_)
 all_goals (first | refine Br.ab ?_ | refine WC.block ?_)
 all_goals (first | refine Br.ab ?_ | refine WC.sr ?_)
 all_goals (first | refine Br.ab ?_ | (obtain ⟨rfl,rfl,rfl⟩:k=0∧w=v3∧h4=h3:=by rcases hI with e | ⟨e,_⟩;exact e;exfalso;omega))
 all_goals (first | refine Br.ab ?_ | refine WL.step (ak rfl) rfl rfl rfl ?_)
 all_goals (refine Go ?_;first | refine Br.ab ?_ | (refine WL.ld rfl (by first | exact aa bJ rfl | assumption) rfl rfl rfl ?_))
 all_goals (refine Go ?_;first | refine Br.ab ?_ | (refine WL.step (aE Tryz.underlying60 Tryz.sizeOf59 rfl rfl rfl (by omega) (by first | rfl | assumption)) rfl rfl rfl ?_))
 all_goals (refine Go ?_;first | refine Br.ab ?_ | (refine WL.ld rfl (by first | exact aa Ms rfl | assumption) rfl rfl rfl ?_))
 all_goals (
  first
    | (refine Br.ab ?_)
    | (refine WL.aj (fW rfl Tryz.underlying23 Tryz.underlying9 (show Tryz.prog.info? 5=some Tryz.t5 by kernel_rfl) rfl rfl rfl rfl rfl dN (by omega)) rfl rfl rfl ?_
       rintro v5 h5 ⟨eF,aM,fO,_⟩
       have eF:Own h5 v5 5 1 8 (bA [0,3,0,0,117,115,101,114]):=eF
       have X5:Ext No h2 h5:=aQ.trans' aM (fun q hq e=>by have:=gS q e;omega)
       have f5:∀ q,v5.ownBlock=some q→h2.size≤q:=fun q hq=>(fO q hq).elim (gS q) (fun e=>by have:=aQ.size;omega)))
 all_goals (
  first
    | (refine Br.ab ?_)
    | (refine WL.aj (au (vs:=[_]) (cs:=[_]) (fun | [a0]=>[a0] | _=>[]) Tryz.underlying23 rfl rfl (by kernel_rfl)) rfl rfl rfl ?_
       rintro _ h6 ⟨b6,rfl,qQ,bX,aN⟩))
 all_goals (
  first
    | (refine Br.ab ?_)
    | (refine WL.aj (aT (sz:=1) (bytes:=1) rfl Tryz.underlying23 (show Tryz.prog.info? 5=some Tryz.t5 by kernel_rfl) rfl rfl rfl rfl (by decide) rfl rfl (eF.ext aN (fun _ _=>aO)) (bx (len:=1) (sz:=1) (cs:=[.int .u8 0]) bX rfl) (by simp [Value.oneCell']) (by simp only [maxLen];omega) (by omega)) rfl rfl rfl ?_
       rintro v7 h7 ⟨mV,ba,DD⟩
       have mV:Own h7 v7 5 1 9 (bA [0,3,0,0,117,115,101,114,0]):=mV
       have X7:Ext No h2 h7:=(X5.trans aN).trans' ba (fun q hq e=>by have:=f5 q e;omega)
       have f7:=bU DD f5 (X5.trans aN).size))
 all_goals (refine Go ?_;first | refine Br.ab ?_ | refine Gs [(1,_),(4,_),(5,_)] ?_)
 all_goals (first | refine Br.ab ?_ | refine WC.region ?_)
 all_goals (refine Go ?_;first | refine Br.ab ?_ | (refine WL.ld rfl (by first | exact aa (X7.obj bT aO) rfl | assumption) rfl rfl rfl ?_))
 all_goals (refine Go ?_;first | refine Br.ab ?_ | (refine WL.step (aE Tryz.underlying60 Tryz.sizeOf59 rfl rfl rfl (by omega) (by first | rfl | assumption)) rfl rfl rfl ?_))
 all_goals (refine Go ?_;first | refine Br.ab ?_ | (refine WL.ld rfl (by first | exact aa ((X2.trans X7).obj hp aO) rfl | assumption) rfl rfl rfl ?_))
 all_goals (
  first
    | (refine Br.ab ?_)
    | (refine WL.aj (fW rfl Tryz.underlying23 Tryz.underlying9 (show Tryz.prog.info? 5=some Tryz.t5 by kernel_rfl) rfl rfl rfl rfl rfl mV (by omega)) rfl rfl rfl ?_
       rintro v8 h8 ⟨jK,bz,EA,_⟩
       have jK:Own h8 v8 5 1 10 (bA [0,3,0,0,117,115,101,114,0,117]):=jK
       have X8:Ext No h2 h8:=X7.trans' bz (fun q hq e=>by have:=f7 q e;omega)
       have f8:∀ q,v8.ownBlock=some q→h2.size≤q:=fun q hq=>(EA q hq).elim (f7 q) (fun e=>by have:=X7.size;omega)))
 all_goals (
  first
    | (refine Br.ab ?_)
    | (refine WL.aj (au (vs:=[_]) (cs:=[_]) (fun | [a0]=>[a0] | _=>[]) Tryz.underlying23 rfl rfl (by kernel_rfl)) rfl rfl rfl ?_
       rintro _ h9 ⟨b9,rfl,Ow,bY,bZ⟩))
 all_goals (
  first
    | (refine Br.ab ?_)
    | (refine WL.aj (aT (sz:=1) (bytes:=1) rfl Tryz.underlying23 (show Tryz.prog.info? 5=some Tryz.t5 by kernel_rfl) rfl rfl rfl rfl (by decide) rfl rfl (jK.ext bZ (fun _ _=>aO)) (bx (len:=1) (sz:=1) (cs:=[.int .u8 0]) bY rfl) (by simp [Value.oneCell']) (by simp only [maxLen];omega) (by omega)) rfl rfl rfl ?_
       rintro v10 iG ⟨mW,ct,Jy⟩
       have mW:Own iG v10 5 1 11 (bA [0,3,0,0,117,115,101,114,0,117,0]):=mW
       have yr:Ext No h2 iG:=(X8.trans bZ).trans' ct (fun q hq e=>by have:=f8 q e;omega)
       have f10:=bU Jy f8 (X8.trans bZ).size))
 all_goals (refine Go ?_;first | refine Br.ab ?_ | refine Gs [(1,_),(4,_),(5,_)] ?_)
 all_goals (first | refine Br.ab ?_ | refine WC.region ?_)
 all_goals (refine Go ?_;first | refine Br.ab ?_ | (exact ⟨(0+1,_),⟨rfl,rfl,rfl,trivial⟩,(by exact .inr ⟨rfl,mW,yr,f10⟩),(by first | omega | (dsimp only;omega) | simp)⟩))
 try (refine Br.mk (i:=1001) ?_)
 refine Gn ?_;refine WC.region (Go ?_);refine WL.aj (au (vs:=[_]) (cs:=[_]) (fun | [a0]=>[a0] | _=>[]) Tryz.underlying23 rfl rfl (by kernel_rfl)) rfl rfl rfl ?_
 rintro _ h6 ⟨b6,rfl,qQ,bX,aN⟩
 obtain ⟨ek,fP,f4⟩:k=1∧Own h4 w 5 1 11 (bA [0,3,0,0,117,115,101,114,0,117,0])∧∀ q,w.ownBlock=some q→h2.size≤q:=by rcases hI with ⟨e,_⟩ | ⟨e,o,_,f⟩;exfalso;omega;exact ⟨e,o,f⟩
 refine WL.aj (aT (sz:=1) (bytes:=1) rfl Tryz.underlying23 (show Tryz.prog.info? 5=some Tryz.t5 by kernel_rfl) rfl rfl rfl rfl (by decide) rfl rfl (fP.ext aN (fun _ _=>aO)) (bx (len:=1) (sz:=1) (cs:=[.int .u8 0]) bX rfl) (by simp [Value.oneCell']) (by simp only [maxLen];omega) (by omega)) rfl rfl rfl ?_
 rintro v7 h7 ⟨mV,ba,DD⟩
 have mV:Own h7 v7 5 1 12 (bA jr):=mV
 refine Go ?_;refine Gn ?_;refine G2 ?_;refine Gt ?_
 exact ⟨v7,rfl,mV,(X2.trans (X4.trans aN)).trans' ba (fun q hq e=>by have:=f4 q e;have:=X2.size;omega)⟩
abbrev di:List UInt8:=[0,0,0,16,0,3,0,0,117,115,101,114,0,117,0,0]
theorem wH {h:ah} {v:Value} (hv:Rd h v 1 12 (bA jr)):ag Tryz.prog 30 ⟨[.agg ⟨[.int .u8 0,v]⟩]⟩ h fun u h'=>Own h' u 5 1 16 (bA di)∧Ext No h h'∧∀ q,u.ownBlock=some q→h.size≤q:=by
 obtain ⟨A,c,rfl,_⟩:=id hv
 refine calls [(0,_)] Tryz.func30 rfl Tryz.ntmps30 rfl ⟨rfl,trivial⟩ ?_
 refine WC.sr ?_;refine WL.aj (aG rfl) rfl rfl rfl ?_
 rintro _ h1 ⟨b1,rfl,bR,aR,az⟩
 refine Go ?_;refine G2 ?_;refine G3 ?_;refine WL.ld rfl (by first | exact aa aR rfl | assumption) rfl rfl rfl (Go ?_)
 refine Gs [(1,_),(3,_),(6,_)] ?_
 refine aH 1 2 ?_ TT.mk
 all_goals (refine aw 2 ?_)
 refine WC.skip ?_;refine Gn ?_;refine WC.seq ?_;refine WC.bW (fun h'=>Ext No h1 h') 9 10 rfl dm ?_
 refine WH.tk 0 rfl (fun hq hC=>ak rfl) rfl rfl rfl ?_
 refine WH.tk 1 rfl (fun hq hC=>ad rfl Tryz.underlying53 rfl Tryz.sizeOf23) rfl rfl rfl ?_
 refine WH.tk 2 rfl (fun hq hC=>aA Tryz.isAgg23 rfl (by first | exact hC.cell (by first | exact aa aR rfl | assumption) aO)) rfl rfl rfl ?_
 refine WH.tk 3 rfl (fun hq hC=>cq rfl Tryz.underlying23 rfl) rfl rfl rfl ?_
 refine WH.tk 4 rfl (fun hq hC=>eX rfl rfl (by omega)) rfl rfl rfl ?_
 refine WH.tk 6 rfl (fun hq hC=>ad rfl Tryz.underlying53 rfl Tryz.sizeOf23) rfl rfl rfl ?_
 refine WH.tk 7 rfl (fun hq hC=>aA Tryz.isAgg23 rfl (by first | exact hC.cell (by first | exact aa aR rfl | assumption) aO)) rfl rfl rfl ?_
 refine WH.one 5 (by kernel_rfl) ?_
 refine aC.call (vs:=[_,_,_]) rfl rfl Tryz.call62 rfl (j6 [] 16 4 (.inr (.inr rfl)) (by unfold Rt;decide) (Rd.nil _ _) (by decide)) rfl rfl rfl ?_ (fun _=>by kernel_rfl)
 rintro v5 h5 ⟨eF,aM,fO⟩
 have eF:Own h5 v5 5 1 4 (bA [0,0,0,16]):=eF
 refine ⟨fun _=>aM,?_⟩
 refine WH.one 8 (by kernel_rfl) ?_
 refine aC.run rfl (aT (sz:=1) (bytes:=1) rfl Tryz.underlying23 (show Tryz.prog.info? 5=some Tryz.t5 by kernel_rfl) rfl rfl rfl rfl (by decide) rfl rfl eF (hv.aq (az.trans aM)) (by intro c hc;obtain ⟨b,_,rfl⟩:=List.mem_map.1 hc;rfl) (by simp only [maxLen];omega) (by omega)) rfl rfl rfl ?_ (fun _=>by kernel_rfl)
 rintro v8 h8 ⟨jK,bz,tC⟩
 have jK:Own h8 v8 5 1 16 (bA di):=jK
 refine ⟨fun _=>aM.trans' bz (fun q hq e=>by have:=fO q e;omega),?_⟩
 have lO:=aM.trans' bz (fun q hq e=>by have:=fO q e;omega)
 refine WH.one 9 (by kernel_rfl) ?_
 refine aC.run rfl (bN.r (aP rfl)) rfl rfl rfl ?_ (fun _=>by kernel_rfl)
 rintro _ hz ⟨rfl,_⟩
 subst hz
 refine ⟨fun _=>lO,?_⟩
 refine WH.done (by kernel_rfl) ?_
 refine Gn ?_;refine Gs [(2,_)] ?_;refine Gt ?_
 exact ⟨jK,az.trans lO,bU tC (fun q hq=>by have:=fO q hq;have:=az.size;omega) (by have:=az.size;have:=aM.size;omega)⟩
theorem oI {h:ah}:ag Tryz.prog 8 ⟨[]⟩ h fun u h'=>Own h' u 5 1 16 (bA di)∧Ext No h h'∧∀ q,u.ownBlock=some q→h.size≤q:=by
 have kb:=fun (g:ah) (p:Nat) (hp:g[p]?=some (.cells ⟨[St iE,St uL]⟩ 59 (0,0)))=>BQ hp
 refine calls [] Tryz.func8 rfl Tryz.ntmps8 rfl trivial ?_
 refine G2 ?_;refine WC.sr ?_;refine WL.step (aF (vs:=[_,_]) (cs:=[_,_]) (fun | [a0,a1]=>[a0,a1] | _=>[]) rfl rfl (by kernel_rfl)) rfl rfl rfl ?_
 refine WL.aj (au (vs:=[_]) (cs:=[_,_]) (fun | [.agg ⟨[a0,a1]⟩]=>[a0,a1] | _=>[]) Tryz.underlying60 rfl rfl (by kernel_rfl)) rfl rfl rfl ?_
 rintro _ h1 ⟨b1,rfl,bR,aR,az⟩
 refine WL.step (aF (vs:=[_,_]) (cs:=[_,_,_,_]) (fun | [a0,a3]=>[a0,(.int .i64 0),(.int .i64 0),a3] | _=>[]) rfl rfl (by kernel_rfl)) rfl rfl rfl ?_
 refine WL.call (vs:=[_]) rfl Tryz.call29 rfl (kb _ _ aR) rfl rfl rfl ?_
 rintro _ h2 ⟨v2,rfl,dc,aI⟩
 obtain ⟨A2,c2,rfl,_⟩:=id dc.slice
 refine Go ?_;refine Gs [(1,_)] ?_;refine G2 ?_;refine WL.step (aF (vs:=[_]) (cs:=[_,_]) (fun | [a1]=>[(.int .u8 0),a1] | _=>[]) rfl rfl (by kernel_rfl)) rfl rfl rfl ?_
 refine WL.call (vs:=[_]) rfl Tryz.call30 rfl (wH dc.rd) rfl rfl rfl ?_
 rintro v3 h3 ⟨dN,aQ,gS⟩
 refine Go ?_;refine Gs [(0,_)] ?_;refine Gt ?_
 exact ⟨dN,(az.trans aI).trans aQ,fun q hq=>by have:=gS q hq;have:=az.size;have:=aI.size;omega⟩
theorem kS {h:ah} {A:Option Addr} {c:Nat} (l:List UInt8) (hr:Rd h (.slice A l.length c) 1 l.length (bA l)) (hm:l.length≤140737488355328) :
   ag Tryz.prog 74 ⟨[.slice A l.length c]⟩ h fun u h'=>Own h' u 5 1 l.length (bA l)∧Ext No h h'∧(∀ k,u.ownBlock=some k→h.size≤k):=by
 cases A with
 | none =>
   have h0:l=[]:=by
     cases l with
     | nil=>rfl
     | cons a l=>obtain ⟨b,o,e,_⟩:=Rd.at_ hr (by simp);cases e
   subst h0
   refine calls [(0,_)] Tryz.func74 rfl Tryz.ntmps74 rfl ⟨rfl,trivial⟩ ?_
   refine G2 ?_;refine G3 ?_;refine WL.step (cR Tryz.underlying23 rfl rfl) rfl rfl rfl ?_;refine Gn ?_
   refine aH 1 2 ?_ TT.mk
   all_goals (refine aw 1 ?_)
   refine G2 ?_;refine Gt ?_
   exact ⟨Own.nil _ _ _,.refl _ _,by simp [Value.ownBlock]⟩
 | some a =>
   refine calls [(0,_)] Tryz.func74 rfl Tryz.ntmps74 rfl ⟨rfl,trivial⟩ ?_
   refine G2 ?_;refine G3 ?_;refine WL.step (cR Tryz.underlying23 rfl rfl) rfl rfl rfl ?_;refine Gn ?_
   refine aH 1 2 ?_ TT.mk
   all_goals (refine aw 2 ?_)
   refine WC.skip ?_;refine Gn ?_;refine WC.sr ?_;refine WL.aj (au (vs:=[]) (cs:=[]) (fun _=>[]) Tryz.underlying23 rfl rfl (by kernel_rfl)) rfl rfl rfl ?_
   rintro _ h1 ⟨b1,rfl,bR,aR,az⟩
   refine Go ?_
   have qP:=hr.aq az
   refine WL.aj (aT (sz:=1) (bytes:=1) rfl Tryz.underlying23 (show Tryz.prog.info? 5=some Tryz.t5 by kernel_rfl) rfl rfl rfl rfl (by decide) rfl rfl (dE aR rfl (by simp [maxLen])) qP (by intro c hc;obtain ⟨b,_,rfl⟩:=List.mem_map.1 hc;rfl) (by simp only [maxLen];omega) (by omega)) rfl rfl rfl ?_
   rintro v2 h2 ⟨dc,aI,kO⟩
   refine Go ?_;refine Gs [(2,_)] ?_;refine Gt ?_
   exact ⟨by simpa using dc,az.trans' aI (fun k hk e=>by simp [Value.ownBlock] at e;omega),bU kO (fun k hk=>by simp [Value.ownBlock] at hk;omega) az.size⟩
def ij (l:List UInt8):Int:=l.foldl (fun n x=>n * 256+(x.toNat:Int)) 0
theorem kT (l:List UInt8) (x:UInt8):ij (l++[x])=ij l * 256+(x.toNat:Int):=by simp [ij]
theorem vm {h:ah}:ag Tryz.prog 180 ⟨[In 4]⟩ h fun u h'=>u=.bool true∧h'=h:=by
 refine calls [(0,_)] Tryz.func180 rfl Tryz.ntmps180 rfl ⟨rfl,trivial⟩ ?_
 refine G2 ?_;refine G3 ?_;refine WC.block ?_;refine G3 ?_
 refine aH 1 2 ?_ TT.mk
 all_goals (refine aw 2 ?_)
 refine G2 ?_;refine Gs [(3,_),(4,_)] ?_
 refine aH 3 4 ?_ TT.mk
 all_goals (refine aw 4 ?_)
 refine WC.region (Go ?_);refine Gn ?_
 refine aH 5 6 ?_ TT.mk
 all_goals (refine aw 5 ?_)
 refine G2 ?_;refine Gt ?_
 exact ⟨rfl,rfl⟩
theorem DE {h:ah} {A:Option Addr} {c:Nat} (l:List UInt8) (hr:Rd h (.slice A l.length c) 1 l.length (bA l)) (k:Nat) (hl:k+4≤l.length) (hm:l.length≤1000000) :
   ag Tryz.prog 176 ⟨[.slice A l.length c,In (k:Int),In 4]⟩ h fun u h'=>u=.tuple ⟨[In (ij ((l.drop k).take 4)),In 0]⟩∧h'=h:=by
 have hcap:l.length≤c:=by
   obtain ⟨A1,c1,hv,hcap,_⟩:=id hr
   simp only [Value.slice.injEq] at hv
   obtain ⟨_,_,rfl⟩:=hv
   exact hcap
 have hs:=(hr.drop (l:=k) (by omega)).take (k:=4) (by omega)
 have hml:((l.drop k).take 4).length=4:=by simp;omega
 have hmb:((bA l).drop (k * 1)).take (4 * 1)=bA ((l.drop k).take 4):=by simp [bA]
 rw [hmb] at hs
 generalize (l.drop k).take 4=m at *
 refine calls [(0,_),(1,_),(2,_)] Tryz.func176 rfl Tryz.ntmps176 rfl ⟨rfl,rfl,rfl,trivial⟩ ?_
 refine G2 ?_;refine WC.seq ?_;refine WC.block ?_;refine G3 ?_;refine WL.call (vs:=[_]) rfl Tryz.call180 rfl (vm) rfl rfl rfl ?_
 rintro _ hz ⟨rfl,_⟩
 subst hz
 refine Go ?_;refine Gs [(0,_),(1,_),(2,_),(11,_)] ?_
 refine aH 1 2 ?_ TT.mk
 all_goals (refine aw 2 ?_)
 refine WC.region (Go ?_);refine Gn ?_
 refine aH 3 4 ?_ TT.mk
 all_goals (refine aw 4 ?_)
 refine G3 ?_;refine Gs [(0,_),(1,_),(2,_),(17,_)] ?_
 refine aH 5 6 ?_ TT.mk
 all_goals (refine aw 6 ?_)
 refine WC.region (Go ?_);refine Gn ?_
 refine aH 7 8 ?_ TT.mk
 all_goals (refine aw 8 ?_)
 refine WC.skip ?_;refine Gn ?_;refine G2 ?_;refine G3 ?_;refine WL.step (cW (l:=k) (k:=k+4) Tryz.underlying23 Tryz.sizeOf5 rfl rfl rfl (by omega)) rfl rfl rfl ?_
 rw [show k+4 - k=4 by omega]
 generalize (if c=k then A else A.map (·.add (k * 1)))=S at *
 refine Go ?_;refine Gs [(8,_),(33,_),(34,_),(35,_)] ?_;refine WC.block ?_;refine WC.bD (X:=Nat × Int) (fun x=>([(35,In (x.1:Int)),(8,In x.2)]:Fr)) [(33,_),(34,_)] (fun x h'=>h'=h∧x.1≤4∧x.2=ij (m.take x.1)∧0≤x.2∧x.2+1≤256 ^ x.1) (fun x=>4 - x.1) ((0,0)) ⟨rfl,rfl,rfl,rfl,trivial⟩ (by exact ⟨rfl,by simp,rfl,by simp,by simp⟩) ?_
 rintro ⟨j,n⟩ h1 ⟨hz,hj,hn,Eo,BR⟩
 dsimp only at hj hn Eo BR
 subst hz
 refine WC.sub [(8,_),(35,_),(33,_),(34,_)] ⟨rfl,rfl,rfl,rfl,trivial⟩ ?_
 dsimp only
 refine G2 ?_;refine WC.seq ?_
 refine aH 9 10 (Hb.mk fun hb=>?_) (Hb.mk fun hb=>?_)
 all_goals try (
 refine aw 9 ?_
 refine WC.skip ?_
 skip)
 all_goals try (
 refine aw 10 ?_
 refine WC.exit ?_
 repeat' (with_reducible first | refine aU ?_ | refine aD rfl ?_ | refine aJ ?_ | refine aL ?_ | refine aS ?_)
 refine Br.out (i:=1001) ?_
 skip)
 all_goals (refine Gn ?_;first | refine Br.ab ?_ | refine WC.seq ?_)
 all_goals (first | refine Br.ab ?_ | refine WC.block ?_)
 all_goals (first | refine Br.ab ?_ | refine WC.sr ?_)
 all_goals (
  first
    | (refine Br.ab ?_)
    | (obtain ⟨bL,oL,hA,hbL,hat⟩:=Rd.at_ hs (by omega)
       obtain ⟨y,hy⟩:∃ y,m[j]?=some y:=⟨_,List.getElem?_eq_getElem (by omega)⟩
       have fp:=hat.get (p:=oL+j * 1) j (show (bA m)[j]?=some (By y) by simp [bA,hy]) (by omega)
       have hpl:=pI (show j≤3 by omega)
       have hyl:=y.toNat_lt))
 all_goals (first | refine Br.ab ?_ | (refine WL.step (aE Tryz.underlying23 Tryz.sizeOf5 rfl rfl rfl (by omega) (by first | rfl | assumption)) rfl rfl rfl ?_))
 all_goals (first | refine Br.ab ?_ | (refine WL.ld rfl (by first | exact fp | assumption) rfl rfl rfl ?_))
 all_goals (refine Go ?_;first | refine Br.ab ?_ | refine WC.region ?_)
 all_goals (refine Go ?_;first | refine Br.ab ?_ | (refine WL.step (vj rfl rfl (by decide) (by rw [show (2:Int) ^ ((8:Int)).toNat=256 from rfl];constructor <;> omega)) rfl rfl rfl ?_))
 all_goals (first | refine Br.ab ?_ | rw [show (2:Int) ^ ((8:Int)).toNat=256 from rfl])
 all_goals (refine Go ?_;first | refine Br.ab ?_ | (refine WL.step (j4 Tryz.underlying5 Tryz.underlying3 rfl (by omega)) rfl rfl rfl ?_))
 all_goals (first | refine Br.ab ?_ | refine WL.step (DC rfl rfl) rfl rfl rfl ?_)
 all_goals (first | refine Br.ab ?_ | (rw [vk ⟨by omega,by omega⟩ ⟨by omega,by omega⟩]))
 all_goals (refine Go ?_;first | refine Br.ab ?_ | refine Gs [(8,_),(33,_),(34,_),(35,_)] ?_)
 all_goals (first | refine Br.ab ?_ | refine WC.region ?_)
 all_goals (refine Go ?_;first | refine Br.ab ?_ | (exact ⟨(j+1,_),⟨rfl,rfl,rfl,rfl,trivial⟩,(by exact ⟨rfl,by omega,by rw [List.take_add_one,hy,Option.toList_some,kT,← hn],by omega,by rw [Int.pow_succ];omega⟩),(by simp;omega)⟩))
 try (refine Br.mk (i:=1001) ?_)
 refine Gn ?_;refine Gs [(8,_)] ?_;refine G2 ?_;refine Gt ?_
 first | exact ⟨by rw [hn,List.take_of_length_le (by omega)],rfl⟩ | (exfalso;omega)
structure Fw (h:ah) (b:Nat) (ty:Bool) (v:Value) (l:List UInt8):Prop where
 bm:h[b]?=some (.cells ⟨[.bool ty,v,In 65536,In 262144,In 0]⟩ 147 (0,0))
 own:Own h v 5 1 l.length (bA l)
section
variable {h h':ah} {b:Nat} {ty:Bool} {v:Value} {l:List UInt8} {S:Nat→Prop}
theorem Fw.ext (k:Fw h b ty v l) (x:Ext S h h') (h1:¬ S b) (h2:∀ q,v.ownBlock=some q→¬ S q):Fw h' b ty v l:=⟨x.obj k.bm h1,k.own.ext x h2⟩
theorem Fw.aq (k:Fw h b ty v l) (x:Ext No h h'):Fw h' b ty v l:=k.ext x aO (fun _ _=>aO)
theorem Fw.ne (k:Fw h b ty v l):∀ q,v.ownBlock=some q→q ≠ b:=fun q hq e=>by
 have:=bQ k.own k.bm (by decide)
 exact this (e▸hq)
theorem yu {h:ah}:ag Tryz.prog 48 ⟨[In 65536,In 262144,.bool true]⟩ h fun u h'=>∃ b,u=.tuple ⟨[.pointer (some ⟨b,0,none⟩),In 0]⟩∧Fw h' b false (.slice none 0 0) []∧h.size≤b∧Ext No h h':=by
 refine calls [(0,_),(1,_),(2,_)] Tryz.func48 rfl Tryz.ntmps48 rfl ⟨rfl,rfl,rfl,trivial⟩ ?_
 refine G2 ?_;refine G3 ?_
 refine bK 10 ?_ TT.mk
 refine Gg ?_;refine Go ?_
 refine bK 14 ?_ TT.mk
 refine Gg ?_;refine Go ?_
 refine bK 19 ?_ TT.mk
 refine Gg ?_;refine Go ?_;refine Gs [(0,_),(1,_),(2,_),(22,_)] ?_
 refine aH 1 2 ?_ TT.mk
 all_goals (refine aw 2 ?_)
 refine WC.skip ?_;refine Gn ?_;refine G2 ?_;refine WL.step (aF (vs:=[_]) (cs:=[_]) (fun | [a0]=>[a0] | _=>[]) rfl rfl (by kernel_rfl)) rfl rfl rfl (Go ?_)
 refine WL.step (aF (vs:=[_,_,_]) (cs:=[_,_,_,_,_]) (fun | [.agg ⟨[a0]⟩,a2,a3]=>[a0,(.slice none 0 0),a2,a3,(.int .i64 0)] | _=>[]) rfl rfl (by kernel_rfl)) rfl rfl rfl ?_
 refine WL.aj (aG rfl) rfl rfl rfl ?_
 rintro _ h1 ⟨b1,rfl,bR,aR,az⟩
 refine Go ?_;refine Gs [(6,_),(7,_)] ?_;refine Gt ?_
 exact ⟨b1,rfl,⟨aR,Own.nil _ _ _⟩,bR,az⟩
theorem j8 (k:Fw h b ty v l):ag Tryz.prog 85 ⟨[.pointer (some ⟨b,0,none⟩)]⟩ h fun u h'=>u=.bool true∧h'=h:=by
 have hb:=k.bm
 refine calls [(0,_)] Tryz.func85 rfl Tryz.ntmps85 rfl ⟨rfl,trivial⟩ ?_
 refine G2 ?_;refine G2 ?_;refine WL.step (dQ Tryz.underlying87 rfl rfl) rfl rfl rfl (Go ?_)
 refine bK 5 ?_ TT.mk
 refine Gg ?_;refine WL.step (ae rfl) rfl rfl rfl ?_;refine Gg ?_;refine Ld ?_;refine Gg ?_;refine Go ?_;refine Gs [(2,_)] ?_;refine Gt ?_
 exact ⟨rfl,rfl⟩
theorem iW (ty:Bool):ag Tryz.prog 88 ⟨[.agg ⟨[.bool ty]⟩]⟩ h fun u h'=>u=In ((if ty=true then 1 else 0:Nat):Int)∧Ext No h h':=by
 cases ty
 all_goals
   refine calls [(0,_)] Tryz.func88 rfl Tryz.ntmps88 rfl ⟨rfl,trivial⟩ ?_
   all_goals (refine WC.sr ?_;refine WL.aj (aG rfl) rfl rfl rfl ?_;rintro _ h1 ⟨b1,rfl,bR,aR,az⟩;refine Go ?_;refine G3 ?_;refine WL.ld rfl (by first | exact aa aR rfl | assumption) rfl rfl rfl ?_;refine Gn ?_;refine Gs [(4,_)] ?_;refine aH 1 2 ?_ TT.mk)
   all_goals try (
   refine aw 1 ?_
   all_goals (refine G2 ?_;refine Gt ?_;exact ⟨rfl,az⟩)
   skip)
   all_goals (refine aw 2 ?_;refine WC.skip ?_;refine Gn ?_;refine G2 ?_;refine Gt ?_;exact ⟨rfl,az⟩)
theorem BS {w:Value} (k:Fw h b ty v l) (m:List UInt8) (hr:Rd h w 1 m.length (bA m)) (hl:l.length+m.length≤262144) :
   ag Tryz.prog 52 ⟨[.pointer (some ⟨b,0,none⟩),w]⟩ h fun u h'=>u=In 0∧∃ v',Fw h' b ty v' (l++m)∧Ext (fun q=>q=b∨v.ownBlock=some q) h h'∧∀ q,v'.ownBlock=some q→v.ownBlock=some q∨h.size≤q:=by
 have kr:=j8 k
 have hb:=k.bm
 have ho:=k.own
 have hne:=k.ne
 obtain ⟨A,c,rfl,_⟩:=id hr
 obtain ⟨B,d,rfl,_⟩:=id ho.slice
 refine calls [(0,_),(1,_)] Tryz.func52 rfl Tryz.ntmps52 rfl ⟨rfl,rfl,trivial⟩ ?_
 refine G2 ?_;refine WC.seq ?_;refine WC.block ?_;refine G2 ?_;refine WL.call (vs:=[_]) rfl Tryz.call85 rfl (kr) rfl rfl rfl ?_
 rintro _ hz ⟨rfl,_⟩
 subst hz
 refine Go ?_;refine Gs [(0,_),(1,_),(5,_)] ?_
 refine aH 1 2 ?_ TT.mk
 all_goals (refine aw 2 ?_)
 refine WC.seq ?_;refine WC.fU dm (by kernel_rfl) ?_
 refine WQ.aK (ak rfl) rfl rfl rfl ?_;refine WQ.aK (cq rfl Tryz.underlying23 rfl) rfl rfl rfl ?_;refine WQ.aK (ak rfl) rfl rfl rfl ?_;refine WQ.aK (ae rfl) rfl rfl rfl ?_;refine WQ.aK (ad rfl Tryz.underlying147 rfl Tryz.sizeOf3) rfl rfl rfl ?_;refine WQ.aK (aA Tryz.isAgg3 rfl (by first | exact aa hb rfl | assumption)) rfl rfl rfl ?_
 refine WQ.aK (ak rfl) rfl rfl rfl ?_;refine WQ.aK (ae rfl) rfl rfl rfl ?_;refine WQ.aK (ad rfl Tryz.underlying147 rfl Tryz.sizeOf23) rfl rfl rfl ?_;refine WQ.aK (aA Tryz.isAgg23 rfl (by first | exact aa hb rfl | assumption)) rfl rfl rfl ?_
 refine WQ.aK (cq rfl Tryz.underlying23 rfl) rfl rfl rfl ?_;refine WQ.aK (eY rfl rfl (by omega)) rfl rfl rfl ?_
 refine WQ.aK (bN.fy (by omega) (mL rfl rfl)) rfl rfl rfl ?_
 refine WQ.aK (aP rfl) rfl rfl rfl ?_;refine WQ.nil ?_;refine Gn ?_;refine Gs [(0,_),(1,_),(9,_)] ?_
 refine aH 3 4 ?_ TT.mk
 all_goals (refine aw 4 ?_)
 refine WC.skip ?_;refine Gn ?_;refine G2 ?_;refine WL.step (ae rfl) rfl rfl rfl (Go ?_);refine WL.ld rfl (by first | exact aa hb rfl | assumption) rfl rfl rfl (Go ?_)
 refine WL.aj (aT (sz:=1) (bytes:=1) rfl Tryz.underlying23 (show Tryz.prog.info? 5=some Tryz.t5 by kernel_rfl) rfl rfl rfl rfl (by decide) rfl rfl ho hr (by intro c hc;obtain ⟨b,_,rfl⟩:=List.mem_map.1 hc;rfl) (by simp only [maxLen];omega) (by omega)) rfl rfl rfl ?_
 rintro v2 h2 ⟨dc,aI,kO⟩
 obtain ⟨B2,d2,rfl,_⟩:=id dc.slice
 have bH:=aI.obj hb (fun e=>hne _ e rfl)
 have lb:=ai hb
 refine WL.step (ae rfl) rfl rfl rfl (Go ?_);refine WL.ax (aB Tryz.sizeOf23 rfl rfl bH (Nat.le_of_ble_eq_true rfl) rfl rfl) rfl rfl ?_
 rintro _ h3 ⟨bq,aQ⟩
 refine Gn ?_;refine Gs [] ?_;refine G2 ?_;refine Gt ?_
 refine ⟨rfl,_,⟨bq,?_⟩,(aI.mono fun _ _ e=>.inr e).trans (aQ.mono fun _ _ e=>.inl e),fun q hq=>kO.elim (fun e=>.inl (e▸hq)) (fun e=>.inr (by rw [e] at hq;injection hq with hq;omega))⟩
 have:=dc.ext aQ (fun q hq e=>by subst e;exact kO.elim (fun e=>hne _ (e▸hq) rfl) (fun e=>by rw [e] at hq;injection hq with hq;omega))
 rw [List.length_append,show bA (l++m)=bA l++bA m from List.map_append ..]
 exact this
theorem vn (k:Fw h b ty v l) (hd:Nat) (he:(if ty=true then 1 else 0)=hd) (hl:hd+4≤l.length) (hm:l.length≤1000000):ag Tryz.prog 171 ⟨[.pointer (some ⟨b,0,none⟩)]⟩ h fun u h'=>u=.tuple ⟨[In (ij ((l.drop hd).take 4)),.bool true]⟩∧Ext No h h':=by
 have hb:=k.bm
 have ho:=k.own
 obtain ⟨B,d,rfl,_⟩:=id ho.slice
 have kh:=fun h'=>iW (h:=h') ty
 rw [he] at kh
 have kg:=fun h' (x:Ext No h h')=>DE l (ho.rd.aq x) hd hl hm
 refine calls [(0,_)] Tryz.func171 rfl Tryz.ntmps171 rfl ⟨rfl,trivial⟩ ?_
 refine G2 ?_;refine WC.seq ?_;refine WC.bW (fun h'=>Ext No h h') 15 15 rfl dm ?_
 refine WH.tk 0 rfl (fun hq hC=>ak rfl) rfl rfl rfl ?_
 refine WH.tk 1 rfl (fun hq hC=>ae rfl) rfl rfl rfl ?_
 refine WH.tk 2 rfl (fun hq hC=>ad rfl Tryz.underlying147 rfl Tryz.sizeOf23) rfl rfl rfl ?_
 refine WH.tk 3 rfl (fun hq hC=>aA Tryz.isAgg23 rfl (by first | exact hC.cell (by first | exact aa hb rfl | assumption) aO)) rfl rfl rfl ?_
 refine WH.tk 4 rfl (fun hq hC=>ak rfl) rfl rfl rfl ?_
 refine WH.tk 5 rfl (fun hq hC=>ae rfl) rfl rfl rfl ?_
 refine WH.tk 6 rfl (fun hq hC=>ad rfl Tryz.underlying147 rfl Tryz.sizeOf145) rfl rfl rfl ?_
 refine WH.tk 7 rfl (fun hq hC=>ay Tryz.isAgg145 Tryz.sizeOf145 rfl rfl (by exact At.pre (xs:=[_]) (ys:=[_,_,_,_]) ((At.av hb).ext hC aO))) rfl rfl rfl ?_
 refine WH.one 8 (by kernel_rfl) ?_
 refine aC.call (vs:=[_]) rfl rfl Tryz.call88 rfl (kh _) rfl rfl rfl ?_ (fun _=>by kernel_rfl)
 rintro _ h1 ⟨rfl,az⟩
 refine ⟨fun _=>az,?_⟩
 refine WH.one 9 (by kernel_rfl) ?_
 refine aC.call (vs:=[_,_,_]) rfl rfl Tryz.call176 rfl (kg _ az) rfl rfl rfl ?_ (fun _=>by kernel_rfl)
 rintro _ hq ⟨rfl,hz⟩
 replace hz:=hz.symm
 subst hz
 refine ⟨fun _=>az,?_⟩
 refine WH.tk 10 rfl (fun hq hC=>ak rfl) rfl rfl rfl ?_
 refine WH.tk 11 rfl (fun hq hC=>bP rfl rfl) rfl rfl rfl ?_
 refine WH.tk 12 rfl (fun hq hC=>bP rfl rfl) rfl rfl rfl ?_
 refine WH.tk 13 rfl (fun hq hC=>aP rfl) rfl rfl rfl ?_
 refine WH.tk 14 rfl (fun hq hC=>aP rfl) rfl rfl rfl ?_
 refine WH.done (by kernel_rfl) ?_
 refine Gn ?_;refine Gs [(4,_),(5,_)] ?_;refine G2 ?_;refine Gs [(2,_),(3,_)] ?_;refine Gt ?_
 exact ⟨rfl,by first | exact az | exact hC⟩
theorem rF (k:Fw h b ty v l) (n:Nat) (hn:4≤n∧n≤65536):ag Tryz.prog 172 ⟨[.pointer (some ⟨b,0,none⟩),In (n:Int)]⟩ h fun u h'=>u=In 0∧h'=h:=by
 have hb:=k.bm
 refine calls [(0,_),(1,_)] Tryz.func172 rfl Tryz.ntmps172 rfl ⟨rfl,rfl,trivial⟩ ?_
 refine G2 ?_;refine WC.seq ?_;refine WC.block ?_;refine G2 ?_
 refine aH 1 2 ?_ TT.mk
 all_goals (refine aw 2 ?_)
 refine G2 ?_;refine WL.step (ae rfl) rfl rfl rfl (Go ?_);refine WL.ld rfl (by first | exact aa hb rfl | assumption) rfl rfl rfl (Go ?_)
 refine Gs [(8,_)] ?_
 refine aH 3 4 ?_ TT.mk
 all_goals (refine aw 4 ?_)
 refine WC.skip ?_;refine Gn ?_;refine G2 ?_;refine Gt ?_
 first | exact ⟨rfl,rfl⟩ | (exfalso;omega)
theorem yw (k:Fw h b ty v l) (hd n:Nat) (he:(if ty=true then 1 else 0)=hd) (hn:ij ((l.drop hd).take 4)=(n:Int)) (h4:4≤n∧n≤65536) (hl:hd+n≤l.length) (hm:l.length≤1000000) :
   ag Tryz.prog 121 ⟨[.pointer (some ⟨b,0,none⟩)]⟩ h fun u h'=>u=.tuple ⟨[In ((hd+n:Nat):Int),.bool true,In 0]⟩∧Fw h' b ty v l∧Ext (fun q=>q=b) h h':=by
 have hb:=k.bm
 have lb:=ai hb
 have ks:=vn k hd he (by omega) hm
 rw [hn] at ks
 have kc:=fun (g:ah) (x:Ext No h g)=>rF (k.aq x) n h4
 have kh:=fun h'=>iW (h:=h') ty
 rw [he] at kh
 obtain ⟨B,d,rfl,_⟩:=id k.own.slice
 refine calls [(0,_)] Tryz.func121 rfl Tryz.ntmps121 rfl ⟨rfl,trivial⟩ ?_
 refine G2 ?_;refine G3 ?_;refine WL.step (ae rfl) rfl rfl rfl (Go ?_);refine WL.ld rfl (by first | exact aa hb rfl | assumption) rfl rfl rfl (Go ?_)
 refine Gs [(0,_),(12,_)] ?_
 refine aH 1 2 ?_ TT.mk
 all_goals (refine aw 2 ?_)
 refine WC.skip ?_;refine Gn ?_;refine G2 ?_;refine WL.call (vs:=[_]) rfl Tryz.call171 rfl (ks) rfl rfl rfl ?_
 rintro _ h1 ⟨rfl,az⟩
 have aR:=az.obj hb aO
 refine Go ?_;refine Gs [(0,_),(5,_),(6,_)] ?_;refine G3 ?_
 refine aH 3 4 ?_ TT.mk
 all_goals (refine aw 4 ?_)
 refine WC.skip ?_;refine Gn ?_;refine G3 ?_;refine WL.call (vs:=[_,_]) rfl Tryz.call172 rfl (kc _ az) rfl rfl rfl ?_
 rintro _ hq ⟨rfl,hz⟩
 replace hz:=hz.symm
 subst hz
 refine WL.step (ae rfl) rfl rfl rfl (Go ?_);refine WL.ax (aB Tryz.sizeOf48 rfl rfl aR (Nat.le_of_ble_eq_true rfl) rfl rfl) rfl rfl ?_
 rintro _ h2 ⟨bH,aI⟩
 have k2:Fw h2 b ty (.slice B l.length d) l:=⟨bH,(k.aq az).own.ext aI (k.aq az).ne⟩
 refine Gn ?_;refine Gs [(0,_),(5,_)] ?_;refine G2 ?_;refine WL.step (ae rfl) rfl rfl rfl (Go ?_);refine WL.ld rfl (by first | exact aa bH rfl | assumption) rfl rfl rfl (Go ?_)
 refine Gs [(0,_),(5,_),(34,_)] ?_
 refine aH 5 6 ?_ TT.mk
 all_goals (refine aw 6 ?_)
 refine WC.skip ?_;refine Gn ?_;refine G2 ?_;refine WL.step (ae rfl) rfl rfl rfl (Go ?_);refine WL.step (ay Tryz.isAgg145 Tryz.sizeOf145 rfl rfl (by exact At.pre (xs:=[_]) (ys:=[_,_,_,_]) (At.av bH))) rfl rfl rfl ?_
 refine WL.call (vs:=[_]) rfl Tryz.call88 rfl (kh _) rfl rfl rfl ?_
 rintro _ h3 ⟨rfl,aQ⟩
 have k3:=k2.aq aQ
 have bq:=k3.bm
 have X3:Ext (fun q=>q=b) h h3:=(az.mono fun _ _ e=>e.elim).trans (aI.trans (aQ.mono fun _ _ e=>e.elim))
 refine Go ?_;refine Gs [(0,_),(7,_)] ?_;refine WC.seq ?_;refine WC.fU dm (by kernel_rfl) ?_
 refine WQ.aK (ak rfl) rfl rfl rfl ?_;refine WQ.aK (ak rfl) rfl rfl rfl ?_;refine WQ.aK (ak rfl) rfl rfl rfl ?_;refine WQ.aK (ae rfl) rfl rfl rfl ?_;refine WQ.aK (ad rfl Tryz.underlying147 rfl Tryz.sizeOf23) rfl rfl rfl ?_;refine WQ.aK (aA Tryz.isAgg23 rfl (by first | exact aa bq rfl | assumption)) rfl rfl rfl ?_
 refine WQ.aK (cq rfl Tryz.underlying23 rfl) rfl rfl rfl ?_
 first | (refine WQ.aK (bN.fv (by omega) (mJ rfl rfl)) rfl rfl rfl ?_)
 refine WQ.aK (aP rfl) rfl rfl rfl ?_;refine WQ.aK (aP rfl) rfl rfl rfl ?_;refine WQ.aK (aP rfl) rfl rfl rfl ?_;refine WQ.nil ?_;refine Gn ?_;refine Gs [(2,_),(3,_),(4,_)] ?_;refine Gt ?_
 exact ⟨rfl,k3,X3⟩
theorem yx (k:Fw h b ty v l):ag Tryz.prog 92 ⟨[.pointer (some ⟨b,0,none⟩)]⟩ h fun u h'=>u=.tuple ⟨[]⟩∧Fw h' b true v l∧Ext (fun q=>q=b) h h':=by
 have kr:=j8 k
 have hb:=k.bm
 have ho:=k.own
 have hne:=k.ne
 obtain ⟨B,d,rfl,_⟩:=id ho.slice
 refine calls [(0,_)] Tryz.func92 rfl Tryz.ntmps92 rfl ⟨rfl,trivial⟩ ?_
 refine G2 ?_;refine WL.call (vs:=[_]) rfl Tryz.call85 rfl (kr) rfl rfl rfl ?_
 rintro _ hz ⟨rfl,_⟩
 subst hz
 refine Gn ?_
 refine aH 1 2 ?_ TT.mk
 all_goals (refine aw 1 ?_)
 refine WC.region (Go ?_);refine WL.step (ae rfl) rfl rfl rfl (Go ?_);refine WL.ax (aB Tryz.sizeOf4 rfl rfl hb (Nat.le_of_ble_eq_true rfl) rfl rfl) rfl rfl ?_
 rintro _ h3 ⟨bq,aQ⟩
 refine Gn ?_;refine Gn ?_
 refine fA [] trivial ?_
 exact ⟨rfl,⟨bq,ho.ext aQ hne⟩,aQ⟩
end
theorem Jz (l:List UInt8):∀ c∈bA l,c.oneCell'=true:=fun c hc=>by obtain ⟨b,_,rfl⟩:=List.mem_map.1 hc;rfl
theorem tF {h:ah} {A:Option Addr} {c k:Nat} (l:List UInt8) (ho:Own h (.slice A l.length c) 5 1 l.length (bA l)) (hk:0 < k∧k≤l.length) (hm:l.length≤1000000) :
   ag Tryz.prog 87 ⟨[.slice A l.length c,In 0,In (k:Int)]⟩ h fun u h'=>Own h' u 5 1 (l.drop k).length (bA (l.drop k))∧Ext (fun b=>(Value.slice A l.length c).ownBlock=some b) h h'∧u.ownBlock=(Value.slice A l.length c).ownBlock:=by
 obtain ⟨b,c',cs,hv,hb,hnc,hcm,hcl,hct⟩:=ho.block (by omega)
 simp only [Value.slice.injEq] at hv
 obtain ⟨rfl,_,rfl⟩:=hv
 simp only [Nat.mul_one] at hcl hct
 unfold maxLen at hcm
 have e3:(l.drop k).length=l.length - k:=List.length_drop ..
 have hrd:=ho.rd.drop (l:=k) (by omega)
 refine calls [(0,_),(1,_),(2,_)] Tryz.func87 rfl Tryz.ntmps87 rfl ⟨rfl,rfl,rfl,trivial⟩ ?_
 refine G2 ?_;refine G2 ?_;refine WL.step (j0 Tryz.underlying23 Tryz.sizeOf5 rfl rfl rfl rfl (by omega)) rfl rfl rfl ?_
 refine Gn ?_;refine Gs [(0,_),(1,_),(2,_)] ?_;refine G3 ?_
 refine aH 1 2 ?_ TT.mk
 all_goals (refine aw 2 ?_)
 refine WC.skip ?_;refine Gn ?_;refine G2 ?_;refine Gs [(0,_),(1,_),(2,_),(7,_)] ?_;refine WC.seq ?_;refine WC.jl 6 dm (by kernel_rfl) ?_
 show WS _ _ _ [_,_,_,_,_,_] _ _ _
 refine WS.step (ak rfl) rfl rfl rfl ?_;refine WS.step (ak rfl) rfl rfl rfl ?_;refine WS.step (jy Tryz.underlying23 Tryz.sizeOf5 rfl rfl (by omega)) rfl rfl rfl ?_
 refine WS.step (ak rfl) rfl rfl rfl ?_;refine WS.step (ak rfl) rfl rfl rfl ?_;refine WS.step (dL Tryz.underlying23 Tryz.sizeOf5 rfl rfl (by omega)) rfl rfl rfl ?_
 refine WS.nil ?_
 show WL _ _ _ [_,_] _ _ _
 refine WL.aj (lJ (sz:=1) rfl Tryz.underlying23 (show Tryz.prog.info? 5=some Tryz.t5 by kernel_rfl) rfl rfl rfl hb (by omega) hrd (fun v hv=>Jz l v (List.mem_of_mem_drop hv)) (by omega)) rfl rfl rfl ?_
 rintro _ h2 ⟨rfl,bH,aI⟩
 simp only [Int.toNat_zero,List.take_zero,List.nil_append,Nat.zero_add,Nat.zero_mul,Nat.mul_one] at bH
 have e4:List.drop k (bA l)=bA (l.drop k):=by simp [bA]
 rw [e4] at bH
 have e5:(bA (l.drop k)).length=l.length - k:=by simp [bA]
 have e6:(bA (l.drop k)++List.drop (l.length - k) cs).length=c:=by rw [List.length_append,e5,List.length_drop,hcl];omega
 refine WL.step (aP rfl) rfl rfl rfl ?_;refine WL.nil ?_;refine Gn ?_;refine Gs [(0,_),(7,_)] ?_;refine G2 ?_;refine WL.step (cW Tryz.underlying23 Tryz.sizeOf5 rfl rfl rfl (by omega)) rfl rfl rfl ?_
 refine WL.ax (oE rfl Tryz.underlying23 (fun w=>Tryz.zeroValue5 w) rfl (by first | rfl | assumption | exact (if_neg (by omega)).trans (congrArg some (Addr.add_lit _ _ _))) (by omega) bH (by show 0+_ * 1+_ * 1≤_;simp [e3];omega) (by simp [Value.cells,Value.oneCell'])) rfl rfl ?_
 rintro _ h3 ⟨Mt,bq,wB,G8,aQ⟩
 refine Gn ?_;refine Gs [(0,_)] ?_;refine G2 ?_;refine Gt ?_
 rw [e6] at wB
 refine ⟨?_,(aI.trans aQ).mono (fun q _ e=>by simp [e,Value.ownBlock]),rfl⟩
 rw [e3]
 simp only [Int.toNat_zero,Nat.zero_add,Nat.mul_one] at G8 ⊢
 exact Own.av (c:=c) bq (by omega) (by unfold maxLen;omega) (by rw [wB,Nat.mul_one]) (by rw [Nat.mul_one,G8 _ (by omega),List.take_append_of_le_length (by omega),List.take_of_length_le (by omega)])
def rG (ty : Bool) (l : List UInt8) : UInt8 := if ty = true then l.headD 0 else 0
section
variable {h h' : ah} {b : Nat} {ty : Bool} {v : Value} {l : List UInt8} {S : Nat → Prop}
set_option maxHeartbeats 2000000 in
set_option maxRecDepth 100000 in
theorem BT (k : Fw h b ty v l) (hd n : Nat) (he : (if ty = true then 1 else 0) = hd) (hn : ij ((l.drop hd).take 4) = (n : Int)) (h4 : 4 ≤ n ∧ n ≤ 65536) (hl : hd + n ≤ l.length) (hm : l.length ≤ 1000000) :
    ag Tryz.prog 86 ⟨[.pointer (some ⟨b, 0, none⟩)]⟩ h fun u h' => ∃ w, u = .tuple ⟨[.agg ⟨[By (rG ty l), w]⟩, .bool true, In 0]⟩ ∧ Own h' w 5 1 (n - 4) (bA ((l.drop (hd + 4)).take (n - 4))) ∧ Fw h' b ty v l ∧ Ext (fun q => q = b) h h' ∧ ∀ q, w.ownBlock = some q → h.size ≤ q := by
  have kr := fun (h' : ah) (k : Fw h' b ty v l) => j8 k
  have kw := fun (h' : ah) (k : Fw h' b ty v l) => yw k hd n he hn h4 hl hm
  have kh := fun h' => iW (h := h') ty
  rw [he] at kh
  obtain ⟨B, d, rfl, _⟩ := id k.own.slice
  have hln : ((l.drop (hd + 4)).take (n - 4)).length = n - 4 := by simp; omega
  have hcap : l.length ≤ d := by
    obtain ⟨A1, c1, hv, hcap, _⟩ := id k.own.rd
    simp only [Value.slice.injEq] at hv
    obtain ⟨_, _, rfl⟩ := hv
    exact hcap
  obtain ⟨m, hme⟩ : ∃ m, m = (l.drop (hd + 4)).take (n - 4) := ⟨_, rfl⟩
  rw [← hme] at hln ⊢
  have cap := fun (g : ah) (k : Fw g b ty (.slice B l.length d) l) (e : ty = true) => (show ∃ bb o, B = some ⟨bb, o, none⟩ ∧ At g bb o [By (rG ty l)] by
    obtain ⟨bb, o, eA, _, hat⟩ := Rd.at_ k.own.rd (by omega)
    subst e
    cases l with
    | nil => simp at hl; omega
    | cons x l => exact ⟨bb, o, eA, At.pre (xs := [By x]) hat⟩)
  cases ty
  all_goals
    refine calls [(0, _)] Tryz.func86 rfl Tryz.ntmps86 rfl ⟨rfl, trivial⟩ ?_
    all_goals (refine WC.sr ?_; refine WL.aj (an (fun w => Tryz.zeroValue53 w)) rfl rfl rfl ?_; rintro _ h1 ⟨b1, rfl, bR, aR, az⟩; have k1 := k.aq az; have lb := ai k.bm; refine Go ?_; refine WC.seq ?_; refine WC.sr ?_; refine Go ?_; refine WL.call (vs := [_]) rfl (fun a w => Tryz.call85 a w) rfl (kr _ k1) rfl rfl rfl ?_; rintro _ hq ⟨rfl, hz⟩; replace hz := hz.symm; subst hz; refine Go ?_; refine Gs [(0, _), (2, _), (11, _)] ?_; refine aH 1 2 ?_ TT.mk; refine aw 2 ?_; refine WC.skip ?_; refine Gn ?_; refine WC.sr ?_; refine Go ?_; refine WL.call (vs := [_]) rfl (fun a w => Tryz.call121 a w) rfl (kw _ k1) rfl rfl rfl ?_; rintro _ h2 ⟨rfl, k2, aI⟩)
    all_goals (have bH := k2.bm
               have bT := aI.obj aR (fun e => by omega)
               have pz := (k2.own.rd.drop (l := hd + 4) (by omega)).take (k := n - 4) (by omega)
               have hmb : ((bA l).drop ((hd + 4) * 1)).take ((n - 4) * 1) = bA ((l.drop (hd + 4)).take (n - 4)) := by simp [bA]
               rw [hmb, ← hme, ← hln] at pz
               have Mv := ai bH
               have Mw := ai bT
               have X : Ext No h2 h2 := .refl _ _)
    all_goals (refine Go ?_; refine Gs [(0, _), (2, _), (5, _), (6, _), (7, _)] ?_; refine WC.seq ?_; refine WC.sr ?_; refine Go ?_; refine aH 3 4 ?_ TT.mk; refine aw 4 ?_; refine WC.skip ?_; refine Gn ?_; refine Gs [(0, _), (2, _), (5, _)] ?_; refine WC.seq ?_; refine WC.bW (fun h' => Ext No h2 h') 15 16 rfl dm ?_; refine WH.tk 0 rfl (fun hq hC => ak rfl) rfl rfl rfl ?_; refine WH.tk 1 rfl (fun hq hC => ae rfl) rfl rfl rfl ?_; refine WH.tk 2 rfl (fun hq hC => ad rfl Tryz.underlying147 rfl (fun w => Tryz.sizeOf23 w)) rfl rfl rfl ?_; refine WH.tk 3 rfl (fun hq hC => aA (fun w => Tryz.isAgg23 w) rfl (by first | exact hC.cell (by first | exact At.pre (xs := [_]) (ys := [_, _, _]) (At.tl ((At.av bH).ext hC aO)) | assumption | exact aa (by assumption) rfl) aO)) rfl rfl rfl ?_; refine WH.tk 4 rfl (fun hq hC => ak rfl) rfl rfl rfl ?_; refine WH.tk 5 rfl (fun hq hC => ae rfl) rfl rfl rfl ?_; refine WH.tk 6 rfl (fun hq hC => ad rfl Tryz.underlying147 rfl (fun w => Tryz.sizeOf145 w)) rfl rfl rfl ?_; refine WH.tk 7 rfl (fun hq hC => ay (fun w => Tryz.isAgg145 w) (fun w => Tryz.sizeOf145 w) rfl rfl (by exact At.pre (xs := [_]) (ys := [_, _, _, _]) ((At.av bH).ext hC aO))) rfl rfl rfl ?_; refine WH.tk 10 rfl (fun hq hC => ak rfl) rfl rfl rfl ?_; refine WH.two 8 14 (by kernel_rfl) (Br.out (i := 5006) ?_) (Br.out (i := 5007) ?_))
    all_goals (first | (fail_if_success refine aw 5006 ?_) | (
    refine aw 5006 ?_
    all_goals (refine aC.call (vs := [_]) rfl rfl (fun a w => Tryz.call88 a w) rfl (kh _) rfl rfl rfl ?_ (fun _ => by kernel_rfl); rintro _ h3 ⟨rfl, aQ⟩; replace X := X.trans aQ; try (replace bE := aQ.obj bE aO))
    all_goals (refine ⟨fun _ => X, ?_⟩; refine WH.tk 9 rfl (fun hq hC => eX rfl rfl (by omega)) rfl rfl rfl ?_; refine WH.tk 11 rfl (fun hq hC => cW (l := hd + 4) (k := hd + n) Tryz.underlying23 (fun w => Tryz.sizeOf5 w) rfl rfl rfl (by omega)) rfl rfl rfl ?_; rw [show hd + n - (hd + 4) = m.length by omega])
    all_goals (refine WH.two 12 14 (by kernel_rfl) (Br.out (i := 5006) ?_) (Br.out (i := 5007) ?_))
    all_goals (first | (fail_if_success refine aw 5006 ?_) | (
    refine aw 5006 ?_
    all_goals (refine aC.call (vs := [_]) rfl rfl (fun a w => Tryz.call74 a w) rfl (kS m (pz.aq X) (by omega)) rfl rfl rfl ?_ (fun _ => by kernel_rfl); rintro w3 h4 ⟨how, aW, hfw⟩; (have hfw : ∀ q, w3.ownBlock = some q → h2.size ≤ q := fun q hq => by have := hfw q hq; have := X.size; omega); obtain ⟨A3, c3, rfl, _⟩ := id how.slice; replace X := X.trans aW; try (replace bE := aW.obj bE aO))
    all_goals (refine ⟨fun _ => X, ?_⟩; refine WH.tk 13 rfl (fun hq hC => aF (vs := [_]) (cs := [_, _]) (fun | [a1] => [(.int .u8 0), a1] | _ => []) rfl rfl (by kernel_rfl)) rfl rfl rfl ?_; refine WH.one 14 (by kernel_rfl) ?_; refine aC.run rfl (an (fun w => Tryz.zeroValue53 w)) rfl rfl rfl ?_ (fun _ => by kernel_rfl); rintro _ h5 ⟨b8, rfl, EB, bE, aM⟩; (have EB : h2.size ≤ b8 := by have := X.size; omega); replace X := X.trans aM; try (replace how := how.ext aM (fun _ _ => aO)))
    all_goals (refine ⟨fun _ => X, ?_⟩; refine WH.one 15 (by kernel_rfl) ?_; refine aC.cO rfl (al (fun w => Tryz.sizeOf53 w) rfl rfl rfl bE rfl (by simp [Value.oneCell'])) rfl rfl ?_ (fun _ => by kernel_rfl); rintro _ h6 ⟨rH, aN⟩; have kU := aN.obj (X.obj bH aO) (fun e => by omega); have mX := aN.obj (X.obj bT aO) (fun e => by omega); have mc := how.ext aN (fun q hq e => bQ how bE (by decide) (e ▸ hq)); have Bq : Fw h6 b _ (.slice B l.length d) l := (k2.aq X).ext aN (fun e => by omega) (fun q hq e => bQ (k2.aq X).own bE (by decide) (e ▸ hq)); have X6 : Ext (fun q => q = b) h h6 := (az.mono fun _ _ e => e.elim).trans (aI.trans ((X.trans' aN (fun q hq e => by omega)).mono fun _ _ e => e.elim)); have Gw := az.size; have kO := aI.size; replace bE := rH; clear rH; refine ⟨fun e => (by cases e), ?_⟩; refine WH.done (by kernel_rfl) ?_)
    skip))
    all_goals (first | (fail_if_success refine aw 5007 ?_) | (
    refine aw 5007 ?_
    all_goals (refine aC.run rfl (an (fun w => Tryz.zeroValue53 w)) rfl rfl rfl ?_ (fun _ => by kernel_rfl); rintro _ h5 ⟨b8, rfl, EB, bE, aM⟩; (have EB : h2.size ≤ b8 := by have := X.size; omega); replace X := X.trans aM; try (replace how := how.ext aM (fun _ _ => aO)))
    all_goals (refine ⟨fun _ => X, ?_⟩; refine WH.one 12 (by kernel_rfl) ?_; refine aC.call (vs := [_]) rfl rfl (fun a w => Tryz.call74 a w) rfl (kS m (pz.aq X) (by omega)) rfl rfl rfl ?_ (fun _ => by kernel_rfl); rintro w3 h4 ⟨how, aW, hfw⟩; (have hfw : ∀ q, w3.ownBlock = some q → h2.size ≤ q := fun q hq => by have := hfw q hq; have := X.size; omega); obtain ⟨A3, c3, rfl, _⟩ := id how.slice; replace X := X.trans aW; try (replace bE := aW.obj bE aO))
    all_goals (refine ⟨fun _ => X, ?_⟩; refine WH.tk 13 rfl (fun hq hC => aF (vs := [_]) (cs := [_, _]) (fun | [a1] => [(.int .u8 0), a1] | _ => []) rfl rfl (by kernel_rfl)) rfl rfl rfl ?_; refine WH.one 15 (by kernel_rfl) ?_; refine aC.cO rfl (al (fun w => Tryz.sizeOf53 w) rfl rfl rfl bE rfl (by simp [Value.oneCell'])) rfl rfl ?_ (fun _ => by kernel_rfl); rintro _ h6 ⟨rH, aN⟩; have kU := aN.obj (X.obj bH aO) (fun e => by omega); have mX := aN.obj (X.obj bT aO) (fun e => by omega); have mc := how.ext aN (fun q hq e => bQ how bE (by decide) (e ▸ hq)); have Bq : Fw h6 b _ (.slice B l.length d) l := (k2.aq X).ext aN (fun e => by omega) (fun q hq e => bQ (k2.aq X).own bE (by decide) (e ▸ hq)); have X6 : Ext (fun q => q = b) h h6 := (az.mono fun _ _ e => e.elim).trans (aI.trans ((X.trans' aN (fun q hq e => by omega)).mono fun _ _ e => e.elim)); have Gw := az.size; have kO := aI.size; replace bE := rH; clear rH; refine ⟨fun e => (by cases e), ?_⟩; refine WH.done (by kernel_rfl) ?_)
    skip))
    skip))
    all_goals (first | (fail_if_success refine aw 5007 ?_) | (
    refine aw 5007 ?_
    all_goals (refine aC.run rfl (an (fun w => Tryz.zeroValue53 w)) rfl rfl rfl ?_ (fun _ => by kernel_rfl); rintro _ h5 ⟨b8, rfl, EB, bE, aM⟩; (have EB : h2.size ≤ b8 := by have := X.size; omega); replace X := X.trans aM; try (replace how := how.ext aM (fun _ _ => aO)))
    all_goals (refine ⟨fun _ => X, ?_⟩; refine WH.one 8 (by kernel_rfl) ?_; refine aC.call (vs := [_]) rfl rfl (fun a w => Tryz.call88 a w) rfl (kh _) rfl rfl rfl ?_ (fun _ => by kernel_rfl); rintro _ h3 ⟨rfl, aQ⟩; replace X := X.trans aQ; try (replace bE := aQ.obj bE aO))
    all_goals (refine ⟨fun _ => X, ?_⟩; refine WH.tk 9 rfl (fun hq hC => eX rfl rfl (by omega)) rfl rfl rfl ?_; refine WH.tk 11 rfl (fun hq hC => cW (l := hd + 4) (k := hd + n) Tryz.underlying23 (fun w => Tryz.sizeOf5 w) rfl rfl rfl (by omega)) rfl rfl rfl ?_; rw [show hd + n - (hd + 4) = m.length by omega])
    all_goals (refine WH.one 12 (by kernel_rfl) ?_; refine aC.call (vs := [_]) rfl rfl (fun a w => Tryz.call74 a w) rfl (kS m (pz.aq X) (by omega)) rfl rfl rfl ?_ (fun _ => by kernel_rfl); rintro w3 h4 ⟨how, aW, hfw⟩; (have hfw : ∀ q, w3.ownBlock = some q → h2.size ≤ q := fun q hq => by have := hfw q hq; have := X.size; omega); obtain ⟨A3, c3, rfl, _⟩ := id how.slice; replace X := X.trans aW; try (replace bE := aW.obj bE aO))
    all_goals (refine ⟨fun _ => X, ?_⟩; refine WH.tk 13 rfl (fun hq hC => aF (vs := [_]) (cs := [_, _]) (fun | [a1] => [(.int .u8 0), a1] | _ => []) rfl rfl (by kernel_rfl)) rfl rfl rfl ?_; refine WH.one 15 (by kernel_rfl) ?_; refine aC.cO rfl (al (fun w => Tryz.sizeOf53 w) rfl rfl rfl bE rfl (by simp [Value.oneCell'])) rfl rfl ?_ (fun _ => by kernel_rfl); rintro _ h6 ⟨rH, aN⟩; have kU := aN.obj (X.obj bH aO) (fun e => by omega); have mX := aN.obj (X.obj bT aO) (fun e => by omega); have mc := how.ext aN (fun q hq e => bQ how bE (by decide) (e ▸ hq)); have Bq : Fw h6 b _ (.slice B l.length d) l := (k2.aq X).ext aN (fun e => by omega) (fun q hq e => bQ (k2.aq X).own bE (by decide) (e ▸ hq)); have X6 : Ext (fun q => q = b) h h6 := (az.mono fun _ _ e => e.elim).trans (aI.trans ((X.trans' aN (fun q hq e => by omega)).mono fun _ _ e => e.elim)); have Gw := az.size; have kO := aI.size; replace bE := rH; clear rH; refine ⟨fun e => (by cases e), ?_⟩; refine WH.done (by kernel_rfl) ?_)
    skip))
    all_goals (refine Gn ?_; refine Gs [(0, _), (2, _), (8, _)] ?_; refine WC.seq ?_; refine WC.sr ?_; refine Go ?_; refine WL.step (ae rfl) rfl rfl rfl ?_; refine Go ?_; refine WL.ld rfl (by first | exact At.pre (xs := [_]) (ys := [_, _, _, _]) (At.av kU) | assumption | exact aa (by assumption) rfl) rfl rfl rfl ?_; refine Gn ?_; refine Gs [(0, _), (2, _), (8, _), (41, _)] ?_; refine aH 5 6 ?_ TT.mk)
    all_goals (first | (fail_if_success refine aw 5 ?_) | (
    refine aw 5 ?_
    all_goals (refine WC.region ?_; refine Go ?_; refine WL.step (ae rfl) rfl rfl rfl ?_; refine Go ?_; refine WL.ld rfl (by first | exact At.pre (xs := [_]) (ys := [_, _, _]) (At.tl (At.av kU)) | assumption | exact aa (by assumption) rfl) rfl rfl rfl ?_; obtain ⟨bb, o, rfl, hat⟩ := cap _ Bq rfl; have JA := hat.get (p := o + 0 * 1) 0 rfl (by omega); refine WL.step (aE Tryz.underlying23 (fun w => Tryz.sizeOf5 w) rfl rfl rfl (by first | omega | (simp <;> omega)) (by first | rfl | assumption) (k := 0)) rfl rfl rfl ?_; refine WL.ld rfl (by first | exact JA | assumption | exact aa (by assumption) rfl) rfl rfl rfl ?_; refine Go ?_; refine WL.ax (aB (fun w => Tryz.sizeOf5 w) rfl rfl bE (Nat.le_of_ble_eq_true rfl) rfl rfl) rfl rfl ?_; rintro _ h7 ⟨JB, ba⟩; replace X6 := X6.trans' ba (fun q hq e => by omega); replace mc := mc.ext ba (fun q hq e => bQ mc bE (by decide) (e ▸ hq)); replace Bq := Bq.ext ba (fun e => by omega) (fun q hq e => bQ Bq.own bE (by decide) (e ▸ hq)); replace mX := ba.obj mX (fun e => by omega); replace bE := JB; refine Gn ?_)
    skip))
    all_goals (first | (fail_if_success refine aw 6 ?_) | (
    refine aw 6 ?_
    all_goals (refine WC.skip ?_)
    skip))
    all_goals (refine Gn ?_; refine WC.sr ?_; refine WL.step (ay (fun w => Tryz.isAgg53 w) (fun w => Tryz.sizeOf53 w) rfl rfl (by exact At.av bE)) rfl rfl rfl ?_; refine WL.ax (al (fun w => Tryz.sizeOf53 w) rfl rfl rfl mX rfl (by simp [Value.oneCell'])) rfl rfl ?_; rintro _ h9 ⟨bY, bZ⟩; replace X6 := X6.trans' bZ (fun q hq e => by omega); replace mc := mc.ext bZ (fun q hq e => bQ mc mX (by decide) (e ▸ hq)); replace Bq := Bq.ext bZ (fun e => by omega) (fun q hq e => bQ Bq.own mX (by decide) (e ▸ hq)); refine Go ?_; refine Gs [(2, _), (3, _), (4, _)] ?_; refine WC.ret ?_; repeat' (with_reducible first | refine aZ ?_ | refine aV ?_))
    all_goals (refine mP _ _ _ ⟨⟨_, rfl, bB (fun w => Tryz.isAgg53 w) (fun w => Tryz.sizeOf53 w) (by assumption) rfl⟩, rfl, rfl, trivial⟩ ?_; exact ⟨_, rfl, hln ▸ mc, Bq, X6, fun q hq => by have := hfw q hq; omega⟩)
end
section
variable {h h' : ah} {b : Nat} {ty : Bool} {v : Value} {l : List UInt8} {S : Nat → Prop}
set_option maxHeartbeats 2000000 in
set_option maxRecDepth 100000 in
theorem vq (k : Fw h b ty v l) (hd n : Nat) (he : (if ty = true then 1 else 0) = hd) (hn : ij ((l.drop hd).take 4) = (n : Int)) (h4 : 4 ≤ n ∧ n ≤ 65536) (hl : hd + n ≤ l.length) (hm : l.length ≤ 1000000) :
    ag Tryz.prog 53 ⟨[.pointer (some ⟨b, 0, none⟩)]⟩ h fun u h' => ∃ w v', u = .tuple ⟨[.agg ⟨[By (rG ty l), w]⟩, .bool true, In 0]⟩ ∧ Own h' w 5 1 (n - 4) (bA ((l.drop (hd + 4)).take (n - 4))) ∧ Fw h' b ty v' (l.drop (hd + n)) ∧ Ext (fun q => q = b ∨ v.ownBlock = some q) h h' ∧ (∀ q, w.ownBlock = some q → h.size ≤ q) ∧ v'.ownBlock = v.ownBlock := by
  have kp := fun (h' : ah) (k : Fw h' b ty v l) => BT k hd n he hn h4 hl hm
  have kh := fun h' => iW (h := h') ty
  rw [he] at kh
  have hne := k.ne
  have hbl : ∀ q, v.ownBlock = some q → q < h.size := fun q hq => k.own.lt hq
  obtain ⟨B, d, rfl, _⟩ := id k.own.slice
  obtain ⟨m, hme⟩ : ∃ m, m = (l.drop (hd + 4)).take (n - 4) := ⟨_, rfl⟩
  rw [← hme] at kp ⊢
  have kd := fun (h' : ah) (k : Fw h' b ty (.slice B l.length d) l) => tF (k := hd + n) l k.own (by omega) hm
  refine calls [(0, _)] Tryz.func53 rfl Tryz.ntmps53 rfl ⟨rfl, trivial⟩ ?_
  refine WC.sr ?_
  refine WL.aj (an (fun w => Tryz.zeroValue53 w)) rfl rfl rfl ?_
  rintro _ h1 ⟨b1, rfl, bR, aR, az⟩
  have k1 := k.aq az
  have lb := ai k.bm
  refine Go ?_
  refine WC.sr ?_
  refine Go ?_
  refine WL.call (vs := [_]) rfl (fun a w => Tryz.call86 a w) rfl (kp _ k1) rfl rfl rfl ?_
  rintro _ h2 ⟨w2, rfl, how, k2, aI, hfw⟩
  obtain ⟨A2, c2, rfl, _⟩ := id how.slice
  have bT := aI.obj aR (fun e => by omega)
  have l1 := az.size
  have l2 := aI.size
  refine Go ?_
  refine WL.aj (an (fun w => Tryz.zeroValue53 w)) rfl rfl rfl ?_
  rintro _ h3 ⟨b5, rfl, qR, bV, aQ⟩
  refine WL.ax (al (fun w => Tryz.sizeOf53 w) rfl rfl rfl bV rfl (by simp [Value.oneCell'])) rfl rfl ?_
  rintro _ h4 ⟨rI, aW⟩
  have X : Ext No h2 h4 := aQ.trans' aW (fun q hq e => by omega)
  have k4 := k2.aq X
  have JC := how.ext X (fun _ _ => aO)
  have bJ := X.obj bT aO
  have pQ := k4.bm
  have l4 := X.size
  clear aR bT bV aQ aW
  have nB : (Value.slice B l.length d).ownBlock ≠ some b := fun e => hne b e rfl
  have IY : (Value.slice B l.length d).ownBlock ≠ some b5 := fun e => by have := hbl b5 e; omega
  refine Go ?_
  refine Gs [(0, _), (2, _), (5, _), (6, _), (7, _)] ?_
  refine WC.seq ?_
  refine WC.sr ?_
  refine Go ?_
  refine aH 1 2 ?_ TT.mk
  all_goals (refine aw 1 ?_)
  refine WC.bW (fun h' => Ext (fun q => (Value.slice B l.length d).ownBlock = some q) h4 h') 18 19 rfl dm ?_
  refine WH.tk 0 rfl (fun hq hC => ak rfl) rfl rfl rfl ?_
  refine WH.tk 1 rfl (fun hq hC => ak rfl) rfl rfl rfl ?_
  refine WH.tk 2 rfl (fun hq hC => ae rfl) rfl rfl rfl ?_
  refine WH.tk 3 rfl (fun hq hC => ad rfl Tryz.underlying147 rfl (fun w => Tryz.sizeOf23 w)) rfl rfl rfl ?_
  refine WH.tk 4 rfl (fun hq hC => aA (fun w => Tryz.isAgg23 w) rfl (by first | exact hC.cell (by first | exact At.pre (xs := [_]) (ys := [_, _, _]) (At.tl ((At.av pQ).ext hC nB)) | assumption | exact aa (by assumption) rfl) (by first | exact nB | exact IY))) rfl rfl rfl ?_
  refine WH.tk 5 rfl (fun hq hC => ak rfl) rfl rfl rfl ?_
  refine WH.tk 6 rfl (fun hq hC => ae rfl) rfl rfl rfl ?_
  refine WH.tk 7 rfl (fun hq hC => ad rfl Tryz.underlying147 rfl (fun w => Tryz.sizeOf145 w)) rfl rfl rfl ?_
  refine WH.tk 8 rfl (fun hq hC => ay (fun w => Tryz.isAgg145 w) (fun w => Tryz.sizeOf145 w) rfl rfl (by exact At.pre (xs := [_]) (ys := [_, _, _, _]) ((At.av pQ).ext hC nB))) rfl rfl rfl ?_
  refine WH.tk 11 rfl (fun hq hC => ad rfl Tryz.underlying53 rfl (fun w => Tryz.sizeOf23 w)) rfl rfl rfl ?_
  refine WH.tk 12 rfl (fun hq hC => aA (fun w => Tryz.isAgg23 w) rfl (by first | exact hC.cell (by first | exact At.pre (xs := [_]) (ys := []) (At.tl ((At.av rI).ext hC IY)) | assumption | exact aa (by assumption) rfl) (by first | exact nB | exact IY))) rfl rfl rfl ?_
  refine WH.tk 13 rfl (fun hq hC => cq rfl Tryz.underlying23 rfl) rfl rfl rfl ?_
  refine WH.one 9 (by kernel_rfl) ?_
  refine aC.call (vs := [_]) rfl rfl (fun a w => Tryz.call88 a w) rfl (kh _) rfl rfl rfl ?_ (fun _ => by kernel_rfl)
  rintro _ h5 ⟨rfl, aM⟩
  have DF : Ext (fun q => (Value.slice B l.length d).ownBlock = some q) h4 h5 := aM.mono fun _ _ e => e.elim
  refine ⟨fun _ => DF, ?_⟩
  refine WH.tk 10 rfl (fun hq hC => eX rfl rfl (by omega)) rfl rfl rfl ?_
  refine WH.tk 14 rfl (fun hq hC => eX rfl rfl (by omega)) rfl rfl rfl ?_
  rw [show (hd : Int) + 4 + ((n - 4 : Nat) : Int) = ((hd + n : Nat) : Int) by omega]
  refine WH.one 15 (by kernel_rfl) ?_
  refine aC.call (vs := [_, _, _]) rfl rfl (fun a w => Tryz.call87 a w) rfl (kd _ (k4.aq aM)) rfl rfl rfl ?_ (fun _ => by kernel_rfl)
  rintro v6 h6 ⟨gu, aN, iH⟩
  obtain ⟨B6, d6, rfl, _⟩ := id gu.slice
  have kU := aN.obj (k4.aq aM).bm nB
  have Gx : Ext (fun q => (Value.slice B l.length d).ownBlock = some q) h4 h6 := (aM.mono fun _ _ e => e.elim).trans aN
  have mc := JC.ext Gx (fun q hq e => by have := hfw q hq; have := hbl q e; omega)
  have dx := Gx.obj bJ (fun e => by have := hbl b1 e; omega)
  have EC := Gx.obj rI IY
  refine ⟨fun _ => by first | assumption | trivial, ?_⟩
  refine WH.one 16 (by kernel_rfl) ?_
  refine aC.run rfl (bN.r (ae rfl)) rfl rfl rfl ?_ (fun _ => by kernel_rfl)
  rintro _ hz ⟨rfl, _⟩
  subst hz
  refine ⟨fun _ => by first | assumption | trivial, ?_⟩
  refine WH.one 17 (by kernel_rfl) ?_
  refine aC.run rfl (bN.r (ad rfl Tryz.underlying147 rfl (fun w => Tryz.sizeOf23 w))) rfl rfl rfl ?_ (fun _ => by kernel_rfl)
  rintro _ hz ⟨rfl, _⟩
  subst hz
  refine ⟨fun _ => by first | assumption | trivial, ?_⟩
  refine WH.one 18 (by kernel_rfl) ?_
  refine aC.cO rfl (aB (fun w => Tryz.sizeOf23 w) rfl rfl kU (Nat.le_of_ble_eq_true rfl) rfl rfl) rfl rfl ?_ (fun _ => by kernel_rfl)
  rintro _ h7 ⟨ED, ba⟩
  have k7 : Fw h7 b ty (.slice B6 (l.drop (hd + n)).length d6) (l.drop (hd + n)) := ⟨ED, gu.ext ba (fun q hq e => nB (by rw [← iH]; exact e ▸ hq))⟩
  have G9 := mc.ext ba (fun q hq e => bQ mc kU (by decide) (e ▸ hq))
  have kV := ba.obj dx (fun e => by omega)
  have EE := ba.obj EC (fun e => by omega)
  have X7 : Ext (fun q => q = b ∨ (Value.slice B l.length d).ownBlock = some q) h h7 := (az.mono fun _ _ e => e.elim).trans ((aI.mono fun _ _ e => .inl e).trans ((X.mono fun _ _ e => e.elim).trans ((Gx.mono fun _ _ e => .inr e).trans (ba.mono fun _ _ e => .inl e))))
  refine ⟨fun e => (by cases e), ?_⟩
  refine WH.done (by kernel_rfl) ?_
  refine Gn ?_
  refine WC.sr ?_
  refine WL.step (ay (fun w => Tryz.isAgg53 w) (fun w => Tryz.sizeOf53 w) rfl rfl (by exact At.av EE)) rfl rfl rfl ?_
  refine Go ?_
  refine WL.ax (al (fun w => Tryz.sizeOf53 w) rfl rfl rfl kV rfl (by simp [Value.oneCell'])) rfl rfl ?_
  rintro _ h8 ⟨fQ, bz⟩
  refine Go ?_
  refine Gs [(2, _), (3, _), (4, _)] ?_
  refine WC.ret ?_
  repeat' (with_reducible first | refine aZ ?_ | refine aV ?_)
  refine mP _ _ _ ⟨⟨_, rfl, bB (fun w => Tryz.isAgg53 w) (fun w => Tryz.sizeOf53 w) (by assumption) rfl⟩, rfl, rfl, trivial⟩ ?_
  exact ⟨_, _, rfl, G9.ext bz (fun q hq e => bQ G9 kV (by decide) (e ▸ hq)), k7.ext bz (fun e => by omega) (fun q hq e => bQ k7.own kV (by decide) (e ▸ hq)), X7.trans' bz (fun q hq e => by omega), fun q hq => by have := hfw q hq; omega, iH⟩
end
structure Sc (h:ah) (b:Nat) (v:Value) (l:List UInt8):Prop where
 bm:h[b]?=some (.cells ⟨[v,.bool false,.bool true]⟩ 199 (0,0))
 rd:Rd h v 1 l.length (bA l)
 ne:∀ q,v.ownBlock=some q→q ≠ b
section
variable {h h':ah} {b:Nat} {v:Value} {l:List UInt8} {S:Nat→Prop}
theorem Sc.ext (k:Sc h b v l) (x:Ext S h h') (h1:¬ S b) (h2:∀ q,v.ownBlock=some q→¬ S q):Sc h' b v l:=⟨x.obj k.bm h1,k.rd.ext x h2,k.ne⟩
theorem jD {h:ah} (l:List UInt8) (hr:Rd h v 1 l.length (bA l)) (hm:l.length≤1000000):ag Tryz.prog 127 ⟨[v]⟩ h fun u h'=>Own h' u 5 1 l.length (bA l)∧Ext No h h'∧(∀ k,u.ownBlock=some k→h.size≤k):=by
 obtain ⟨A,c,rfl,_⟩:=id hr
 cases A with
 | none =>
   have h0:l=[]:=by
     cases l with
     | nil=>rfl
     | cons a l=>obtain ⟨b,o,e,_⟩:=Rd.at_ hr (by simp);cases e
   subst h0
   refine calls [(0,_)] Tryz.func127 rfl Tryz.ntmps127 rfl ⟨rfl,trivial⟩ ?_
   refine G2 ?_;refine G3 ?_;refine WL.step (cR Tryz.underlying23 rfl rfl) rfl rfl rfl ?_;refine Gn ?_
   refine aH 1 2 ?_ TT.mk
   all_goals (refine aw 1 ?_)
   refine G2 ?_;refine Gt ?_
   exact ⟨Own.nil _ _ _,.refl _ _,by simp [Value.ownBlock]⟩
 | some a =>
   refine calls [(0,_)] Tryz.func127 rfl Tryz.ntmps127 rfl ⟨rfl,trivial⟩ ?_
   refine G2 ?_;refine G3 ?_;refine WL.step (cR Tryz.underlying23 rfl rfl) rfl rfl rfl ?_;refine Gn ?_
   refine aH 1 2 ?_ TT.mk
   all_goals (refine aw 2 ?_)
   refine WC.skip ?_;refine Gn ?_;refine WC.sr ?_;refine WL.aj (au (vs:=[]) (cs:=[]) (fun _=>[]) Tryz.underlying23 rfl rfl (by kernel_rfl)) rfl rfl rfl ?_
   rintro _ h1 ⟨b1,rfl,bR,aR,az⟩
   refine Go ?_
   have qP:=hr.aq az
   refine WL.aj (aT (sz:=1) (bytes:=1) rfl Tryz.underlying23 (show Tryz.prog.info? 5=some Tryz.t5 by kernel_rfl) rfl rfl rfl rfl (by decide) rfl rfl (dE aR rfl (by simp [maxLen])) qP (by intro c hc;obtain ⟨b,_,rfl⟩:=List.mem_map.1 hc;rfl) (by simp only [maxLen];omega) (by omega)) rfl rfl rfl ?_
   rintro v2 h2 ⟨dc,aI,kO⟩
   refine Go ?_;refine Gs [(2,_)] ?_;refine Gt ?_
   exact ⟨by simpa using dc,az.trans' aI (fun k hk e=>by simp [Value.ownBlock] at e;omega),bU kO (fun k hk=>by simp [Value.ownBlock] at hk;omega) az.size⟩
theorem yz {w:Value} (l:List UInt8) (hr:Rd h w 1 l.length (bA l)) (hm:l.length≤1000000):ag Tryz.prog 94 ⟨[w]⟩ h fun u h'=>∃ b v,u=.pointer (some ⟨b,0,none⟩)∧Sc h' b v l∧Ext No h h'∧h.size≤b∧∀ q,v.ownBlock=some q→h.size≤q:=by
 refine calls [(0,_)] Tryz.func94 rfl Tryz.ntmps94 rfl ⟨rfl,trivial⟩ ?_
 refine G2 ?_;refine G2 ?_;refine WL.call (vs:=[_]) rfl Tryz.call127 rfl (jD l hr hm) rfl rfl rfl ?_
 rintro v1 h1 ⟨jM,az,ik⟩
 obtain ⟨A1,c1,rfl,_⟩:=id jM.slice
 refine WL.step (aF (vs:=[_,_]) (cs:=[_,_,_]) (fun | [a0,a2]=>[a0,(.bool false),a2] | _=>[]) rfl rfl (by kernel_rfl)) rfl rfl rfl ?_
 refine WL.aj (aG rfl) rfl rfl rfl ?_
 rintro _ h2 ⟨b2,rfl,gg,bH,aI⟩
 refine Go ?_;refine Gs [(2,_)] ?_;refine Gt ?_
 exact ⟨b2,_,rfl,⟨bH,(jM.ext aI (fun _ _=>aO)).rd,fun q hq e=>by have:=jM.lt hq;omega⟩,az.trans aI,by have:=az.size;omega,ik⟩
theorem iX (k:Sc h b v l):ag Tryz.prog 132 ⟨[.pointer (some ⟨b,0,none⟩)]⟩ h fun u h'=>u=.bool true∧h'=h:=by
 have hb:=k.bm
 refine calls [(0,_)] Tryz.func132 rfl Tryz.ntmps132 rfl ⟨rfl,trivial⟩ ?_
 refine G2 ?_;refine G2 ?_;refine WL.step (dQ Tryz.underlying158 rfl rfl) rfl rfl rfl (Go ?_)
 refine bK 5 ?_ TT.mk
 refine Gg ?_;refine WL.step (ae rfl) rfl rfl rfl ?_;refine Gg ?_;refine WL.ld rfl (by first | exact aa hb rfl | assumption) rfl rfl rfl (Go ?_)
 refine bK 11 ?_ TT.mk
 refine Gg ?_;refine WL.step (ae rfl) rfl rfl rfl ?_;refine Gg ?_;refine WL.ld rfl (by first | exact aa hb rfl | assumption) rfl rfl rfl ?_
 refine Gg ?_;refine Go ?_;refine Gs [(2,_)] ?_;refine Gt ?_
 exact ⟨rfl,rfl⟩
theorem Rd.yB {A:Option Addr} {n c sz:Nat} {xs:List Value} (r:Rd h (.slice A n c) sz n xs):Rd h (.slice A n n) sz n xs:=by
 obtain ⟨A1,c1,e,hc,hl,hp⟩:=r
 simp only [Value.slice.injEq] at e
 obtain ⟨rfl,_,rfl⟩:=e
 exact ⟨_,_,rfl,Nat.le_refl _,hl,hp⟩
theorem pR {A:Option Addr} {n m c d k:Nat} {p:Prop} [Decidable p] {q:Nat} (e:(Value.slice (if p then A else A.map (·.add k)) m d).ownBlock=some q):(Value.slice A n c).ownBlock=some q:=by
 cases A with
 | none=>split at e <;> cases e
 | some a=>split at e <;> (simp only [Value.ownBlock,Option.map_some,Option.some.injEq,Addr.add] at e ⊢;first | exact e | (split at e <;> exact e))
theorem yC {A:Option Addr} {n m c d q:Nat} (e:(Value.slice A m d).ownBlock=some q):(Value.slice A n c).ownBlock=some q:=by cases A <;> exact e
theorem yD (k:Sc h b v l) (n:Nat) (hn:n≤l.length) (hm:l.length≤1000000):ag Tryz.prog 175 ⟨[.pointer (some ⟨b,0,none⟩),In (n:Int)]⟩ h fun u h'=>∃ A c v',u=.tuple ⟨[.slice A n c,.bool true]⟩∧Rd h' (.slice A n c) 1 n (bA (l.take n))∧Sc h' b v' (l.drop n)∧Ext (fun q=>q=b) h h':=by
 have kg:=fun (h':ah) (k:Sc h' b v l)=>iX k
 have hb:=k.bm
 have hr:=k.rd
 have hne:=k.ne
 obtain ⟨A,c,rfl,hcap,_⟩:=id hr
 refine calls [(0,_),(1,_)] Tryz.func175 rfl Tryz.ntmps175 rfl ⟨rfl,rfl,trivial⟩ ?_
 refine G2 ?_;refine G3 ?_;refine WL.call (vs:=[_]) rfl Tryz.call132 rfl (kg _ k) rfl rfl rfl ?_
 rintro _ hq ⟨rfl,hz⟩
 replace hz:=hz.symm
 subst hz
 refine Go ?_
 refine bK 10 ?_ TT.mk
 refine Gg ?_;refine Go ?_
 refine bK 14 ?_ TT.mk
 refine Gg ?_;refine WL.step (ae rfl) rfl rfl rfl ?_;refine Gg ?_;refine WL.ld rfl (by first | exact aa hb rfl | assumption) rfl rfl rfl ?_
 refine Gg ?_;refine Go ?_;refine Gs [(0,_),(1,_),(22,_)] ?_
 refine aH 1 2 ?_ TT.mk
 all_goals (refine aw 2 ?_)
 refine WC.skip ?_;refine Gn ?_;refine G2 ?_;refine WL.step (ae rfl) rfl rfl rfl (Go ?_);refine WL.ld rfl (by first | exact aa hb rfl | assumption) rfl rfl rfl (Go ?_)
 refine WL.step (fh Tryz.underlying23 Tryz.sizeOf5 rfl rfl rfl (by omega)) rfl rfl rfl (Go ?_)
 refine Gs [(0,_),(1,_),(6,_)] ?_;refine G2 ?_;refine WL.step (ae rfl) rfl rfl rfl (Go ?_);refine WL.ld rfl (by first | exact aa hb rfl | assumption) rfl rfl rfl (Go ?_)
 refine WL.step (dL Tryz.underlying23 Tryz.sizeOf5 rfl rfl (by omega)) rfl rfl rfl ?_
 refine WL.step (ae rfl) rfl rfl rfl (Go ?_);refine WL.ax (aB Tryz.sizeOf23 rfl rfl hb (Nat.le_of_ble_eq_true rfl) rfl rfl) rfl rfl ?_
 rintro _ h2 ⟨bH,aI⟩
 refine Gn ?_;refine Gs [(6,_)] ?_;refine G2 ?_;refine Gt ?_
 have r1:=Rd.yB (hr.take hn)
 have r2:=hr.drop hn
 rw [show (bA l).take (n * 1)=bA (l.take n) by simp [bA]] at r1
 rw [show (bA l).drop (n * 1)=bA (l.drop n) by simp [bA]] at r2
 have n2:∀ q,(Value.slice (if c=n then A else A.map (fun x=>x.add (n * 1))) (l.length - n) (c - n)).ownBlock=some q→q ≠ b:=fun q hq=>hne q (pR hq)
 exact ⟨A,n,_,rfl,r1.ext aI (fun q hq=>hne q (yC hq)),⟨bH,by rw [List.length_drop];exact r2.ext aI n2,n2⟩,aI⟩
theorem EF (k:Sc h b v l) (hn:4≤l.length) (hm:l.length≤1000000):ag Tryz.prog 122 ⟨[.pointer (some ⟨b,0,none⟩),In 4]⟩ h fun u h'=>∃ v',u=In (ij (l.take 4))∧Sc h' b v' (l.drop 4)∧Ext (fun q=>q=b) h h':=by
 have kc:=fun (h':ah) (k:Sc h' b v l)=>yD k 4 hn hm
 have kr:=fun (h':ah)=>pH (h:=h') 0 4 (.inr (.inr rfl)) (by unfold Rt;decide)
 have h4:(l.take 4).length=4:=by simp;omega
 have kn:=fun (h':ah) (A:Option Addr) (c:Nat) (r:Rd h' (.slice A 4 c) 1 4 (bA (l.take 4)))=>DE (l.take 4) (A:=A) (c:=c) (by rw [h4];exact r) 0 (by omega) (by omega)
 simp only [h4,List.drop_zero,List.take_take,Nat.min_self] at kn
 refine calls [(0,_),(1,_)] Tryz.func122 rfl Tryz.ntmps122 rfl ⟨rfl,rfl,trivial⟩ ?_
 refine G2 ?_;refine G3 ?_;refine WL.call (vs:=[_,_]) rfl Tryz.call173 rfl (kr _) rfl rfl rfl ?_
 rintro _ hq ⟨rfl,hz⟩
 replace hz:=hz.symm
 subst hz
 refine Go ?_
 refine aH 1 2 ?_ TT.mk
 all_goals (refine aw 2 ?_)
 refine WC.skip ?_;refine Gn ?_;refine Gs [(0,_),(1,_)] ?_;refine G2 ?_;refine WL.call (vs:=[_,_]) rfl Tryz.call175 rfl (kc _ k) rfl rfl rfl ?_
 rintro _ h2 ⟨A2,c2,v2,rfl,r2,k2,aI⟩
 refine Go ?_;refine Gs [(0,_),(1,_),(5,_),(6,_)] ?_;refine G3 ?_
 refine aH 3 4 ?_ TT.mk
 all_goals (refine aw 4 ?_)
 refine WC.skip ?_;refine Gn ?_;refine G2 ?_;refine WL.call (vs:=[_,_,_]) rfl Tryz.call176 rfl (kn _ _ _ r2) rfl rfl rfl ?_
 rintro _ hq ⟨rfl,hz⟩
 replace hz:=hz.symm
 subst hz
 refine Go ?_;refine Gs [(0,_),(7,_),(8,_)] ?_;refine G3 ?_
 refine aH 5 6 ?_ TT.mk
 all_goals (refine aw 6 ?_)
 refine WC.skip ?_;refine Gn ?_;refine Gs [(7,_)] ?_;refine G2 ?_;refine Gt ?_
 exact ⟨_,rfl,k2,aI⟩
theorem vt (k:Sc h b v []):ag Tryz.prog 96 ⟨[.pointer (some ⟨b,0,none⟩)]⟩ h fun u h'=>u=.bool true∧h'=h:=by
 have kg:=iX k
 have hb:=k.bm
 obtain ⟨A,c,rfl,_⟩:=id k.rd
 refine calls [(0,_)] Tryz.func96 rfl Tryz.ntmps96 rfl ⟨rfl,trivial⟩ ?_
 refine G2 ?_;refine G2 ?_;refine WL.call (vs:=[_]) rfl Tryz.call132 rfl (kg) rfl rfl rfl ?_
 rintro _ hq ⟨rfl,hz⟩
 replace hz:=hz.symm
 subst hz
 refine Go ?_
 refine bK 5 ?_ TT.mk
 refine Gg ?_;refine WL.step (ae rfl) rfl rfl rfl ?_;refine Gg ?_;refine WL.ld rfl (by first | exact aa hb rfl | assumption) rfl rfl rfl ?_
 refine Gg ?_;refine Go ?_;refine Gs [(2,_)] ?_;refine Gt ?_
 exact ⟨rfl,rfl⟩
theorem pS (s r:List UInt8) (hs:Lib.indexByte (s++0 :: r) 0=s.length) (k:Sc h b v (s++0 :: r)) (hm:(s++0 :: r).length≤1000000):ag Tryz.prog 128 ⟨[.pointer (some ⟨b,0,none⟩)]⟩ h fun u h'=>∃ v',u=St s∧Sc h' b v' r∧Ext (fun q=>q=b) h h':=by
 have kg:=fun (h':ah) (k:Sc h' b v (s++0 :: r))=>iX k
 have kc:=fun (h':ah) (k:Sc h' b v (s++0 :: r))=>yD k (s.length+1) (by simp) hm
 have hb:=k.bm
 have ki:=dz _ 0 k.rd (by simp;omega)
 rw [hs] at ki
 have e1:(s++0 :: r).drop (s.length+1)=r:=by rw [List.drop_append];simp
 have e2:(s++0 :: r).take (s.length+1)=s++[0]:=by rw [List.take_append,List.take_of_length_le (by omega)];simp
 rw [e1,e2] at kc
 have hms:s.length+1≤1000000:=by simp at hm;omega
 refine calls [(0,_)] Tryz.func128 rfl Tryz.ntmps128 rfl ⟨rfl,trivial⟩ ?_
 refine G2 ?_;refine G3 ?_;refine WL.call (vs:=[_]) rfl Tryz.call132 rfl (kg _ k) rfl rfl rfl ?_
 rintro _ hq ⟨rfl,hz⟩
 replace hz:=hz.symm
 subst hz
 refine Go ?_
 refine aH 1 2 ?_ TT.mk
 all_goals (refine aw 2 ?_)
 refine WC.skip ?_;refine Gn ?_;refine Gs [(0,_)] ?_;refine G2 ?_;refine WL.step (ae rfl) rfl rfl rfl (Go ?_);refine WL.ld rfl (by first | exact aa hb rfl | assumption) rfl rfl rfl ?_
 refine WL.call (vs:=[_,_]) rfl Tryz.call126 rfl (ki) rfl rfl rfl ?_
 rintro _ hq ⟨rfl,hz⟩
 replace hz:=hz.symm
 subst hz
 refine Go ?_;refine Gs [(0,_),(3,_)] ?_;refine G3 ?_
 refine aH 3 4 ?_ TT.mk
 all_goals (refine aw 4 ?_)
 refine WC.skip ?_;refine Gn ?_;refine G2 ?_
 rw [show ((s.length:Int)+1)=((s.length+1:Nat):Int) from rfl]
 refine WL.call (vs:=[_,_]) rfl Tryz.call175 rfl (kc _ k) rfl rfl rfl ?_
 rintro _ h2 ⟨A2,c2,v2,rfl,r2,k2,aI⟩
 have r3:=r2.take (k:=s.length) (by omega)
 rw [show (bA (s++[0])).take (s.length * 1)=bA s by simp [bA]] at r3
 have hcap:s.length+1≤c2:=by obtain ⟨A1,c1,hv,hcap,_⟩:=id r2;simp only [Value.slice.injEq] at hv;obtain ⟨_,_,rfl⟩:=hv;exact hcap
 refine Go ?_;refine Gs [(3,_),(4,_)] ?_;refine G2 ?_;refine WL.step (lI Tryz.underlying23 Tryz.sizeOf5 rfl rfl (by omega)) rfl rfl rfl ?_
 refine WL.step (dM Tryz.underlying23 Tryz.underlying5 Tryz.underlying9 rfl r3) rfl rfl rfl (Go ?_);refine Gs [(2,_)] ?_;refine Gt ?_
 exact ⟨_,rfl,k2,aI⟩
end
end Go.Proofs.YtopgddfgefnmbaaGreatDoor
namespace Go.RK
open Go
variable {H:Type} {enc:TypeId × Value→H}
def pT (Q:eL):eL
 | .goto _,_,_=>False
 | e,f,h=>Q e f h
section
variable {P:Program} {n:Env} {Q:eL} {f:Fr} {h:ah}
theorem WC.scope {c:Code} (hc:WC P n c (pT Q) f h) (hro:n.ro=Option.none:=by rfl):WC P n (.scope c) Q f h:=fun a w ha hw=>by
 obtain ⟨m,ds,ro⟩:=n
 obtain rfl:ro=Option.none:=hro
 exact wpIn_wide.2 (wp_scope_straight (Go.wp_mono (wpIn_wide.1 (hc a w ha hw)) fun e _ _ ⟨hl,hs,g,hg,q⟩=>by
   cases e <;> first | exact ⟨hl,hs,g,hg,q⟩ | exact q.elim))
theorem dU (hq:Q .normal f h):pT Q .normal f h:=hq
theorem yE {i:Nat} (hq:Q (.exit i) f h):pT Q (.exit i) f h:=hq
theorem yF (hq:Q .ret f h):pT Q .ret f h:=hq
end
end Go.RK
namespace Go.Proofs.YtopgddfgefnmbaaGreatDoor
open Go Go.RK
abbrev rJ:List UInt8:=[117,115,101,114,0,117,0,0]
theorem yG {h:ah} {b:Nat} {v:Value} (k:Sc h b v rJ):ag Tryz.prog 123 ⟨[.pointer (some ⟨b,0,none⟩)]⟩ h fun u h'=>∃ v',Own h' u 59 2 1 [St iE,St uL]∧Sc h' b v' []∧Ext (fun q=>q=b) h h'∧∀ q,u.ownBlock=some q→h.size≤q:=by
 have k1:=fun (h':ah) (k:Sc h' b v rJ)=>pS iE [117,0,0] (by decide) k (by decide)
 have k2:=fun (h':ah) (v:Value) (k:Sc h' b v [117,0,0])=>pS uL [0] (by decide) k (by decide)
 have k3:=fun (h':ah) (v:Value) (k:Sc h' b v [0])=>pS [] [] (by decide) k (by decide)
 have lb:=ai k.bm
 refine calls [(0,_)] Tryz.func123 rfl Tryz.ntmps123 rfl ⟨rfl,trivial⟩ ?_
 refine G2 ?_;refine WC.scope ?_;refine G2 ?_
 repeat' (with_reducible first | refine aS ?_ | refine aL ?_ | refine dU ?_)
 refine WC.seq ?_;refine WC.label ?_
 repeat' (with_reducible first | refine aS ?_ | refine aL ?_ | refine dU ?_)
 refine WC.seq ?_;refine WC.block ?_;refine WC.bD (X:=Nat × Value) (fun x=>([(3,x.2)]:Fr)) [(0,_)] (fun x h'=>(x.1=0∧x.2=.slice none 0 0∧h'=h)∨(x.1=1∧∃ v',Own h' x.2 59 2 1 [St iE,St uL]∧Sc h' b v' [0]∧Ext (fun q=>q=b) h h'∧∀ q,x.2.ownBlock=some q→h.size≤q)) (fun x=>1 - x.1) ((0,.slice none 0 0)) ⟨rfl,rfl,trivial⟩ (by exact .inl ⟨rfl,rfl,rfl⟩) ?_
 rintro ⟨j,w⟩ h1 hI
 dsimp only at hI
 rcases hI with ⟨rfl,rfl,rfl⟩ | ⟨rfl,v1,jM,Mx,az,ik⟩
 all_goals (refine WC.sub [(3,_),(0,_)] ⟨rfl,rfl,trivial⟩ ?_;dsimp only)
 all_goals (refine WC.block ?_;refine G2 ?_;refine WL.call (vs:=[_]) rfl Tryz.call128 rfl ((by first | exact k1 _ k | exact k3 _ _ Mx)) rfl rfl rfl ?_;rintro _ h2 ⟨v2,rfl,Li,aI⟩;refine Go ?_;repeat' (with_reducible first | refine aS ?_ | refine aL ?_ | refine dU ?_))
 all_goals (refine G3 ?_;repeat' (with_reducible first | refine aS ?_ | refine aL ?_ | refine dU ?_))
 all_goals (refine aH 1 2 ?_ TT.mk)
 all_goals try (
 refine aw 1 ?_
 refine WC.exit ?_
 repeat' (with_reducible first | refine aU ?_ | refine aD rfl ?_ | refine aJ ?_ | refine aL ?_ | refine aS ?_ | refine yE ?_ | refine dU ?_)
 refine Br.out (i:=1000) ?_
 skip)
 all_goals try (
 refine aw 2 ?_
 refine WC.skip ?_
 skip)
 all_goals (first | refine Br.ab ?_ | repeat' (with_reducible first | refine aS ?_ | refine aL ?_ | refine dU ?_))
 all_goals (first | refine Br.ab ?_ | refine Gs [(0,_),(3,_),(4,_)] ?_)
 all_goals (first | refine Br.ab ?_ | refine WC.region ?_)
 all_goals (refine Go ?_)
 all_goals (
  first
    | (refine Br.ab ?_)
    | (refine WL.call (vs:=[_]) rfl Tryz.call128 rfl (k2 _ _ Li) rfl rfl rfl ?_
       rintro _ h3 ⟨v3,rfl,My,aQ⟩))
 all_goals (first | refine Br.ab ?_ | (refine WL.step (aF (vs:=[_,_]) (cs:=[_,_]) (fun | [a0,a1]=>[a0,a1] | _=>[]) rfl rfl (by kernel_rfl)) rfl rfl rfl ?_))
 all_goals (
  first
    | (refine Br.ab ?_)
    | (refine WL.aj (au (vs:=[_]) (cs:=[_,_]) (fun | [.agg ⟨[a0,a1]⟩]=>[a0,a1] | _=>[]) Tryz.underlying60 rfl rfl (by kernel_rfl)) rfl rfl rfl ?_
       rintro _ h4 ⟨b4,rfl,oG,bC,aW⟩))
 all_goals (
  first
    | (refine Br.ab ?_)
    | (refine WL.aj (aT (sz:=2) (bytes:=32) rfl Tryz.underlying60 (show Tryz.prog.info? 59=some Tryz.t59 by kernel_rfl) rfl rfl rfl rfl (by decide) rfl rfl (Own.nil _ _ _) (bx (len:=1) (sz:=2) (cs:=[St iE,St uL]) bC rfl) (by simp [Value.oneCell']) (by simp only [maxLen];omega) (by omega)) rfl rfl rfl ?_
       rintro v5 h5 ⟨eF,aM,Bm⟩
       have tG:=aI.trans aQ
       have X4:=tG.trans (aW.mono fun _ _ e=>e.elim)
       have X5:=X4.trans' aM (fun q hq e=>by cases e)
       have Mz:=My.ext aW aO (fun _ _=>aO)
       have MA:=Mz.ext aM (fun e=>by cases e) (fun q hq e=>by cases e)
       have fO:∀ q,v5.ownBlock=some q→h1.size≤q:=bU Bm (fun k hk=>by cases hk) X4.size))
 all_goals (refine Go ?_;first | refine Br.ab ?_ | repeat' (with_reducible first | refine aS ?_ | refine aL ?_ | refine dU ?_))
 all_goals (first | refine Br.ab ?_ | (exact ⟨(0+1,_),⟨rfl,rfl,trivial⟩,(by exact .inr ⟨rfl,v3,eF,MA,X5,fO⟩),(by first | omega | (dsimp only;omega) | simp)⟩))
 try (refine Br.mk (i:=1000) ?_)
 repeat' (with_reducible first | refine aS ?_ | refine aL ?_ | refine dU ?_)
 refine Gs [(3,_)] ?_;refine G2 ?_
 repeat' (with_reducible first | refine aS ?_ | refine aL ?_ | refine dU ?_)
 refine WC.ret ?_
 repeat' (with_reducible first | refine aZ ?_ | refine aV ?_ | refine yF ?_)
 refine cm _ ⟨rfl,trivial⟩ ?_
 exact ⟨v2,jM.ext aI (fun q hq e=>by have:=ik q hq;omega),Li,az.trans aI,ik⟩
theorem tH {h:ah} {w:Value} (hr:Rd h w 1 12 (bA jr)):ag Tryz.prog 90 ⟨[w]⟩ h fun u h'=>∃ p,u=.tuple ⟨[.agg ⟨[In 196608,In 0,In 0,p]⟩,In 0]⟩∧Own h' p 59 2 1 [St iE,St uL]∧Ext No h h'∧∀ q,p.ownBlock=some q→h.size≤q:=by
 have kn:=fun (h':ah) (b:Nat) (v:Value) (k:Sc h' b v jr)=>EF k (by decide) (by decide)
 rw [show ij (jr.take 4)=196608 by decide] at kn
 have kt:=fun (h':ah) (b:Nat) (v:Value) (k:Sc h' b v rJ)=>yG k
 have kd:=fun (h':ah) (b:Nat) (v:Value) (k:Sc h' b v [])=>vt k
 obtain ⟨A,c,rfl,_⟩:=id hr
 refine calls [(0,_)] Tryz.func90 rfl Tryz.ntmps90 rfl ⟨rfl,trivial⟩ ?_
 refine WC.sr ?_;refine WL.aj (an (fun w=>Tryz.zeroValue62 w)) rfl rfl rfl ?_
 rintro _ h1 ⟨b1,rfl,bR,aR,az⟩
 refine Go ?_;refine G3 ?_
 refine aH 1 2 ?_ TT.mk
 all_goals (refine aw 2 ?_)
 refine WC.skip ?_;refine Gn ?_;refine Gs [(0,_),(2,_)] ?_;refine G2 ?_;refine WL.call (vs:=[_]) rfl Tryz.call94 rfl (yz jr (hr.aq az) (by decide)) rfl rfl rfl ?_
 rintro _ h2 ⟨b2,v2,rfl,k2,aI,gg,eI⟩
 refine Go ?_;refine G2 ?_;refine WL.call (vs:=[_,_]) rfl Tryz.call122 rfl (kn _ _ _ k2) rfl rfl rfl ?_
 rintro _ h3 ⟨v3,rfl,k3,aQ⟩
 have l1:=az.size
 have l2:=aI.size
 have l3:=aQ.size
 have cw:=aQ.obj (aI.obj aR aO) (fun e=>by have:=ai aR;omega)
 refine WL.step (aF (vs:=[_]) (cs:=[_,_,_,_]) (fun | [a0]=>[a0,(.int .i64 0),(.int .i64 0),(.slice none 0 0)] | _=>[]) rfl rfl (by kernel_rfl)) rfl rfl rfl ?_
 refine WL.aj (an (fun w=>Tryz.zeroValue62 w)) rfl rfl rfl ?_
 rintro _ h4 ⟨b4,rfl,oG,bC,aW⟩
 refine WL.ax (al Tryz.sizeOf62 rfl rfl rfl bC rfl (by simp [Value.oneCell'])) rfl rfl ?_
 rintro _ h5 ⟨bV,aM⟩
 have Lj:Sc h3 b2 v3 rJ:=k3
 have X3:Ext No h h3:=(az.trans aI).trans' aQ (fun q hq e=>by omega)
 have l4:=aW.size
 have X5:=(X3.trans aW).trans' aM (fun q hq e=>by omega)
 have Ox:=ai k3.bm
 have k5:Sc h5 b2 v3 rJ:=(Lj.ext aW aO (fun _ _=>aO)).ext aM (fun e=>by omega) (fun q hq e=>by have:=Lj.rd.lt (by decide) hq;omega)
 have db:=aM.obj (aW.obj cw aO) (fun e=>by have:=ai cw;omega)
 refine Gn ?_;refine Gs [(2,_),(4,_),(5,_)] ?_;refine G3 ?_;refine WL.ld rfl (by first | exact aa bV rfl | assumption) rfl rfl rfl ?_
 refine Gn ?_;refine WC.block ?_;refine G2 ?_
 refine aH 3 4 ?_ TT.mk
 all_goals (refine aw 3 ?_)
 refine WC.region (Go ?_);refine WL.call (vs:=[_]) rfl Tryz.call123 rfl (kt _ _ _ k5) rfl rfl rfl ?_
 rintro w6 h6 ⟨v6,gu,k6,aN,iH⟩
 obtain ⟨A6,c6,rfl,_⟩:=id gu.slice
 have Ha:=aN.obj bV (fun e=>by omega)
 have dx:=aN.obj db (fun e=>by have:=ai aR;omega)
 have l5:=X5.size
 have Oy:=aM.size
 have X6:=X5.trans' aN (fun q hq e=>by omega)
 refine Go ?_;refine WL.ax (aB Tryz.sizeOf60 rfl rfl Ha (Nat.le_of_ble_eq_true rfl) rfl rfl) rfl rfl ?_
 rintro _ h7 ⟨ca,ba⟩
 have mV:=gu.ext ba (fun q hq e=>bQ gu Ha (by decide) (e▸hq))
 have k7:Sc h7 b2 v6 []:=⟨ba.obj k6.bm (fun e=>by omega),Rd.ext' k6.rd ba (fun q hq=>by simp at hq),k6.ne⟩
 have X7:=X6.trans' ba (fun q hq e=>by omega)
 have kV:=ba.obj dx (fun e=>by have:=ai cw;omega)
 refine Gn ?_;refine Gn ?_;refine G3 ?_;refine WL.call (vs:=[_]) rfl Tryz.call96 rfl (kd _ _ _ k7) rfl rfl rfl ?_
 rintro _ hq ⟨rfl,hz⟩
 replace hz:=hz.symm
 subst hz
 refine Go ?_;refine Gs [(2,_),(5,_),(35,_)] ?_
 refine aH 9 10 ?_ TT.mk
 all_goals (refine aw 10 ?_)
 refine WC.skip ?_;refine Gn ?_;refine WC.sr ?_;refine WL.step (ay Tryz.isAgg62 Tryz.sizeOf62 rfl rfl (by exact At.av ca)) rfl rfl rfl ?_
 refine WL.ax (al Tryz.sizeOf62 rfl rfl rfl kV rfl (by simp [Value.oneCell'])) rfl rfl ?_
 rintro _ h8 ⟨bE,bz⟩
 refine Go ?_;refine WC.ret ?_
 repeat' (with_reducible first | refine aZ ?_ | refine aV ?_)
 refine cV _ _ ⟨⟨_,rfl,bB Tryz.isAgg62 Tryz.sizeOf62 (by assumption) rfl⟩,rfl,trivial⟩ ?_
 exact ⟨_,rfl,mV.ext bz (fun q hq e=>bQ mV kV (by decide) (e▸hq)),X7.trans' bz (fun q hq e=>by omega),fun q hq=>by have:=iH q hq;omega⟩
def lR (w f s p i:Value) (bg ov:Bool):List Value:=[w,f,s,p,i,.bool bg,.bool ov]
abbrev tI:List Bk:=[gB 82 0 0 0,gB 75 0 1 7919,gB 90 73 0 0]
theorem fY {h:ah} {A:Option Addr} {n c:Nat} {xs:List Value} (hr:Rd h (.slice A n c) 2 n xs) (h1:∀ v∈xs,v.oneCell'=true) (hm:n * 32≤reachBytes) :
   ag Tryz.prog 294 ⟨[.slice A n c]⟩ h fun u h'=>Own h' u 85 2 n xs∧Ext No h h'∧(∀ k,u.ownBlock=some k→h.size≤k):=by
 unfold reachBytes at hm
 cases A with
 | none =>
   have h0:n=0:=by
     apply Classical.byContradiction
     intro hn
     obtain ⟨b,o,e,_⟩:=Rd.at_ hr (by omega)
     cases e
   subst h0
   have hx:xs=[]:=List.eq_nil_of_length_eq_zero (by obtain ⟨_,_,_,_,hl,_⟩:=hr;simpa using hl)
   subst hx
   refine calls [(0,_)] Tryz.func294 rfl Tryz.ntmps294 rfl ⟨rfl,trivial⟩ ?_
   refine G2 ?_;refine G3 ?_;refine WL.step (cR Tryz.underlying40 rfl rfl) rfl rfl rfl ?_;refine Gn ?_
   refine aH 1 2 ?_ TT.mk
   all_goals (refine aw 1 ?_)
   refine G2 ?_;refine Gt ?_
   exact ⟨Own.nil _ _ _,.refl _ _,by simp [Value.ownBlock]⟩
 | some a =>
   refine calls [(0,_)] Tryz.func294 rfl Tryz.ntmps294 rfl ⟨rfl,trivial⟩ ?_
   refine G2 ?_;refine G3 ?_;refine WL.step (cR Tryz.underlying40 rfl rfl) rfl rfl rfl ?_;refine Gn ?_
   refine aH 1 2 ?_ TT.mk
   all_goals (refine aw 2 ?_)
   refine WC.skip ?_;refine Gn ?_;refine WC.sr ?_;refine WL.aj (au (vs:=[]) (cs:=[]) (fun _=>[]) Tryz.underlying40 rfl rfl (by kernel_rfl)) rfl rfl rfl ?_
   rintro _ h3 ⟨b1,rfl,bR,aR,az⟩
   refine Go ?_
   have qP:=hr.aq az
   refine WL.aj (aT (sz:=2) (bytes:=32) rfl Tryz.underlying40 (show Tryz.prog.info? 85=some Tryz.t85 by kernel_rfl) rfl rfl rfl rfl (by decide) rfl rfl (dE aR rfl (by simp [maxLen])) qP h1 (by simp only [maxLen];omega) (by omega)) rfl rfl rfl ?_
   rintro v2 h2 ⟨dc,aI,kO⟩
   refine Go ?_;refine Gs [(2,_)] ?_;refine Gt ?_
   exact ⟨by simpa using dc,az.trans' aI (fun k hk e=>by simp [Value.ownBlock] at e;omega),bU kO (fun k hk=>by simp [Value.ownBlock] at hk;omega) az.size⟩
theorem mY {h:ah} {A:Option Addr} {n c:Nat} {xs:List Value} (hr:Rd h (.slice A n c) 1 n xs) (h1:∀ v∈xs,v.oneCell'=true) (hm:n * 24≤reachBytes) :
   ag Tryz.prog 291 ⟨[.slice A n c]⟩ h fun u h'=>Own h' u 40 1 n xs∧Ext No h h'∧(∀ k,u.ownBlock=some k→h.size≤k):=by
 unfold reachBytes at hm
 cases A with
 | none =>
   have h0:n=0:=by
     apply Classical.byContradiction
     intro hn
     obtain ⟨b,o,e,_⟩:=Rd.at_ hr (by omega)
     cases e
   subst h0
   have hx:xs=[]:=List.eq_nil_of_length_eq_zero (by obtain ⟨_,_,_,_,hl,_⟩:=hr;simpa using hl)
   subst hx
   refine calls [(0,_)] Tryz.func291 rfl Tryz.ntmps291 rfl ⟨rfl,trivial⟩ ?_
   refine G2 ?_;refine G3 ?_;refine WL.step (cR Tryz.underlying271 rfl rfl) rfl rfl rfl ?_;refine Gn ?_
   refine aH 1 2 ?_ TT.mk
   all_goals (refine aw 1 ?_)
   refine G2 ?_;refine Gt ?_
   exact ⟨Own.nil _ _ _,.refl _ _,by simp [Value.ownBlock]⟩
 | some a =>
   refine calls [(0,_)] Tryz.func291 rfl Tryz.ntmps291 rfl ⟨rfl,trivial⟩ ?_
   refine G2 ?_;refine G3 ?_;refine WL.step (cR Tryz.underlying271 rfl rfl) rfl rfl rfl ?_;refine Gn ?_
   refine aH 1 2 ?_ TT.mk
   all_goals (refine aw 2 ?_)
   refine WC.skip ?_;refine Gn ?_;refine WC.sr ?_;refine WL.aj (au (vs:=[]) (cs:=[]) (fun _=>[]) Tryz.underlying271 rfl rfl (by kernel_rfl)) rfl rfl rfl ?_
   rintro _ h3 ⟨b1,rfl,bR,aR,az⟩
   refine Go ?_
   have qP:=hr.aq az
   refine WL.aj (aT (sz:=1) (bytes:=24) rfl Tryz.underlying271 (show Tryz.prog.info? 40=some Tryz.t40 by kernel_rfl) rfl rfl rfl rfl (by decide) rfl rfl (dE aR rfl (by simp [maxLen])) qP h1 (by simp only [maxLen];omega) (by omega)) rfl rfl rfl ?_
   rintro v2 h2 ⟨dc,aI,kO⟩
   refine Go ?_;refine Gs [(2,_)] ?_;refine Gt ?_
   exact ⟨by simpa using dc,az.trans' aI (fun k hk e=>by simp [Value.ownBlock] at e;omega),bU kO (fun k hk=>by simp [Value.ownBlock] at hk;omega) az.size⟩
theorem lS {h:ah} {A:Option Addr} {c:Nat} (l:List UInt8) (hr:Rd h (.slice A l.length c) 1 l.length (bA l)) (hm:l.length≤reachBytes) :
   ag Tryz.prog 74 ⟨[.slice A l.length c]⟩ h fun u h'=>Own h' u 5 1 l.length (bA l)∧Ext No h h'∧(∀ k,u.ownBlock=some k→h.size≤k):=by
 unfold reachBytes at hm
 cases A with
 | none =>
   have h0:l=[]:=by
     cases l with
     | nil=>rfl
     | cons a l=>obtain ⟨b,o,e,_⟩:=Rd.at_ hr (by simp);cases e
   subst h0
   refine calls [(0,_)] Tryz.func74 rfl Tryz.ntmps74 rfl ⟨rfl,trivial⟩ ?_
   refine G2 ?_;refine G3 ?_;refine WL.step (cR Tryz.underlying23 rfl rfl) rfl rfl rfl ?_;refine Gn ?_
   refine aH 1 2 ?_ TT.mk
   all_goals (refine aw 1 ?_)
   refine G2 ?_;refine Gt ?_
   exact ⟨Own.nil _ _ _,.refl _ _,by simp [Value.ownBlock]⟩
 | some a =>
   refine calls [(0,_)] Tryz.func74 rfl Tryz.ntmps74 rfl ⟨rfl,trivial⟩ ?_
   refine G2 ?_;refine G3 ?_;refine WL.step (cR Tryz.underlying23 rfl rfl) rfl rfl rfl ?_;refine Gn ?_
   refine aH 1 2 ?_ TT.mk
   all_goals (refine aw 2 ?_)
   refine WC.skip ?_;refine Gn ?_;refine WC.sr ?_;refine WL.aj (au (vs:=[]) (cs:=[]) (fun _=>[]) Tryz.underlying23 rfl rfl (by kernel_rfl)) rfl rfl rfl ?_
   rintro _ h3 ⟨b1,rfl,bR,aR,az⟩
   refine Go ?_
   have qP:=hr.aq az
   refine WL.aj (aT (sz:=1) (bytes:=1) rfl Tryz.underlying23 (show Tryz.prog.info? 5=some Tryz.t5 by kernel_rfl) rfl rfl rfl rfl (by decide) rfl rfl (dE aR rfl (by simp [maxLen])) qP (uW l) (by simp only [maxLen];omega) (by omega)) rfl rfl rfl ?_
   rintro v2 h2 ⟨dc,aI,kO⟩
   refine Go ?_;refine Gs [(2,_)] ?_;refine Gt ?_
   exact ⟨by simpa using dc,az.trans' aI (fun k hk e=>by simp [Value.ownBlock] at e;omega),bU kO (fun k hk=>by simp [Value.ownBlock] at hk;omega) az.size⟩
theorem rK {h:ah} {l:List aX} (hl:∀ c∈l,c.ok h):∀ v∈l.flatMap aX.cells,v.oneCell'=true:=by
 intro v hv
 obtain ⟨c,hc,hv⟩:=List.mem_flatMap.1 hv
 obtain ⟨_,_,e,_⟩:=(hl c hc).1
 simp only [aX.cells,List.mem_cons,List.not_mem_nil,or_false] at hv
 rcases hv with rfl | rfl
 · rfl
 · rw [e];rfl
theorem yH {out rest:List aX} {c:aX} {spare:List Value} {k o:Nat} (v:Value) (hk:out.length=k) (ho:o=0+k * 2+1) :
   ((out++c :: rest).flatMap aX.cells++spare).set o v=(out++[(⟨c.null,v,c.bytes⟩:aX)]++rest).flatMap aX.cells++spare:=by
 have hfl:(out.flatMap aX.cells).length=k * 2:=by rw [cK aX.len,hk]
 subst ho
 simp only [List.flatMap_append,List.flatMap_cons,List.append_assoc,List.flatMap_nil,List.append_nil,aX.cells,List.cons_append,List.nil_append]
 rw [List.set_append_right _ _ (by omega),hfl]
 have:0+k * 2+1 - k * 2=1:=by omega
 rw [this]
 rfl
theorem drop_cons {α:Type} {l:List α} {k:Nat} {x:α} (h:l[k]?=some x):l.drop k=x :: l.drop (k+1):=by
 rw [List.drop_eq_getElem?_toList_append,h]
 rfl
theorem pU {α:Type} {l out:List α} {k:Nat} {x:α} (h:l[k]?=some x) (hk:out.length=k):(out++l.drop k)[k]?=some x:=by
 subst hk
 rw [List.getElem?_append_right (Nat.le_refl _),List.getElem?_drop]
 simpa using h
structure pV (h2 h:ah) (b1:Nat) (l:List aX) (k:Nat) (out:List aX):Prop where
 le:k≤l.length
 len:out.length=k
 pl:out.map aX.pl=(l.take k).map aX.pl
 bm:∃ spare,h[b1]?=some (.cells ⟨(out++l.drop k).flatMap aX.cells++spare⟩ 85 (0,0))
 own:∀ q∈out,q.ok h∧∀ b,q.v.ownBlock=some b→h2.size≤b
 ext:Ext (fun b=>b=b1) h2 h
theorem pV.next {h2 h h3 h4:ah} {b1 k:Nat} {l out:List aX} {c:aX} {v:Value} {cs:List Value} (r:pV h2 h b1 l k out) (hc:l[k]?=some c) (x3:Ext No h h3) (o3:Own h3 v 5 1 c.bytes.length (bA c.bytes)) (f3:∀ b,v.ownBlock=some b→h.size≤b)
   (hcs:∀ spare,h3[b1]?=some (.cells ⟨(out++l.drop k).flatMap aX.cells++spare⟩ 85 (0,0))→cs=((out++l.drop k).flatMap aX.cells++spare).set (0+k * 2+1) v) (bC:h4[b1]?=some (.cells ⟨cs⟩ 85 (0,0))) (x4:Ext (fun b=>b=b1) h3 h4) (hb:b1 < h2.size) (hz:c.bytes.length≤reachBytes) :
   pV h2 h4 b1 l (k+1) (out++[⟨c.null,v,c.bytes⟩]):=by
 have s0:=r.ext.size
 have s3:=x3.size
 have hkl:k < l.length:=(List.getElem?_eq_some_iff.1 hc).1
 obtain ⟨spare,hblk⟩:=r.bm
 refine ⟨hkl,by simp [r.len],?_,⟨spare,?_⟩,fun q hq=>?_,(r.ext.trans' x3 fun _ _ e=>e.elim).trans x4⟩
 · rw [List.map_append,r.pl,List.take_add_one,hc,List.map_append]
   rfl
 · rw [bC,hcs spare (x3.obj hblk aO),drop_cons hc,yH v r.len rfl]
 · rcases List.mem_append.1 hq with hq | hq
   · obtain ⟨q1,q2⟩:=r.own q hq
     exact ⟨⟨(q1.1.aq x3).ext' x4 fun b _ e eb=>by have:=q2 b e;omega,q1.2⟩,q2⟩
   · simp only [List.mem_singleton] at hq
     subst hq
     exact ⟨⟨o3.rd.ext' x4 fun b _ e eb=>by have:=f3 b e;omega,hz⟩,fun b e=>by have:=f3 b e;omega⟩
theorem pV.done {h0 h2 h:ah} {b1 c1:Nat} {l out:List aX} (r:pV h2 h b1 l l.length out) (x2:Ext No h0 h2) (hg:h0.size≤b1) (hlt:b1 < h2.size) (hn:l.length≤c1) (hc:c1≤maxLen) (hl:l.length * 32≤reachBytes) :
   ∃ l',cF h (.slice (some ⟨b1,0,none⟩) l.length c1) l'∧l'.map aX.pl=l.map aX.pl∧Ext No h0 h∧∀ b,du (.slice (some ⟨b1,0,none⟩) l.length c1) l' b→h0.size≤b:=by
 obtain ⟨spare,hb⟩:=r.bm
 rw [List.drop_length,List.append_nil] at hb
 have s2:=x2.size
 have e:=r.len
 refine ⟨out,?_,by rw [r.pl,List.take_length],x2.trans' r.ext fun b hb e=>by omega,?_⟩
 · rw [← e]
   exact ⟨⟨_,_,rfl,by omega,cK aX.len out,fun _=>⟨b1,0,rfl,ai hb,(At.av hb).pre⟩⟩,⟨by omega,_,_,rfl,hc⟩,fun q hq=>(r.own q hq).1⟩
 · rintro b (⟨_,e⟩ | ⟨q,hq,_,e⟩)
   · simp only [Value.ownBlock,Option.some.injEq] at e;omega
   · have:=(r.own q hq).2 b e;omega
theorem rM {h:ah} {v:Value} (l:List aX) (hc:cF h v l) :
   ag Tryz.prog 279 ⟨[v]⟩ h fun u h'=>∃ l',cF h' u l'∧l'.map aX.pl=l.map aX.pl∧Ext No h h'∧∀ b,du u l' b→h.size≤b:=by
 obtain ⟨hr,⟨hlm,A,c,rfl,hcap⟩,hok⟩:=hc
 have hlm':=hlm
 unfold reachBytes at hlm'
 have h1:=rK hok
 by_cases h0:l=[]
 · subst h0
   refine calls [(0,_)] Tryz.func279 rfl Tryz.ntmps279 rfl ⟨rfl,trivial⟩ ?_
   refine G2 ?_;refine G2 ?_;refine WL.call (vs:=[_]) rfl Tryz.call294 rfl (fY hr h1 hlm) rfl rfl rfl ?_
   rintro v2 h2 ⟨dc,aI,eI⟩
   obtain ⟨A2,c2,rfl,kJ⟩:=dc.Ek
   refine Go ?_;refine Gs [(3,_)] ?_;refine G3 ?_;refine WC.block ?_;refine WC.bD (X:=Unit) (fun x=>([(9,In (0:Int))]:Fr)) [(3,_),(8,_)] (fun _ h'=>h'=h2) (fun _=>0) (()) ⟨rfl,rfl,rfl,trivial⟩ (by exact rfl) ?_
   rintro _ h9 hz
   subst h9
   refine WC.sub [(9,_),(3,_),(8,_)] ⟨rfl,rfl,rfl,trivial⟩ ?_;refine G2 ?_;refine WC.seq ?_
   refine aH 1 2 ?_ TT.mk
   all_goals (refine aw 2 ?_)
   refine WC.exit ?_
   repeat' (with_reducible first | refine aU ?_ | refine aD rfl ?_ | refine aJ ?_ | refine aL ?_ | refine aS ?_)
   refine Br.out (i:=1000) ?_;refine Gn ?_;refine Br.ab ?_;refine Br.ab ?_;refine Br.ab ?_;refine Go ?_;refine Br.ab ?_;refine Go ?_;refine Br.ab ?_;refine Go ?_;refine Br.ab ?_;refine Br.ab ?_;refine Br.ab ?_;refine Go ?_;refine Br.ab ?_;refine Gn ?_;refine Br.ab ?_;refine Br.ab ?_;refine Go ?_;refine Br.ab ?_
   try (refine Br.mk (i:=1000) ?_)
   refine Gn ?_;refine G2 ?_;refine Gs [(2,_)] ?_;refine Gt ?_
   exact ⟨[],⟨dc.rd,⟨by simp,_,_,rfl,kJ⟩,by simp⟩,rfl,aI,by rintro b (⟨e,_⟩ | ⟨_,e,_⟩);(simp at e);(simp at e)⟩
 · have hpos:0 < l.length:=List.length_pos_iff.2 h0
   refine calls [(0,_)] Tryz.func279 rfl Tryz.ntmps279 rfl ⟨rfl,trivial⟩ ?_
   refine G2 ?_;refine G2 ?_;refine WL.call (vs:=[_]) rfl Tryz.call294 rfl (fY hr h1 hlm) rfl rfl rfl ?_
   rintro v2 h2 ⟨dc,aI,eI⟩
   obtain ⟨b1,c1,cs,rfl,aR,hnc,hcm,hcl,hct⟩:=dc.block hpos
   have mf:=ai aR
   have bR:=eI b1 rfl
   have Hc:pV h2 h2 b1 l 0 []:=⟨Nat.zero_le _,rfl,rfl,⟨cs.drop (l.length * 2),by rw [List.nil_append,List.drop_zero,← hct,List.take_append_drop];exact aR⟩,by simp,.refl _ _⟩
   refine Go ?_;refine Gs [(3,_)] ?_;refine G3 ?_;refine WC.block ?_;refine WC.bD (X:=Nat × List aX) (fun x=>([(9,In (x.1:Int))]:Fr)) [(3,_),(8,_)] (fun x h'=>pV h2 h' b1 l x.1 x.2) (fun x=>l.length - x.1) ((0,[])) ⟨rfl,rfl,rfl,trivial⟩ (by exact Hc) ?_
   rintro ⟨k,out⟩ h3 ri
   simp only at ri
   have hk:=ri.le
   refine WC.sub [(9,_),(3,_),(8,_)] ⟨rfl,rfl,rfl,trivial⟩ ?_
   dsimp only
   refine G2 ?_;refine WC.seq ?_
   refine aH 1 2 (Hb.mk fun hb=>?_) (Hb.mk fun hb=>?_)
   all_goals try (
   refine aw 1 ?_
   refine WC.skip ?_
   skip)
   all_goals try (
   refine aw 2 ?_
   refine WC.exit ?_
   repeat' (with_reducible first | refine aU ?_ | refine aD rfl ?_ | refine aJ ?_ | refine aL ?_ | refine aS ?_)
   refine Br.out (i:=1000) ?_
   skip)
   all_goals (refine Gn ?_;first | refine Br.ab ?_ | refine WC.seq ?_)
   all_goals (first | refine Br.ab ?_ | refine WC.block ?_)
   all_goals (first | refine Br.ab ?_ | refine WC.sr ?_)
   all_goals (refine Go ?_)
   all_goals (
    first
      | (refine Br.ab ?_)
      | (obtain ⟨⟨n1,v1,s1⟩,fp⟩:∃ y,l[k]?=some y:=⟨_,List.getElem?_eq_getElem (by omega)⟩
         have tG:=ri.ext
         obtain ⟨spare,hblk⟩:=ri.bm
         obtain ⟨rA,hsl⟩:=hok _ (List.mem_of_getElem? fp)
         simp only at rA hsl
         obtain ⟨A1,k1,rfl,_⟩:=id rA
         have E3:Ext No h h3:=aI.trans' tG (fun b hb e=>by omega)
         have atb:At h3 b1 (0+k * 2) [.bool n1,.slice A1 s1.length k1]:=At.elem (xs:=out++l.drop k) aX.len ((At.av hblk).pre) (pU fp ri.len)))
   all_goals (first | refine Br.ab ?_ | refine WC.region ?_)
   all_goals (refine Go ?_;first | refine Br.ab ?_ | (refine WL.step (aE Tryz.underlying40 Tryz.sizeOf85 rfl rfl rfl (by omega) (by first | rfl | assumption)) rfl rfl rfl ?_))
   all_goals (refine Go ?_;first | refine Br.ab ?_ | (refine WL.ld rfl (by first | exact atb.get 1 rfl rfl | assumption) rfl rfl rfl ?_))
   all_goals (
    first
      | (refine Br.ab ?_)
      | (refine WL.call (vs:=[_]) rfl Tryz.call74 rfl (lS s1 (rA.aq E3) hsl) rfl rfl rfl ?_
         rintro v6 h6 ⟨gu,aN,iH⟩))
   all_goals (first | refine Br.ab ?_ | obtain ⟨A6,c6,rfl,_⟩:=gu.slice)
   all_goals (first | refine Br.ab ?_ | (refine WL.step (aE Tryz.underlying40 Tryz.sizeOf85 rfl rfl rfl (by omega) (by first | rfl | assumption)) rfl rfl rfl ?_))
   all_goals (refine Go ?_)
   all_goals (
    first
      | (refine Br.ab ?_)
      | (refine WL.ax (aB Tryz.sizeOf23 rfl rfl (aN.obj hblk aO) (by simp [cK aX.len,ri.len];omega) rfl rfl) rfl rfl ?_
         rintro _ h7 ⟨ca,ba⟩))
   all_goals (refine Gn ?_;first | refine Br.ab ?_ | refine Gs [(3,_),(8,_),(9,_)] ?_)
   all_goals (first | refine Br.ab ?_ | refine WC.region ?_)
   all_goals (refine Go ?_;first | refine Br.ab ?_ | (exact ⟨(k+1,out++[_]),⟨rfl,rfl,rfl,trivial⟩,(by exact ri.next fp aN gu iH (fun sp e=>by rw [aN.obj hblk aO] at e;simp only [Option.some.injEq,Obj.cells.injEq,Array.mk.injEq] at e;obtain rfl:=List.append_cancel_left e.1;rfl) ca ba mf hsl),(by simp;omega)⟩))
   try (refine Br.mk (i:=1000) ?_)
   refine Gn ?_;refine G2 ?_;refine Gs [(2,_)] ?_;refine Gt ?_
   obtain rfl:k=l.length:=by omega
   exact ri.done aI bR mf hnc hcm hlm
theorem EG {out rest:List Rw} {r:Rw} {spare:List Value} {k o:Nat} (u:Rw) (hk:out.length=k) (ho:o=0+k * 1) :
   ((out++r :: rest).map Rw.v++spare).set o u.v=(out++[u]++rest).map Rw.v++spare:=by
 have hfl:(out.map Rw.v).length=k:=by simp [hk]
 subst ho
 simp only [List.map_append,List.map_cons,List.append_assoc,List.map_nil,List.cons_append,List.nil_append]
 rw [List.set_append_right _ _ (by omega),hfl]
 have:0+k * 1 - k=0:=by omega
 rw [this]
 rfl
structure tJ (h2 h:ah) (b1:Nat) (L:List Rw) (k:Nat) (out:List Rw):Prop where
 le:k≤L.length
 len:out.length=k
 pl:out.map Rw.pl=(L.take k).map Rw.pl
 bm:∃ spare,h[b1]?=some (.cells ⟨(out++L.drop k).map Rw.v++spare⟩ 40 (0,0))
 own:∀ r∈out,cF h r.v r.l∧∀ b,du r.v r.l b→h2.size≤b
 ext:Ext (fun b=>b=b1) h2 h
theorem tJ.next {h2 h h3 h4:ah} {b1 k:Nat} {L out:List Rw} {r:Rw} {v:Value} {l':List aX} {cs:List Value} (i:tJ h2 h b1 L k out) (hc:L[k]?=some r) (x3:Ext No h h3) (c3:cF h3 v l') (p3:l'.map aX.pl=r.l.map aX.pl) (f3:∀ b,du v l' b→h.size≤b)
   (hcs:∀ spare,h3[b1]?=some (.cells ⟨(out++L.drop k).map Rw.v++spare⟩ 40 (0,0))→cs=((out++L.drop k).map Rw.v++spare).set (0+k * 1) v) (bC:h4[b1]?=some (.cells ⟨cs⟩ 40 (0,0))) (x4:Ext (fun b=>b=b1) h3 h4) (hb:b1 < h2.size) :
   tJ h2 h4 b1 L (k+1) (out++[⟨v,l'⟩]):=by
 have s0:=i.ext.size
 have s3:=x3.size
 have hkl:k < L.length:=(List.getElem?_eq_some_iff.1 hc).1
 obtain ⟨spare,hblk⟩:=i.bm
 refine ⟨hkl,by simp [i.len],?_,⟨spare,?_⟩,fun q hq=>?_,(i.ext.trans' x3 fun _ _ e=>e.elim).trans x4⟩
 · rw [List.map_append,i.pl,List.take_add_one,hc,List.map_append]
   simp [Rw.pl,p3]
 · rw [bC,hcs spare (x3.obj hblk aO),drop_cons hc,EG (⟨v,l'⟩:Rw) i.len rfl]
 · rcases List.mem_append.1 hq with hq | hq
   · obtain ⟨q1,q2⟩:=i.own q hq
     exact ⟨(q1.aq x3).ext x4 fun b e eb=>by have:=q2 b e;omega,q2⟩
   · simp only [List.mem_singleton] at hq
     subst hq
     exact ⟨c3.ext x4 fun b e eb=>by have:=f3 b e;omega,fun b e=>by have:=f3 b e;omega⟩
theorem tJ.done {h0 h2 h:ah} {b1 c1:Nat} {L out:List Rw} (r:tJ h2 h b1 L L.length out) (x2:Ext No h0 h2) (hg:h0.size≤b1) (hlt:b1 < h2.size) (hn:L.length≤c1) (hc:c1≤maxLen) (hl:L.length * 24≤reachBytes) :
   ∃ L',jL h (.slice (some ⟨b1,0,none⟩) L.length c1) L'∧L'.map Rw.pl=L.map Rw.pl∧Ext No h0 h∧∀ b,dH (.slice (some ⟨b1,0,none⟩) L.length c1) L' b→h0.size≤b:=by
 obtain ⟨spare,hb⟩:=r.bm
 rw [List.drop_length,List.append_nil] at hb
 have s2:=x2.size
 have e:=r.len
 refine ⟨out,?_,by rw [r.pl,List.take_length],x2.trans' r.ext fun b hb e=>by omega,?_⟩
 · rw [← e]
   exact ⟨⟨_,_,rfl,by omega,by simp,fun _=>⟨b1,0,rfl,ai hb,(At.av hb).pre⟩⟩,⟨by omega,_,_,rfl,hc⟩,fun q hq=>(r.own q hq).1⟩
 · rintro b (⟨_,e⟩ | ⟨q,hq,e⟩)
   · simp only [Value.ownBlock,Option.some.injEq] at e;omega
   · have:=(r.own q hq).2 b e;omega
theorem BU {h:ah} {L:List Rw} (hl:∀ r∈L,cF h r.v r.l):∀ v∈L.map Rw.v,v.oneCell'=true:=by
 intro v hv
 obtain ⟨r,hr,rfl⟩:=List.mem_map.1 hv
 obtain ⟨_,⟨_,_,_,e,_⟩,_⟩:=hl r hr
 rw [e];rfl
theorem mZ {h:ah} {v:Value} (L:List Rw) (hc:jL h v L) :
   ag Tryz.prog 257 ⟨[v]⟩ h fun u h'=>∃ L',jL h' u L'∧L'.map Rw.pl=L.map Rw.pl∧Ext No h h'∧∀ b,dH u L' b→h.size≤b:=by
 obtain ⟨hr,⟨hlm,A,c,rfl,hcap⟩,hok⟩:=hc
 have hlm':=hlm
 unfold reachBytes at hlm'
 have h1:=BU hok
 by_cases h0:L=[]
 · subst h0
   refine calls [(0,_)] Tryz.func257 rfl Tryz.ntmps257 rfl ⟨rfl,trivial⟩ ?_
   refine G2 ?_;refine G2 ?_;refine WL.call (vs:=[_]) rfl Tryz.call291 rfl (mY hr h1 hlm) rfl rfl rfl ?_
   rintro v2 h2 ⟨dc,aI,eI⟩
   obtain ⟨A2,c2,rfl,kJ⟩:=dc.Ek
   refine Go ?_;refine Gs [(3,_)] ?_;refine G3 ?_;refine WC.block ?_;refine WC.bD (X:=Unit) (fun x=>([(9,In (0:Int))]:Fr)) [(3,_),(8,_)] (fun _ h'=>h'=h2) (fun _=>0) (()) ⟨rfl,rfl,rfl,trivial⟩ (by exact rfl) ?_
   rintro _ h9 hz
   subst h9
   refine WC.sub [(9,_),(3,_),(8,_)] ⟨rfl,rfl,rfl,trivial⟩ ?_;refine G2 ?_;refine WC.seq ?_
   refine aH 1 2 ?_ TT.mk
   all_goals (refine aw 2 ?_)
   refine WC.exit ?_
   repeat' (with_reducible first | refine aU ?_ | refine aD rfl ?_ | refine aJ ?_ | refine aL ?_ | refine aS ?_)
   refine Br.out (i:=1000) ?_;refine Gn ?_;refine Br.ab ?_;refine Br.ab ?_;refine Br.ab ?_;refine Go ?_;refine Br.ab ?_;refine Go ?_;refine Br.ab ?_;refine Br.ab ?_;refine Br.ab ?_;refine Br.ab ?_;refine Br.ab ?_;refine Gn ?_;refine Br.ab ?_;refine Br.ab ?_;refine Go ?_;refine Br.ab ?_
   try (refine Br.mk (i:=1000) ?_)
   refine Gn ?_;refine G2 ?_;refine Gs [(2,_)] ?_;refine Gt ?_
   exact ⟨[],⟨dc.rd,⟨by simp,_,_,rfl,kJ⟩,by simp⟩,rfl,aI,by rintro b (⟨e,_⟩ | ⟨_,e,_⟩);(simp at e);(simp at e)⟩
 · have hpos:0 < L.length:=List.length_pos_iff.2 h0
   refine calls [(0,_)] Tryz.func257 rfl Tryz.ntmps257 rfl ⟨rfl,trivial⟩ ?_
   refine G2 ?_;refine G2 ?_;refine WL.call (vs:=[_]) rfl Tryz.call291 rfl (mY hr h1 hlm) rfl rfl rfl ?_
   rintro v2 h2 ⟨dc,aI,eI⟩
   obtain ⟨b1,c1,cs,rfl,aR,hnc,hcm,hcl,hct⟩:=dc.block hpos
   have mf:=ai aR
   have bR:=eI b1 rfl
   have Hc:tJ h2 h2 b1 L 0 []:=⟨Nat.zero_le _,rfl,rfl,⟨cs.drop (L.length * 1),by rw [List.nil_append,List.drop_zero,← hct,List.take_append_drop];exact aR⟩,by simp,.refl _ _⟩
   refine Go ?_;refine Gs [(3,_)] ?_;refine G3 ?_;refine WC.block ?_;refine WC.bD (X:=Nat × List Rw) (fun x=>([(9,In (x.1:Int))]:Fr)) [(3,_),(8,_)] (fun x h'=>tJ h2 h' b1 L x.1 x.2) (fun x=>L.length - x.1) ((0,[])) ⟨rfl,rfl,rfl,trivial⟩ (by exact Hc) ?_
   rintro ⟨k,out⟩ h3 ri
   simp only at ri
   have hk:=ri.le
   refine WC.sub [(9,_),(3,_),(8,_)] ⟨rfl,rfl,rfl,trivial⟩ ?_
   dsimp only
   refine G2 ?_;refine WC.seq ?_
   refine aH 1 2 (Hb.mk fun hb=>?_) (Hb.mk fun hb=>?_)
   all_goals try (
   refine aw 1 ?_
   refine WC.skip ?_
   skip)
   all_goals try (
   refine aw 2 ?_
   refine WC.exit ?_
   repeat' (with_reducible first | refine aU ?_ | refine aD rfl ?_ | refine aJ ?_ | refine aL ?_ | refine aS ?_)
   refine Br.out (i:=1000) ?_
   skip)
   all_goals (refine Gn ?_;first | refine Br.ab ?_ | refine WC.seq ?_)
   all_goals (first | refine Br.ab ?_ | refine WC.block ?_)
   all_goals (first | refine Br.ab ?_ | refine WC.sr ?_)
   all_goals (refine Go ?_)
   all_goals (
    first
      | (refine Br.ab ?_)
      | (obtain ⟨⟨v1,l1⟩,fp⟩:∃ y,L[k]?=some y:=⟨_,List.getElem?_eq_getElem (by omega)⟩
         have tG:=ri.ext
         obtain ⟨spare,hblk⟩:=ri.bm
         have rA:=hok _ (List.mem_of_getElem? fp)
         simp only at rA
         have E3:Ext No h h3:=aI.trans' tG (fun b hb e=>by omega)
         have atb:cell h3 ⟨b1,0+k * 1,none⟩=some v1:=((At.av hblk).pre).get k (by rw [List.getElem?_map,pU fp ri.len];exact rfl) (by omega)))
   all_goals (first | refine Br.ab ?_ | refine WC.region ?_)
   all_goals (refine Go ?_;first | refine Br.ab ?_ | (refine WL.step (aE Tryz.underlying271 Tryz.sizeOf40 rfl rfl rfl (by omega) (by first | rfl | assumption)) rfl rfl rfl ?_))
   all_goals (first | refine Br.ab ?_ | (refine WL.ld rfl (by first | exact atb | assumption) rfl rfl rfl ?_))
   all_goals (
    first
      | (refine Br.ab ?_)
      | (refine WL.call (vs:=[_]) rfl Tryz.call279 rfl (rM l1 (rA.aq E3)) rfl rfl rfl ?_
         rintro v6 h6 ⟨l6,EH,Hd,aN,iH⟩))
   all_goals (first | refine Br.ab ?_ | (obtain ⟨A6,c6,rfl⟩:∃ A c,v6=.slice A l6.length c:=(by obtain ⟨_,⟨_,A,c,e,_⟩,_⟩:=EH;exact ⟨A,c,e⟩)))
   all_goals (first | refine Br.ab ?_ | (refine WL.step (aE Tryz.underlying271 Tryz.sizeOf40 rfl rfl rfl (by omega) (by first | rfl | assumption)) rfl rfl rfl ?_))
   all_goals (
    first
      | (refine Br.ab ?_)
      | (refine WL.ax (aB Tryz.sizeOf40 rfl rfl (aN.obj hblk aO) (by simp [ri.len];omega) rfl rfl) rfl rfl ?_
         rintro _ h7 ⟨ca,ba⟩))
   all_goals (refine Gn ?_;first | refine Br.ab ?_ | refine Gs [(3,_),(8,_),(9,_)] ?_)
   all_goals (first | refine Br.ab ?_ | refine WC.region ?_)
   all_goals (refine Go ?_;first | refine Br.ab ?_ | (exact ⟨(k+1,out++[_]),⟨rfl,rfl,rfl,trivial⟩,(by exact ri.next fp aN EH Hd iH (fun sp e=>by rw [aN.obj hblk aO] at e;simp only [Option.some.injEq,Obj.cells.injEq,Array.mk.injEq] at e;obtain rfl:=List.append_cancel_left e.1;rfl) ca ba mf),(by simp;omega)⟩))
   try (refine Br.mk (i:=1000) ?_)
   refine Gn ?_;refine G2 ?_;refine Gs [(2,_)] ?_;refine Gt ?_
   obtain rfl:k=L.length:=by omega
   exact ri.done aI bR mf hnc hcm hlm
structure PD where
 text:List UInt8
 vo:Value
 oids:List Int
 vp:Value
 ps:List aX
 vr:Value
 rs:List Rw
 ran:Bool
 over:Bool
def PD.cells (p:PD):List Value:=[St p.text,p.vo,p.vp,p.vr,.bool p.ran,.bool p.over]
structure PD.ok (h:ah) (p:PD):Prop where
 oids:Rd h p.vo 1 p.oids.length (ints p.oids)
 lo:p.oids.length * 8≤reachBytes
 ps:cF h p.vp p.ps
 rs:jL h p.vr p.rs
def PD.F (p:PD) (b:Nat):Prop:=(0 < p.oids.length∧p.vo.ownBlock=some b)∨du p.vp p.ps b∨dH p.vr p.rs b
def PD.pl (p:PD):=(p.text,p.oids,p.ps.map aX.pl,p.rs.map Rw.pl,p.ran,p.over)
theorem PD.ok.ext {h h':ah} {S:Nat→Prop} {p:PD} (k:p.ok h) (a:Ext S h h') (hS:∀ b,p.F b→¬ S b):p.ok h' :=
 ⟨k.oids.ext' a fun b h1 h2=>hS b (.inl ⟨h1,h2⟩),k.lo,k.ps.ext a fun b hb=>hS b (.inr (.inl hb)),k.rs.ext a fun b hb=>hS b (.inr (.inr hb))⟩
theorem PD.ok.lt {h:ah} {p:PD} {b:Nat} (k:p.ok h) (hb:p.F b):b < h.size:=by
 rcases hb with ⟨h1,h2⟩ | hb | hb
 · exact k.oids.lt h1 h2
 · exact k.ps.lt hb
 · exact k.rs.lt hb
theorem BV {h h1 h2 h3 h4 h5 h6 h7 h8 h9:ah} {b1 b2 c3:Nat} {A3:Option Addr} {text:List UInt8} {oids:List Int} {ps l5:List aX} {rs L6:List Rw} {v5 v6:Value} {ran over:Bool} {T0:TypeId}
   (MB:h9[b2]?=some (.cells ⟨[St text,.slice A3 oids.length c3,v5,v6,.bool ran,.bool over]⟩ T0 (0,0)))
   (aQ:Ext No h2 h3) (aW:Ext (fun k=>k=b1) h3 h4) (aM:Ext No h4 h5) (aN:Ext No h5 h6) (ba:Ext (fun k=>k=b1) h6 h7) (bz:Ext (fun k=>k=b1) h7 h8) (bZ:Ext (fun k=>k=b2) h8 h9) (E4:Ext No h h4)
   (dN:Own h3 (.slice A3 oids.length c3) 3 1 oids.length (ints oids)) (gS:∀ k,(Value.slice A3 oids.length c3).ownBlock=some k→h2.size≤k) (hlo:oids.length * 8≤reachBytes)
   (IZ:cF h5 v5 l5) (JD:l5.map aX.pl=ps.map aX.pl) (fO:∀ b,du v5 l5 b→h4.size≤b) (EH:jL h6 v6 L6) (Hd:L6.map Rw.pl=rs.map Rw.pl) (iH:∀ b,dH v6 L6 b→h5.size≤b)
   (mf:b1 < h1.size) (He:b2 < h2.size) (bR:h.size≤b1) (gg:h1.size≤b2) (qS:h1.size≤h2.size) :
   ∃ p':PD,Value.agg ⟨[St text,.slice A3 oids.length c3,v5,v6,.bool ran,.bool over]⟩=.agg ⟨p'.cells⟩∧p'.ok h9∧p'.pl=(text,oids,ps.map aX.pl,rs.map Rw.pl,ran,over)∧Ext No h h9∧∀ b,p'.F b→h.size≤b:=by
 have s3:=aQ.size
 have s4:=aW.size
 have s5:=aM.size
 have Lk:Ext (fun b=>b=b1∨b=b2) h6 h9:=((ba.mono fun _ _ e=>.inl e).trans (bz.mono fun _ _ e=>.inl e)).trans (bZ.mono fun _ _ e=>.inr e)
 have JE:Ext (fun b=>b=b1∨b=b2) h5 h9:=(aN.mono fun _ _ e=>e.elim).trans Lk
 have MC:Ext (fun b=>b=b1∨b=b2) h3 h9:=((aW.mono fun _ _ e=>.inl e).trans (aM.mono fun _ _ e=>e.elim)).trans JE
 have MD:Ext (fun b=>b=b1∨b=b2) h4 h9:=(aM.mono fun _ _ e=>e.elim).trans JE
 refine ⟨⟨text,.slice A3 oids.length c3,oids,v5,l5,v6,L6,ran,over⟩,rfl,⟨?_,hlo,?_,?_⟩,by simp [PD.pl,JD,Hd],E4.trans' MD fun b hb e=>by omega,?_⟩
 · exact dN.rd.ext' MC fun b _ e eb=>by have:=gS b e;omega
 · exact IZ.ext JE fun b e eb=>by have:=fO b e;omega
 · exact EH.ext Lk fun b e eb=>by have:=iH b e;omega
 · rintro b (⟨_,e⟩ | e | e)
   · have:=gS b e;omega
   · have:=fO b e;omega
   · have:=iH b e;omega
theorem rN {h:ah} (p:PD) (hp:p.ok h) :
   ag Tryz.prog 248 ⟨[.agg ⟨p.cells⟩]⟩ h fun u h'=>∃ p':PD,u=.agg ⟨p'.cells⟩∧p'.ok h'∧p'.pl=p.pl∧Ext No h h'∧∀ b,p'.F b→h.size≤b:=by
 obtain ⟨text,vo,oids,vp,ps,vr,rs,ran,over⟩:=p
 obtain ⟨ho,hlo,hps,hrs⟩:=hp
 simp only at ho hlo hps hrs
 obtain ⟨Ao,co,rfl,_⟩:=id ho
 obtain ⟨_,⟨_,Ap,cp,rfl,_⟩,_⟩:=id hps
 obtain ⟨_,⟨_,Ar,cr,rfl,_⟩,_⟩:=id hrs
 dsimp only [PD.cells]
 refine calls [(0,_)] Tryz.func248 rfl Tryz.ntmps248 rfl ⟨rfl,trivial⟩ ?_
 refine WC.sr ?_;refine WL.aj (aG rfl) rfl rfl rfl ?_
 rintro _ h1 ⟨b1,rfl,bR,aR,az⟩
 refine WL.aj (an (fun w=>Tryz.zeroValue273 w)) rfl rfl rfl ?_
 rintro _ h2 ⟨b2,rfl,gg,bH,aI⟩
 have rv:=aI.obj aR aO
 have mf:=ai aR
 have ey:=az.trans aI
 refine Gn ?_;refine G2 ?_;refine Ld ?_;refine WL.call (vs:=[_]) rfl Tryz.call206 rfl (gU oids (ho.aq ey) hlo) rfl rfl rfl ?_
 rintro v3 h3 ⟨dN,aQ,gS⟩
 obtain ⟨A3,c3,rfl,_⟩:=dN.slice
 have cw:=aQ.obj rv aO
 refine Go ?_;refine WL.ax (aB Tryz.sizeOf39 rfl rfl cw (Nat.le_of_ble_eq_true rfl) rfl rfl) rfl rfl ?_
 rintro _ h4 ⟨bJ,aW⟩
 have bJ:h4[b1]?=some (.cells ⟨[St text,.slice A3 oids.length c3,.slice Ap ps.length cp,.slice Ar rs.length cr,.bool ran,.bool over]⟩ 273 (0,0)):=bJ
 have E4:Ext No h h4:=(ey.trans aQ).trans' aW (fun b hb e=>by omega)
 refine Gn ?_;refine Gs [(1,_),(2,_)] ?_;refine WC.seq ?_;refine WC.bW (fun h'=>h'[b1]?=some (.cells ⟨[St text,.slice A3 oids.length c3,.slice Ap ps.length cp,.slice Ar rs.length cr,.bool ran,.bool over]⟩ 273 (0,0))) 7 10 rfl dm ?_
 refine WH.tk 0 rfl (fun hq hC=>ad rfl Tryz.underlying273 rfl Tryz.sizeOf40) rfl rfl rfl ?_
 refine WH.tk 1 rfl (fun hq hC=>aA Tryz.isAgg40 rfl (aa hC rfl)) rfl rfl rfl ?_
 refine WH.tk 3 rfl (fun hq hC=>ad rfl Tryz.underlying273 rfl Tryz.sizeOf271) rfl rfl rfl ?_
 refine WH.tk 4 rfl (fun hq hC=>aA Tryz.isAgg271 rfl (aa hC rfl)) rfl rfl rfl ?_
 refine WH.one 2 (by kernel_rfl) ?_
 refine aC.call (vs:=[_]) rfl rfl Tryz.call279 rfl (rM ps (hps.aq E4)) rfl rfl rfl ?_ (fun _=>by kernel_rfl)
 rintro v5 h5 ⟨l5,IZ,JD,aM,fO⟩
 refine ⟨fun _=>aM.obj bJ aO,?_⟩
 have db:=aM.obj bJ aO
 obtain ⟨A5,c5,rfl⟩:∃ A c,v5=.slice A l5.length c:=(by obtain ⟨_,⟨_,A,c,e,_⟩,_⟩:=IZ;exact ⟨A,c,e⟩)
 refine WH.tk 6 rfl (fun hq hC=>ad rfl Tryz.underlying273 rfl Tryz.sizeOf40) rfl rfl rfl ?_
 refine WH.one 5 (by kernel_rfl) ?_
 refine aC.call (vs:=[_]) rfl rfl Tryz.call257 rfl (mZ rs (hrs.aq (E4.trans aM))) rfl rfl rfl ?_ (fun _=>by kernel_rfl)
 rintro v6 h6 ⟨L6,EH,Hd,aN,iH⟩
 refine ⟨fun _=>aN.obj db aO,?_⟩
 have dx:=aN.obj db aO
 obtain ⟨A6,c6,rfl⟩:∃ A c,v6=.slice A L6.length c:=(by obtain ⟨_,⟨_,A,c,e,_⟩,_⟩:=EH;exact ⟨A,c,e⟩)
 refine WH.one 7 (by kernel_rfl) ?_
 refine aC.cO rfl (aB Tryz.sizeOf40 rfl rfl dx (Nat.le_of_ble_eq_true rfl) rfl rfl) rfl rfl ?_ (fun _=>by kernel_rfl)
 rintro _ h7 ⟨kV,ba⟩
 refine ⟨fun e=>(by cases e),?_⟩
 refine WH.one 8 (by kernel_rfl) ?_
 refine aC.run rfl (bN.r (ad rfl Tryz.underlying273 rfl Tryz.sizeOf271)) rfl rfl rfl ?_ (fun _=>by kernel_rfl)
 rintro _ hz ⟨rfl,_⟩
 subst hz
 refine ⟨fun e=>(by cases e),?_⟩
 refine WH.one 9 (by kernel_rfl) ?_
 refine aC.cO rfl (aB Tryz.sizeOf271 rfl rfl kV (Nat.le_of_ble_eq_true rfl) rfl rfl) rfl rfl ?_ (fun _=>by kernel_rfl)
 rintro _ h8 ⟨fQ,bz⟩
 refine ⟨fun e=>(by cases e),?_⟩
 have He:=ai bH
 have EI:b2 ≠ b1:=by omega
 have JF:=bz.obj (ba.obj (aN.obj (aM.obj (aW.obj (aQ.obj bH aO) EI) aO) aO) EI) EI
 refine WH.done (by kernel_rfl) ?_
 refine Gn ?_;refine Gs [(1,_),(2,_)] ?_;refine WC.sr ?_;refine WL.step (ay Tryz.isAgg273 Tryz.sizeOf273 rfl rfl (by exact At.av fQ)) rfl rfl rfl ?_
 refine WL.ax (al Tryz.sizeOf273 rfl rfl rfl JF rfl (by simp [Value.oneCell'])) rfl rfl ?_
 rintro _ h9 ⟨bY,bZ⟩
 refine Gn ?_;refine WC.ret ?_
 repeat' (with_reducible first | refine aZ ?_ | refine aV ?_)
 refine cm _ ⟨⟨_,rfl,bB Tryz.isAgg273 Tryz.sizeOf273 (by assumption) rfl⟩,trivial⟩ ?_
 exact BV (text:=text) (ran:=ran) (over:=over) bY aQ aW aM aN ba bz bZ E4 dN gS hlo IZ JD fO EH Hd iH mf He bR gg aI.size
theorem yI {h:ah}:ag Tryz.prog 84 ⟨[]⟩ h fun u h'=>∃ b m,u=.pointer (some ⟨b,0,none⟩)∧h'[b]?=some (.cells ⟨[.map (some m)]⟩ 189 (0,0))∧Mp .string St h' m ([]:List (List UInt8 × Value))∧h.size≤b∧h.size≤m∧Ext No h h':=by
 refine calls [] Tryz.func84 rfl Tryz.ntmps84 rfl trivial ?_
 refine G2 ?_;refine WC.sr ?_;refine WL.aj iz rfl rfl rfl ?_
 rintro _ h1 ⟨m1,rfl,hgm,Bn,hxm⟩
 refine WL.step (aF (vs:=[_]) (cs:=[_]) (fun | [a0]=>[a0] | _=>[]) rfl rfl (by kernel_rfl)) rfl rfl rfl ?_
 refine WL.aj (aG rfl) rfl rfl rfl ?_
 rintro _ h2 ⟨b1,rfl,bR,aR,az⟩
 refine Go ?_;refine Gt ?_
 exact ⟨_,_,rfl,aR,⟨_,_,az.obj Bn id,MapKept.stamped_empty 0,rfl⟩,Nat.le_trans hxm.size bR,hgm,hxm.trans az⟩
structure P1 (h:ah) (b m p:Nat) (name:List UInt8) (d:PD):Prop where
 set:h[b]?=some (.cells ⟨[.map (some m)]⟩ 189 (0,0))
 map:Mp .string St h m [(name,.pointer (some ⟨p,0,none⟩))]
 bm:h[p]?=some (.cells ⟨d.cells⟩ 273 (0,0))
 ok:d.ok h
 apart:∀ k,d.F k→k ≠ p
theorem eQ {h:ah} {d:PD} (k:d.ok h):∀ v∈d.cells,v.oneCell'=true:=by
 obtain ⟨_,_,e1,_⟩:=k.oids
 obtain ⟨_,⟨_,_,_,e2,_⟩,_⟩:=k.ps
 obtain ⟨_,⟨_,_,_,e3,_⟩,_⟩:=k.rs
 intro v hv
 simp only [PD.cells,List.mem_cons,List.not_mem_nil,or_false] at hv
 rcases hv with rfl | rfl | rfl | rfl | rfl | rfl
 · rfl
 · rw [e1];rfl
 · rw [e2];rfl
 · rw [e3];rfl
 · rfl
 · rfl
theorem BW {h:ah} {A:Option Addr} {n c sz:Nat} {xs:List Value} (r:Rd h (.slice A n c) sz n xs):Rd h (.slice A n n) sz n xs:=by
 obtain ⟨A',c',e,_,hl,hp⟩:=r
 simp only [Value.slice.injEq] at e
 obtain ⟨rfl,_,rfl⟩:=e
 exact ⟨A,n,rfl,Nat.le_refl _,hl,hp⟩
theorem yJ {h:ah} {A:Option Addr} {c n:Nat} {L:List Rw} (r:jL h (.slice A L.length c) L) (hn:n≤L.length):jL h (.slice A n n) (L.take n)∧∀ k,dH (.slice A n n) (L.take n) k→dH (.slice A L.length c) L k:=by
 obtain ⟨r1,⟨r2,A',c',e,hc⟩,r3⟩:=r
 simp only [Value.slice.injEq] at e
 obtain ⟨rfl,_,rfl⟩:=e
 have hl:(L.take n).length=n:=by rw [List.length_take];omega
 have hcn:c ≥ L.length:=by
   obtain ⟨_,_,e,hc,_⟩:=r1
   simp only [Value.slice.injEq] at e
   omega
 refine ⟨⟨?_,⟨by rw [hl];omega,_,_,by rw [hl],by omega⟩,fun q hq=>r3 q (List.mem_of_mem_take hq)⟩,?_⟩
 · have:=BW (r1.take hn)
   rw [Nat.mul_one,← List.map_take] at this
   rw [hl]
   exact this
 · rintro k (⟨h1,h2⟩ | ⟨q,hq,h2⟩)
   · refine .inl ⟨by omega,?_⟩
     cases A with
     | none=>cases h2
     | some a=>exact h2
   · exact .inr ⟨q,List.mem_of_mem_take hq,h2⟩
theorem yK {h:ah} {A:Option Addr} {c n:Nat} {L:List Rw} (r:jL h (.slice A L.length c) L) (hn:n≤L.length):jL h (.slice (if c=n then A else A.map (·.add (n * 1))) (L.length - n) (c - n)) (L.drop n)∧∀ k,dH (.slice (if c=n then A else A.map (·.add (n * 1))) (L.length - n) (c - n)) (L.drop n) k→dH (.slice A L.length c) L k:=by
 obtain ⟨r1,⟨r2,A',c',e,hc⟩,r3⟩:=r
 simp only [Value.slice.injEq] at e
 obtain ⟨rfl,_,rfl⟩:=e
 have hl:(L.drop n).length=L.length - n:=List.length_drop
 refine ⟨⟨?_,⟨by rw [hl];omega,_,_,by rw [hl],by omega⟩,fun q hq=>r3 q (List.mem_of_mem_drop hq)⟩,?_⟩
 · have:=r1.drop hn
   rw [Nat.mul_one,← List.map_drop] at this
   rw [hl]
   simpa using this
 · rintro k (⟨h1,h2⟩ | ⟨q,hq,h2⟩)
   · refine .inl ⟨by omega,?_⟩
     obtain ⟨_,_,e,hcn,_⟩:=r1
     simp only [Value.slice.injEq] at e
     rw [if_neg (by omega)] at h2
     cases A with
     | none=>cases h2
     | some a =>
       simp only [Option.map_some,Value.ownBlock,Option.some.injEq] at h2 ⊢
       rw [← h2]
       unfold Addr.add
       split <;> rfl
   · exact .inr ⟨q,List.mem_of_mem_drop hq,h2⟩
def EJ:PD:=⟨[],.slice none 0 0,[],.slice none 0 0,[],.slice none 0 0,[],false,false⟩
theorem gv (h:ah) (A:Option Addr):cF h (.slice A 0 0) []:=⟨⟨_,_,rfl,Nat.le_refl _,rfl,fun h=>absurd h (by decide)⟩,⟨by simp,_,_,rfl,by decide⟩,by simp⟩
theorem EK (h:ah):EJ.ok h:=⟨Rd.nil _ _,by simp [EJ],gv h _,⟨Rd.nil _ _,⟨by simp [EJ],_,_,rfl,by decide⟩,by simp [EJ]⟩⟩
end Go.Proofs.YtopgddfgefnmbaaGreatDoor
namespace Go.RK
open Go
section
variable {h:ah}
theorem Own.holds {α:Type} [Inhabited α] (enc:α→Value) {w:World} {g n cap:Nat} {e:TypeId} {l:List α} (ho:Own w.heap (.slice (some ⟨g,0,none⟩) n cap) e 1 n (l.map enc)):Go.Sort.Holds enc w g 0 l.toArray:=by
 obtain ⟨hl,⟨hv,_⟩ | ⟨g0,ME,cur,hv,hg,hn,hc,hs,htk⟩⟩:=ho
 · cases hv
 · simp only [Value.slice.injEq,Option.some.injEq,Addr.mk.injEq] at hv
   obtain ⟨⟨rfl,_,_⟩,_,rfl⟩:=hv
   intro j hj
   have hj':j < l.length:=by simpa using hj
   refine ⟨?_,?_⟩
   · rw [mn,cell_of hg,Nat.zero_add]
     have e1:(cur.toList.take (n * 1))[j]?=(l.map enc)[j]?:=by rw [htk]
     have e2:j < n * 1:=by
       have:=congrArg List.length htk
       simp at this hl
       omega
     rw [List.getElem?_take,if_pos e2,List.getElem?_map,List.getElem?_eq_getElem hj'] at e1
     rw [← Array.getElem?_toList,e1]
     simp [hj']
   · unfold World.frozen?
     simp only [hg]
     simp
end
end Go.RK
namespace Go.Proofs.YtopgddfgefnmbaaGreatDoor
open Go Go.RK
structure Pe (h:ah) (b m:Nat) (es:List (List UInt8 × Value)) (p:Nat) (name:List UInt8) (d:PD):Prop where
 set:h[b]?=some (.cells ⟨[.map (some m)]⟩ 189 (0,0))
 map:Mp .string St h m es
 look:cT es name=some (.pointer (some ⟨p,0,none⟩))
 bm:h[p]?=some (.cells ⟨d.cells⟩ 273 (0,0))
 ok:d.ok h
 apart:∀ k,d.F k→k ≠ p
theorem Pe.ne {es:List (List UInt8 × Value)} {h:ah} {b m p:Nat} {name:List UInt8} {d:PD} (r:Pe h b m es p name d):b ≠ p∧m ≠ p:=by
 constructor
 · rintro rfl
   have:=r.set
   rw [r.bm] at this
   simp only [Option.some.injEq,Obj.cells.injEq] at this
   exact absurd this.2.1 (by decide)
 · rintro rfl
   obtain ⟨_,_,e,_⟩:=r.map
   rw [r.bm] at e
   cases e
theorem tK {es:List (List UInt8 × Value)} {h:ah} {b m p:Nat} {name:List UInt8} {d:PD} (r:Pe h b m es p name d) :
   ag Tryz.prog 256 ⟨[.pointer (some ⟨b,0,none⟩),St name]⟩ h fun u h'=>u=.tuple ⟨[.pointer (some ⟨p,0,none⟩),.bool true]⟩∧h'=h:=by
 obtain ⟨hb,hm,hv,_⟩:=r
 refine calls [(0,_),(1,_)] Tryz.func256 rfl Tryz.ntmps256 rfl ⟨rfl,rfl,trivial⟩ ?_
 refine G2 ?_;refine G3 ?_;refine WL.step (fz Tryz.underlying150 rfl rfl) rfl rfl rfl (Go ?_)
 refine bK 10 ?_ TT.mk
 refine Gg ?_;refine WL.step (ae rfl) rfl rfl rfl ?_;refine Gg ?_;refine Ld ?_;refine WL.step (jV Tryz.underlying187 rfl rfl) rfl rfl rfl (Go ?_);refine Gs [(0,_),(1,_),(16,_)] ?_
 refine aH 1 2 ?_ TT.mk
 all_goals (refine aw 2 ?_)
 refine WC.skip ?_;refine Gn ?_;refine G2 ?_;refine WL.step (ae rfl) rfl rfl rfl (Go ?_);refine Ld ?_;refine Go ?_;refine WL.step ((gn fB Tryz.underlying187 Tryz.underlying9 rfl rfl (by assumption) (by assumption)).1) rfl rfl rfl (Go ?_)
 refine Gs [(6,_),(7,_)] ?_;refine G2 ?_;refine Gs [(4,_),(5,_)] ?_;refine Gt ?_
 exact ⟨rfl,rfl⟩
theorem Hf {es:List (List UInt8 × Value)} {h:ah} {b m p:Nat} {name:List UInt8} {d:PD} {v:Value} (r:Pe h b m es p name d) (L:List Rw) (hd:d.ran=false) (hL:jL h v L) :
   ag Tryz.prog 216 ⟨[.pointer (some ⟨b,0,none⟩),St name,v]⟩ h fun u h'=>u=.bool true∧∃ v' L',Pe h' b m es p name { d with vr:=v',rs:=L',ran:=true }∧L'.map Rw.pl=L.map Rw.pl∧(∀ k,dH v' L' k→h.size≤k)∧Ext (fun k=>k=p) h h':=by
 have hne:=r.ne
 have hdF:=r.apart
 have hof:=tK r
 obtain ⟨hb,hm,hlk,hp,hok,_⟩:=r
 have hpl:=ai hp
 obtain ⟨text,vo,oids,vp,ps,vr,rs,ran,over⟩:=d
 simp only at hd
 subst hd
 dsimp only [PD.cells] at hp
 refine calls [(0,_),(1,_),(2,_)] Tryz.func216 rfl Tryz.ntmps216 rfl ⟨rfl,rfl,rfl,trivial⟩ ?_
 refine G2 ?_;refine G2 ?_;refine WL.call (vs:=[_,_]) rfl Tryz.call256 rfl (hof) rfl rfl rfl ?_
 rintro _ hz ⟨rfl,_⟩
 subst hz
 refine Go ?_;refine Gs [(2,_),(7,_),(8,_)] ?_;refine G3 ?_
 refine bK 17 ?_ TT.mk
 refine Gg ?_;refine WL.step (ae rfl) rfl rfl rfl ?_;refine Gg ?_;refine Ld ?_;refine Go ?_;refine Gs [(2,_),(7,_),(22,_)] ?_
 refine aH 1 2 ?_ TT.mk
 all_goals (refine aw 2 ?_)
 refine WC.skip ?_;refine Gn ?_;refine G2 ?_;refine WL.call (vs:=[_]) rfl Tryz.call257 rfl (mZ L hL) rfl rfl rfl ?_
 rintro v2 h2 ⟨L2,Ll,Hg,aI,eI⟩
 obtain ⟨A2,c2,rfl⟩:∃ A c,v2=.slice A L2.length c:=(by obtain ⟨_,⟨_,A,c,e,_⟩,_⟩:=Ll;exact ⟨A,c,e⟩)
 refine WL.step (ae rfl) rfl rfl rfl (Go ?_);refine WL.ax (aB Tryz.sizeOf4 rfl rfl (aI.obj hp aO) (Nat.le_of_ble_eq_true rfl) rfl rfl) rfl rfl ?_
 rintro _ h3 ⟨bq,aQ⟩
 refine WL.step (ae rfl) rfl rfl rfl (Go ?_);refine WL.ax (aB Tryz.sizeOf271 rfl rfl bq (Nat.le_of_ble_eq_true rfl) rfl rfl) rfl rfl ?_
 rintro _ h4 ⟨bC,aW⟩
 have Hh:=aQ.trans aW
 have yL:=(aI.mono (S':=fun k=>k=p) (fun _ _ e=>e.elim)).trans Hh
 refine Gn ?_;refine Gs [] ?_;refine G2 ?_;refine Gt ?_
 exact ⟨rfl,_,L2,⟨yL.obj hb hne.1,hm.ext yL hne.2,hlk,bC,⟨hok.oids.ext' yL (fun k h1 h2 e=>hdF k (.inl ⟨h1,h2⟩) e),hok.lo,hok.ps.ext yL (fun k hk e=>hdF k (.inr (.inl hk)) e),Ll.ext Hh (fun k hk e=>by have:=eI k hk;omega)⟩,fun k hk e=>by rcases hk with hk | hk | hk;exact hdF k (.inl hk) e;exact hdF k (.inr (.inl hk)) e;have:=eI k hk;omega⟩,Hg,eI,yL⟩
theorem BX {es:List (List UInt8 × Value)} {h:ah} {b m p:Nat} {name:List UInt8} {d:PD} {v:Value} (r:Pe h b m es p name d) (hd:d.ran=true) :
   ag Tryz.prog 216 ⟨[.pointer (some ⟨b,0,none⟩),St name,v]⟩ h fun u h'=>u=.bool false∧h'=h:=by
 have hof:=tK r
 obtain ⟨hb,hm,hlk,hp,hok,_⟩:=r
 obtain ⟨text,vo,oids,vp,ps,vr,rs,ran,over⟩:=d
 simp only at hd
 subst hd
 dsimp only [PD.cells] at hp
 refine calls [(0,_),(1,_),(2,_)] Tryz.func216 rfl Tryz.ntmps216 rfl ⟨rfl,rfl,rfl,trivial⟩ ?_
 refine G2 ?_;refine G2 ?_;refine WL.call (vs:=[_,_]) rfl Tryz.call256 rfl (hof) rfl rfl rfl ?_
 rintro _ hz ⟨rfl,_⟩
 subst hz
 refine Go ?_;refine Gs [(2,_),(7,_),(8,_)] ?_;refine G3 ?_
 refine bK 17 ?_ TT.mk
 refine Gg ?_;refine WL.step (ae rfl) rfl rfl rfl ?_;refine Gg ?_;refine Ld ?_;refine Go ?_;refine Gs [(2,_),(7,_),(22,_)] ?_
 refine aH 1 2 ?_ TT.mk
 all_goals (refine aw 1 ?_)
 refine G2 ?_;refine Gt ?_
 exact ⟨rfl,rfl⟩
theorem na {es:List (List UInt8 × Value)} {h h':ah} {b m p n c0:Nat} {A0:Option Addr} {name text:List UInt8} {vo vp:Value} {oids:List Int} {ps:List aX} {rs:List Rw} (hb:h[b]?=some (.cells ⟨[.map (some m)]⟩ 189 (0,0))) (hm:Mp .string St h m es) (hlk:cT es name=some (.pointer (some ⟨p,0,none⟩))) (hne:b ≠ p∧m ≠ p)
   (hdF:∀ k,PD.F ⟨text,vo,oids,vp,ps,.slice A0 rs.length c0,rs,true,false⟩ k→k ≠ p) (hok:PD.ok h ⟨text,vo,oids,vp,ps,.slice A0 rs.length c0,rs,true,false⟩) (hn:n≤rs.length) (hx:Ext (fun k=>k=p) h h')
   (bC:h'[p]?=some (.cells ⟨[St text,vo,vp,.slice (if c0=n then A0 else A0.map (·.add (n * 1))) (rs.length - n) (c0 - n),.bool true,.bool (decide (((rs.length - n:Nat):Int)=0))]⟩ 273 (0,0))) :
   ∃ wo vr',Value.tuple ⟨[.slice A0 n n,.bool (!decide (((rs.length - n:Nat):Int)=0))]⟩=.tuple ⟨[wo,.bool (!decide (((rs.length - n:Nat):Int)=0))]⟩∧jL h' wo (rs.take n)∧Pe h' b m es p name ⟨text,vo,oids,vp,ps,vr',rs.drop n,true,decide (((rs.length - n:Nat):Int)=0)⟩∧(∀ k,dH wo (rs.take n) k→dH (.slice A0 rs.length c0) rs k)∧(∀ k,dH vr' (rs.drop n) k→dH (.slice A0 rs.length c0) rs k)∧Ext (fun k=>k=p) h h':=by
 obtain ⟨t1,t2⟩:=yJ hok.rs hn
 obtain ⟨d1,d2⟩:=yK hok.rs hn
 refine ⟨_,_,rfl,t1.ext hx fun k hk e=>hdF k (.inr (.inr (t2 k hk))) e,⟨hx.obj hb hne.1,hm.ext hx hne.2,hlk,bC,⟨hok.oids.ext' hx (fun k h1 h2 e=>hdF k (.inl ⟨h1,h2⟩) e),hok.lo,hok.ps.ext hx (fun k hk e=>hdF k (.inr (.inl hk)) e),d1.ext hx fun k hk e=>hdF k (.inr (.inr (d2 k hk))) e⟩,fun k hk e=>?_⟩,t2,d2,hx⟩
 rcases hk with hk | hk | hk
 · exact hdF k (.inl hk) e
 · exact hdF k (.inr (.inl hk)) e
 · exact hdF k (.inr (.inr (d2 k hk))) e
theorem tL {es:List (List UInt8 × Value)} {h:ah} {b m p:Nat} {name:List UInt8} {d:PD} (r:Pe h b m es p name d) (most:Int) (hmo:¬ 0 < most) (hd:d.ran=true) (hv:d.over=false) :
   ag Tryz.prog 219 ⟨[.pointer (some ⟨b,0,none⟩),St name,In most]⟩ h fun u h'=>∃ vo vr',u=.tuple ⟨[vo,.bool (!decide (((d.rs.length - d.rs.length:Nat):Int)=0))]⟩∧jL h' vo (d.rs.take d.rs.length)∧Pe h' b m es p name { d with vr:=vr',rs:=d.rs.drop d.rs.length,over:=decide (((d.rs.length - d.rs.length:Nat):Int)=0) }∧(∀ k,dH vo (d.rs.take d.rs.length) k→dH d.vr d.rs k)∧(∀ k,dH vr' (d.rs.drop d.rs.length) k→dH d.vr d.rs k)∧Ext (fun k=>k=p) h h':=by
 have hne:=r.ne
 have hdF:=r.apart
 have hof:=tK r
 obtain ⟨hb,hm,hlk,hp,hok,_⟩:=r
 obtain ⟨text,vo,oids,vp,ps,vr,rs,ran,over⟩:=d
 simp only at hd hv
 subst hd
 subst hv
 obtain ⟨A0,c0,rfl,_⟩:∃ A c,vr=.slice A rs.length c∧c≤maxLen:=hok.rs.2.1.2
 dsimp only [PD.cells] at hp
 have hlr:=hok.rs.2.1.1
 simp only at hlr
 unfold reachBytes at hlr
 have hcn:rs.length≤c0:=by
   obtain ⟨A',c',e,hc,_⟩:=hok.rs.1
   simp only [Value.slice.injEq] at e
   obtain ⟨_,_,rfl⟩:=e
   exact hc
 refine calls [(0,_),(1,_),(2,_)] Tryz.func219 rfl Tryz.ntmps219 rfl ⟨rfl,rfl,rfl,trivial⟩ ?_
 refine G2 ?_;refine G2 ?_;refine WL.call (vs:=[_,_]) rfl Tryz.call256 rfl (hof) rfl rfl rfl ?_
 rintro _ hz ⟨rfl,_⟩
 subst hz
 refine Go ?_;refine Gs [(2,_),(8,_),(9,_)] ?_;refine G3 ?_
 refine bK 20 ?_ TT.mk
 refine Gg ?_;refine WL.step (ae rfl) rfl rfl rfl ?_;refine Gg ?_;refine Ld ?_;refine Gg ?_;refine Go ?_
 refine bK 27 ?_ TT.mk
 refine Gg ?_;refine WL.step (ae rfl) rfl rfl rfl ?_;refine Gg ?_;refine Ld ?_;refine Go ?_;refine Gs [(2,_),(8,_),(32,_)] ?_
 refine aH 1 2 ?_ TT.mk
 all_goals (refine aw 2 ?_)
 refine WC.skip ?_;refine Gn ?_;refine G2 ?_;refine WL.step (ae rfl) rfl rfl rfl (Go ?_);refine Ld ?_;refine Go ?_;refine Gs [(2,_),(8,_),(10,_)] ?_;refine G3 ?_
 refine aH 3 4 ?_ TT.mk
 all_goals (refine aw 4 ?_)
 refine WC.skip ?_;refine Gn ?_;refine G2 ?_;refine WL.step (ae rfl) rfl rfl rfl (Go ?_);refine Ld ?_;refine Go ?_;refine WL.step (fh Tryz.underlying271 Tryz.sizeOf40 rfl rfl rfl (by omega)) rfl rfl rfl (Go ?_)
 refine Gs [(8,_),(10,_),(11,_)] ?_;refine G2 ?_;refine WL.step (ae rfl) rfl rfl rfl (Go ?_);refine Ld ?_;refine Go ?_;refine WL.step (dL Tryz.underlying271 Tryz.sizeOf40 rfl rfl (by omega)) rfl rfl rfl ?_
 refine WL.step (ae rfl) rfl rfl rfl (Go ?_);refine WL.ax (aB Tryz.sizeOf271 rfl rfl hp (Nat.le_of_ble_eq_true rfl) rfl rfl) rfl rfl ?_
 rintro _ h3 ⟨bq,aQ⟩
 refine Gn ?_;refine Gs [(8,_),(11,_)] ?_;refine G2 ?_;refine WL.step (ae rfl) rfl rfl rfl (Go ?_);refine Ld ?_;refine WL.step (cq rfl Tryz.underlying271 rfl) rfl rfl rfl ?_;refine WL.step (mM rfl rfl) rfl rfl rfl ?_;refine WL.step (ae rfl) rfl rfl rfl (Go ?_);refine WL.ax (aB Tryz.sizeOf4 rfl rfl bq (Nat.le_of_ble_eq_true rfl) rfl rfl) rfl rfl ?_
 rintro _ h4 ⟨bC,aW⟩
 refine Gn ?_;refine Gs [(8,_),(11,_)] ?_;refine WC.seq ?_;refine WC.fU dm (by kernel_rfl) ?_
 refine WQ.aK (ak rfl) rfl rfl rfl ?_;refine WQ.aK (ak rfl) rfl rfl rfl ?_;refine WQ.aK (ae rfl) rfl rfl rfl ?_;refine WQ.aK (ad rfl Tryz.underlying273 rfl Tryz.sizeOf4) rfl rfl rfl ?_;refine WQ.aK (aA Tryz.isAgg4 rfl (by first | assumption | exact aa (by assumption) rfl)) rfl rfl rfl ?_
 refine WQ.aK (dw rfl) rfl rfl rfl ?_;refine WQ.aK (aP rfl) rfl rfl rfl ?_;refine WQ.aK (aP rfl) rfl rfl rfl ?_;refine WQ.nil ?_;refine Gn ?_;refine Gs [(6,_),(7,_)] ?_;refine Gt ?_
 exact na (n:=rs.length) hb hm hlk hne hdF hok (by omega) (aQ.trans aW) bC
theorem rO {es:List (List UInt8 × Value)} {h:ah} {b m p n:Nat} {name:List UInt8} {d:PD} (r:Pe h b m es p name d) (most:Int) (hmo:0 < most) (hn:min (d.rs.length:Int) most=(n:Int)) (hd:d.ran=true) (hv:d.over=false) :
   ag Tryz.prog 219 ⟨[.pointer (some ⟨b,0,none⟩),St name,In most]⟩ h fun u h'=>∃ vo vr',u=.tuple ⟨[vo,.bool (!decide (((d.rs.length - n:Nat):Int)=0))]⟩∧jL h' vo (d.rs.take n)∧Pe h' b m es p name { d with vr:=vr',rs:=d.rs.drop n,over:=decide (((d.rs.length - n:Nat):Int)=0) }∧(∀ k,dH vo (d.rs.take n) k→dH d.vr d.rs k)∧(∀ k,dH vr' (d.rs.drop n) k→dH d.vr d.rs k)∧Ext (fun k=>k=p) h h':=by
 have hne:=r.ne
 have hdF:=r.apart
 have hof:=tK r
 obtain ⟨hb,hm,hlk,hp,hok,_⟩:=r
 obtain ⟨text,vo,oids,vp,ps,vr,rs,ran,over⟩:=d
 simp only at hd hv hn
 subst hd
 subst hv
 obtain ⟨A0,c0,rfl,_⟩:∃ A c,vr=.slice A rs.length c∧c≤maxLen:=hok.rs.2.1.2
 dsimp only [PD.cells] at hp
 have hlr:=hok.rs.2.1.1
 simp only at hlr
 unfold reachBytes at hlr
 have hcn:rs.length≤c0:=by
   obtain ⟨A',c',e,hc,_⟩:=hok.rs.1
   simp only [Value.slice.injEq] at e
   obtain ⟨_,_,rfl⟩:=e
   exact hc
 refine calls [(0,_),(1,_),(2,_)] Tryz.func219 rfl Tryz.ntmps219 rfl ⟨rfl,rfl,rfl,trivial⟩ ?_
 refine G2 ?_;refine G2 ?_;refine WL.call (vs:=[_,_]) rfl Tryz.call256 rfl (hof) rfl rfl rfl ?_
 rintro _ hz ⟨rfl,_⟩
 subst hz
 refine Go ?_;refine Gs [(2,_),(8,_),(9,_)] ?_;refine G3 ?_
 refine bK 20 ?_ TT.mk
 refine Gg ?_;refine WL.step (ae rfl) rfl rfl rfl ?_;refine Gg ?_;refine Ld ?_;refine Gg ?_;refine Go ?_
 refine bK 27 ?_ TT.mk
 refine Gg ?_;refine WL.step (ae rfl) rfl rfl rfl ?_;refine Gg ?_;refine Ld ?_;refine Go ?_;refine Gs [(2,_),(8,_),(32,_)] ?_
 refine aH 1 2 ?_ TT.mk
 all_goals (refine aw 2 ?_)
 refine WC.skip ?_;refine Gn ?_;refine G2 ?_;refine WL.step (ae rfl) rfl rfl rfl (Go ?_);refine Ld ?_;refine Go ?_;refine Gs [(2,_),(8,_),(10,_)] ?_;refine G3 ?_
 refine aH 3 4 ?_ TT.mk
 all_goals (refine aw 3 ?_)
 refine WC.region (Go ?_);refine WL.step (j1 rfl rfl) rfl rfl rfl ?_
 rw [show (if most < (rs.length:Int) then most else (rs.length:Int))=(n:Int) by (split <;> omega)]
 refine Go ?_;refine Gn ?_;refine G2 ?_;refine WL.step (ae rfl) rfl rfl rfl (Go ?_);refine Ld ?_;refine Go ?_;refine WL.step (fh Tryz.underlying271 Tryz.sizeOf40 rfl rfl rfl (by omega)) rfl rfl rfl (Go ?_)
 refine Gs [(8,_),(10,_),(11,_)] ?_;refine G2 ?_;refine WL.step (ae rfl) rfl rfl rfl (Go ?_);refine Ld ?_;refine Go ?_;refine WL.step (dL Tryz.underlying271 Tryz.sizeOf40 rfl rfl (by omega)) rfl rfl rfl ?_
 refine WL.step (ae rfl) rfl rfl rfl (Go ?_);refine WL.ax (aB Tryz.sizeOf271 rfl rfl hp (Nat.le_of_ble_eq_true rfl) rfl rfl) rfl rfl ?_
 rintro _ h3 ⟨bq,aQ⟩
 refine Gn ?_;refine Gs [(8,_),(11,_)] ?_;refine G2 ?_;refine WL.step (ae rfl) rfl rfl rfl (Go ?_);refine Ld ?_;refine WL.step (cq rfl Tryz.underlying271 rfl) rfl rfl rfl ?_;refine WL.step (mM rfl rfl) rfl rfl rfl ?_;refine WL.step (ae rfl) rfl rfl rfl (Go ?_);refine WL.ax (aB Tryz.sizeOf4 rfl rfl bq (Nat.le_of_ble_eq_true rfl) rfl rfl) rfl rfl ?_
 rintro _ h4 ⟨bC,aW⟩
 refine Gn ?_;refine Gs [(8,_),(11,_)] ?_;refine WC.seq ?_;refine WC.fU dm (by kernel_rfl) ?_
 refine WQ.aK (ak rfl) rfl rfl rfl ?_;refine WQ.aK (ak rfl) rfl rfl rfl ?_;refine WQ.aK (ae rfl) rfl rfl rfl ?_;refine WQ.aK (ad rfl Tryz.underlying273 rfl Tryz.sizeOf4) rfl rfl rfl ?_;refine WQ.aK (aA Tryz.isAgg4 rfl (by first | assumption | exact aa (by assumption) rfl)) rfl rfl rfl ?_
 refine WQ.aK (dw rfl) rfl rfl rfl ?_;refine WQ.aK (aP rfl) rfl rfl rfl ?_;refine WQ.aK (aP rfl) rfl rfl rfl ?_;refine WQ.nil ?_;refine Gn ?_;refine Gs [(6,_),(7,_)] ?_;refine Gt ?_
 exact na (n:=n) hb hm hlk hne hdF hok (by omega) (aQ.trans aW) bC
theorem rP {es:List (List UInt8 × Value)} {h:ah} {b m p:Nat} {name:List UInt8} {d:PD} (r:Pe h b m es p name d) (most:Int) (hd:d.ran=true) (hv:d.over=true) :
   ag Tryz.prog 219 ⟨[.pointer (some ⟨b,0,none⟩),St name,In most]⟩ h fun u h'=>u=.tuple ⟨[.slice none 0 0,.bool false]⟩∧h'=h:=by
 have hof:=tK r
 obtain ⟨hb,hm,hlk,hp,hok,_⟩:=r
 obtain ⟨text,vo,oids,vp,ps,vr,rs,ran,over⟩:=d
 simp only at hd hv
 subst hd
 subst hv
 dsimp only [PD.cells] at hp
 refine calls [(0,_),(1,_),(2,_)] Tryz.func219 rfl Tryz.ntmps219 rfl ⟨rfl,rfl,rfl,trivial⟩ ?_
 refine G2 ?_;refine G2 ?_;refine WL.call (vs:=[_,_]) rfl Tryz.call256 rfl (hof) rfl rfl rfl ?_
 rintro _ hz ⟨rfl,_⟩
 subst hz
 refine Go ?_;refine Gs [(2,_),(8,_),(9,_)] ?_;refine G3 ?_
 refine bK 20 ?_ TT.mk
 refine Gg ?_;refine WL.step (ae rfl) rfl rfl rfl ?_;refine Gg ?_;refine Ld ?_;refine Gg ?_;refine Go ?_
 refine bK 27 ?_ TT.mk
 refine Gg ?_;refine WL.step (ae rfl) rfl rfl rfl ?_;refine Gg ?_;refine Ld ?_;refine Go ?_;refine Gs [(2,_),(8,_),(32,_)] ?_
 refine aH 1 2 ?_ TT.mk
 all_goals (refine aw 1 ?_)
 refine G2 ?_;refine Gt ?_
 exact ⟨rfl,rfl⟩
theorem tM {P:Program} {f:Fr} {h:ah} {dd:Option Tmp} {ty:TypeId} {pos:String} {af:Array Edge} {g:Option (Nat × Bool)} {x:Operand} {t kt et:TypeId} {ts:Array TypeId} {κ:Type} {d:TypeDesc} {enc:κ→Value} {m:Nat} {es:List (κ × Value)} (hts:ts=#[t]) (hu:P.underlying t=some (.map kt et)) (hx:f.ev x=some (.map (some m))) (hm:Mp d enc h m es) :
   eG P f ⟨dd,.call { callee:=.builtin .clear,args:=#[x],argTypes:=ts },ty,pos,af,g⟩ h (fun _ h'=>Mp d enc h' m ([]:List (κ × Value))∧Ext (fun b=>b=m) h h'):=fun ρ w ha hw=>by
 subst hts
 subst hw
 obtain ⟨arr,clock,hb,hs,he⟩:=hm
 refine ⟨.tuple #[],{ w with heap:=w.heap.setIfInBounds m (.map #[] clock) },⟨rfl,rfl,rfl,trivial⟩,⟨⟨_,_,dD hb,MapKept.stamped_empty _,rfl⟩,.set _ _ _ rfl⟩,.inl ?_⟩
 simp [execOp,resolve,invoke,builtin,ha _ _ hx,Builtin.clear_,run_underlying hu,MapKept.run_getObj_map hb,MapKept.run_setObj_map _ hb]
section
variable {h:ah} {b m:Nat} {es:List (List UInt8 × Value)}
theorem pW (name:List UInt8) (hb:h[b]?=some (.cells ⟨[.map (some m)]⟩ 189 (0,0))) (hm:Mp .string St h m es) (hv:cT es name=none) :
   ag Tryz.prog 256 ⟨[.pointer (some ⟨b,0,none⟩),St name]⟩ h fun u h'=>u=.tuple ⟨[.pointer none,.bool false]⟩∧h'=h:=by
 refine calls [(0,_),(1,_)] Tryz.func256 rfl Tryz.ntmps256 rfl ⟨rfl,rfl,trivial⟩ ?_
 refine G2 ?_;refine G3 ?_;refine WL.step (fz Tryz.underlying150 rfl rfl) rfl rfl rfl (Go ?_)
 refine bK 10 ?_ TT.mk
 refine Gg ?_;refine WL.step (ae rfl) rfl rfl rfl ?_;refine Gg ?_;refine Ld ?_;refine WL.step (jV Tryz.underlying187 rfl rfl) rfl rfl rfl (Go ?_);refine Gs [(0,_),(1,_),(16,_)] ?_
 refine aH 1 2 ?_ TT.mk
 all_goals (refine aw 2 ?_)
 refine WC.skip ?_;refine Gn ?_;refine G2 ?_;refine WL.step (ae rfl) rfl rfl rfl (Go ?_);refine Ld ?_;refine Go ?_;refine WL.step ((dq fB Tryz.underlying187 Tryz.underlying9 (fun w=>Tryz.zeroValue318 w) rfl rfl (by assumption) (by assumption)).1) rfl rfl rfl (Go ?_)
 refine Gs [(6,_),(7,_)] ?_;refine G2 ?_;refine Gs [(4,_),(5,_)] ?_;refine Gt ?_
 exact ⟨rfl,rfl⟩
theorem EL (hb:h[b]?=some (.cells ⟨[.map (some m)]⟩ 189 (0,0))) (hm:Mp .string St h m es):b ≠ m:=by
 rintro rfl
 obtain ⟨_,_,e,_⟩:=hm
 rw [hb] at e
 cases e
theorem Hi (name:List UInt8) (d:PD) (hb:h[b]?=some (.cells ⟨[.map (some m)]⟩ 189 (0,0))) (hm:Mp .string St h m es) (hd:d.ok h) (hn:name=[]∨cT es name=none) :
   ag Tryz.prog 210 ⟨[.pointer (some ⟨b,0,none⟩),St name,.agg ⟨d.cells⟩]⟩ h fun u h'=>u=In 0∧∃ p d',Mp .string St h' m (tr es name (.pointer (some ⟨p,0,none⟩)))∧h'[p]?=some (.cells ⟨PD.cells d'⟩ 273 (0,0))∧d'.ok h'∧d'.pl=d.pl∧h.size≤p∧(∀ k,d'.F k→h.size≤k∧k ≠ p)∧Ext (fun k=>k=m) h h':=by
 have hbm:=EL hb hm
 have hml:=hm.lt
 have hcs:cT es name=none∨∃ v,cT es name=some v∧name=[]:=by
   rcases hv:cT es name with _ | v
   · exact .inl rfl
   · rcases hn with e | e
     · exact .inr ⟨v,rfl,e⟩
     · rw [hv] at e;cases e
 rcases hcs with hv | ⟨v0,hv,rfl⟩
 all_goals
   refine calls [(0,_),(1,_),(2,_)] Tryz.func210 rfl Tryz.ntmps210 rfl ⟨rfl,rfl,rfl,trivial⟩ ?_
   all_goals (refine WC.sr ?_;refine WL.aj (aG rfl) rfl rfl rfl ?_;rintro _ h1 ⟨b5,rfl,qR,bV,aM⟩;have hb':=aM.obj hb aO;have hm':=hm.ext aM aO;have hd':=hd.ext aM (fun _ _=>aO);refine Go ?_;refine G3 ?_;refine WL.step (fz Tryz.underlying150 rfl rfl) rfl rfl rfl (Go ?_);refine bK 12 ?_ TT.mk;refine Gg ?_;refine WL.step (ae rfl) rfl rfl rfl ?_;refine Gg ?_;refine Ld ?_;refine WL.step (jV Tryz.underlying187 rfl rfl) rfl rfl rfl (Go ?_);refine Gs [(0,_),(1,_),(5,_),(18,_)] ?_;refine aH 1 2 ?_ TT.mk;refine aw 2 ?_;refine WC.skip ?_;refine Gn ?_;refine G3 ?_;refine WL.step (ae rfl) rfl rfl rfl (Go ?_);refine Ld ?_;refine Go ?_;first | (refine WL.step ((gn fB Tryz.underlying187 Tryz.underlying9 rfl rfl (by assumption) (by assumption)).1) rfl rfl rfl ?_) | (refine WL.step ((dq fB Tryz.underlying187 Tryz.underlying9 (fun w=>Tryz.zeroValue318 w) rfl rfl (by assumption) (by assumption)).1) rfl rfl rfl ?_))
   all_goals (refine Go ?_;refine Gs [(0,_),(1,_),(5,_),(8,_)] ?_;refine G2 ?_;refine bK 29 ?_ TT.mk;refine Gg ?_;refine Go ?_;refine Gs [(0,_),(1,_),(5,_),(32,_)] ?_;refine aH 3 4 ?_ TT.mk;refine aw 4 ?_;refine WC.skip ?_;refine Gn ?_;refine WC.sr ?_;refine WL.step (ay Tryz.isAgg273 Tryz.sizeOf273 rfl rfl (by exact At.av bV)) rfl rfl rfl ?_;refine WL.call (vs:=[_]) rfl Tryz.call248 rfl (rN d hd') rfl rfl rfl ?_;rintro _ h2 ⟨d2,rfl,iU,j9,aI,eI⟩;refine WL.aj (an (fun w=>Tryz.zeroValue273 w)) rfl rfl rfl ?_;rintro _ h3 ⟨b3,rfl,gl,bq,aQ⟩;refine WL.ax (al Tryz.sizeOf273 rfl rfl rfl (by assumption) rfl (eQ iU)) rfl rfl ?_;rintro _ h4 ⟨bC,aW⟩;have il:Ext No h1 h4:=(aI.trans aQ).trans' aW (fun k hk e=>by have:=aI.size;omega);have hbb:=il.obj hb' aO;have hmm:=hm'.ext il aO;refine Gn ?_;refine Gs [(0,_),(1,_),(9,_)] ?_;refine G2 ?_;refine WL.step (ae rfl) rfl rfl rfl (Go ?_);refine Ld ?_;refine Go ?_;refine WL.ax (gN fB Tryz.underlying187 Tryz.underlying9 rfl rfl rfl (by assumption)) rfl rfl ?_;rintro _ h6 ⟨MF,aN⟩;refine Gn ?_;refine Gs [] ?_;refine G2 ?_;refine Gt ?_;exact ⟨rfl,b3,d2,MF,aN.obj bC (fun e=>by have:=aM.size;have:=aI.size;omega),(iU.ext (aQ.trans' aW (S:=No) (fun k hk e=>by omega)) (fun _ _=>aO)).ext aN (fun k hk e=>by have:=eI k hk;have:=aM.size;omega),j9,by have:=aM.size;have:=aI.size;omega,fun k hk=>⟨by have:=eI k hk;have:=aM.size;omega,fun e=>by have:=iU.lt hk;omega⟩,(aM.mono (fun _ _ e=>e.elim)).trans ((il.mono (fun _ _ e=>e.elim)).trans aN)⟩)
theorem EN (name:List UInt8) (d:PD) (hb:h[b]?=some (.cells ⟨[.map (some m)]⟩ 189 (0,0))) (hm:Mp .string St h m es) {v:Value} (hv:cT es name=some v) (hn:name ≠ []) :
   ag Tryz.prog 210 ⟨[.pointer (some ⟨b,0,none⟩),St name,.agg ⟨d.cells⟩]⟩ h fun u h'=>u=In 8∧Ext No h h':=by
 refine calls [(0,_),(1,_),(2,_)] Tryz.func210 rfl Tryz.ntmps210 rfl ⟨rfl,rfl,rfl,trivial⟩ ?_
 refine WC.sr ?_;refine WL.aj (aG rfl) rfl rfl rfl ?_
 rintro _ h1 ⟨b5,rfl,qR,bV,aM⟩
 have hb':=aM.obj hb aO
 have hm':=hm.ext aM aO
 refine Go ?_;refine G3 ?_;refine WL.step (fz Tryz.underlying150 rfl rfl) rfl rfl rfl (Go ?_)
 refine bK 12 ?_ TT.mk
 refine Gg ?_;refine WL.step (ae rfl) rfl rfl rfl ?_;refine Gg ?_;refine Ld ?_;refine WL.step (jV Tryz.underlying187 rfl rfl) rfl rfl rfl (Go ?_);refine Gs [(0,_),(1,_),(5,_),(18,_)] ?_
 refine aH 1 2 ?_ TT.mk
 all_goals (refine aw 2 ?_)
 refine WC.skip ?_;refine Gn ?_;refine G3 ?_;refine WL.step (ae rfl) rfl rfl rfl (Go ?_);refine Ld ?_;refine Go ?_;refine WL.step ((gn fB Tryz.underlying187 Tryz.underlying9 rfl rfl (by assumption) (by assumption)).1) rfl rfl rfl (Go ?_)
 refine Gs [(0,_),(1,_),(5,_),(8,_)] ?_;refine G2 ?_
 refine bK 29 ?_ TT.mk
 refine Gg ?_;refine Go ?_;refine Gs [(0,_),(1,_),(5,_),(32,_)] ?_
 refine aH 3 4 ?_ TT.mk
 all_goals (refine aw 3 ?_)
 refine G2 ?_;refine Gs [(6,_)] ?_;refine Gt ?_
 exact ⟨rfl,aM⟩
theorem EO (name:List UInt8) (hb:h[b]?=some (.cells ⟨[.map (some m)]⟩ 189 (0,0))) (hm:Mp .string St h m es) (hv:cT es name=none) :
   ag Tryz.prog 249 ⟨[.pointer (some ⟨b,0,none⟩),St name]⟩ h fun u h'=>u=.tuple ⟨[.agg ⟨EJ.cells⟩,.bool false]⟩∧Ext No h h':=by
 refine calls [(0,_),(1,_)] Tryz.func249 rfl Tryz.ntmps249 rfl ⟨rfl,rfl,trivial⟩ ?_
 refine WC.sr ?_;refine WL.aj (an (fun w=>Tryz.zeroValue273 w)) rfl rfl rfl ?_
 rintro _ h1 ⟨b1,rfl,bR,aR,az⟩
 refine Go ?_;refine G2 ?_;refine WL.call (vs:=[_,_]) rfl Tryz.call256 rfl (pW name (az.obj hb aO) (hm.ext az aO) hv) rfl rfl rfl ?_
 rintro _ hz ⟨rfl,_⟩
 subst hz
 refine Go ?_;refine Gs [(4,_),(6,_),(7,_)] ?_;refine G3 ?_
 refine aH 1 2 ?_ TT.mk
 all_goals (refine aw 1 ?_)
 refine WC.sr ?_;refine WL.step (aF (vs:=[]) (cs:=[_,_,_,_,_,_]) (fun | []=>[(St []),(.slice none 0 0),(.slice none 0 0),(.slice none 0 0),(.bool false),(.bool false)] | _=>[]) rfl rfl (by kernel_rfl)) rfl rfl rfl ?_
 refine WL.ax (al Tryz.sizeOf273 rfl rfl rfl aR rfl (by simp [Value.oneCell'])) rfl rfl ?_
 rintro _ h2 ⟨bH,aI⟩
 refine Go ?_;refine Gs [(4,_),(5,_)] ?_;refine WC.ret ?_
 repeat' (with_reducible first | refine aZ ?_ | refine aV ?_)
 refine cV _ _ ⟨⟨_,rfl,bB Tryz.isAgg273 Tryz.sizeOf273 (by assumption) rfl⟩,rfl,trivial⟩ ?_
 exact ⟨rfl,az.trans' aI (fun k hk e=>by omega)⟩
theorem Pe.aq {h':ah} {p:Nat} {name:List UInt8} {d:PD} (r:Pe h b m es p name d) (a:Ext No h h'):Pe h' b m es p name d :=
 ⟨a.obj r.set aO,r.map.ext a aO,r.look,a.obj r.bm aO,r.ok.ext a (fun _ _=>aO),r.apart⟩
theorem DG {p:Nat} {name:List UInt8} {d:PD} (r:Pe h b m es p name d) :
   ag Tryz.prog 221 ⟨[.pointer (some ⟨b,0,none⟩),St name]⟩ h fun u h'=>u=.bool true∧Mp .string St h' m (lY es name)∧Ext (fun k=>k=m) h h':=by
 have hb:=r.set
 have hm:=r.map
 refine calls [(0,_),(1,_)] Tryz.func221 rfl Tryz.ntmps221 rfl ⟨rfl,rfl,trivial⟩ ?_
 refine G2 ?_;refine G2 ?_;refine WL.call (vs:=[_,_]) rfl Tryz.call256 rfl (tK r) rfl rfl rfl ?_
 rintro _ hz ⟨rfl,_⟩
 subst hz
 refine Go ?_;refine Gs [(0,_),(1,_),(6,_)] ?_;refine G3 ?_
 refine aH 1 2 ?_ TT.mk
 all_goals (refine aw 1 ?_)
 refine WC.region (Go ?_);refine WL.step (ae rfl) rfl rfl rfl (Go ?_);refine Ld ?_;refine Go ?_;refine WL.ax (fo rfl fB Tryz.underlying187 Tryz.underlying9 rfl rfl (by assumption)) rfl rfl ?_
 rintro _ h1 ⟨Bn,az⟩
 refine Gn ?_;refine Gn ?_;refine G2 ?_;refine Gs [(4,_)] ?_;refine Gt ?_
 exact ⟨rfl,Bn,az⟩
theorem yM (name:List UInt8) (hb:h[b]?=some (.cells ⟨[.map (some m)]⟩ 189 (0,0))) (hm:Mp .string St h m es) (hv:cT es name=none) :
   ag Tryz.prog 221 ⟨[.pointer (some ⟨b,0,none⟩),St name]⟩ h fun u h'=>u=.bool false∧h'=h:=by
 refine calls [(0,_),(1,_)] Tryz.func221 rfl Tryz.ntmps221 rfl ⟨rfl,rfl,trivial⟩ ?_
 refine G2 ?_;refine G2 ?_;refine WL.call (vs:=[_,_]) rfl Tryz.call256 rfl (pW name hb hm hv) rfl rfl rfl ?_
 rintro _ hz ⟨rfl,_⟩
 subst hz
 refine Go ?_;refine Gs [(0,_),(1,_),(6,_)] ?_;refine G3 ?_
 refine aH 1 2 ?_ TT.mk
 all_goals (refine aw 2 ?_)
 refine WC.skip ?_;refine Gn ?_;refine G2 ?_;refine Gs [(4,_)] ?_;refine Gt ?_
 exact ⟨rfl,rfl⟩
theorem B7 (hb:h[b]?=some (.cells ⟨[.map (some m)]⟩ 189 (0,0))) (hm:Mp .string St h m es) :
   ag Tryz.prog 145 ⟨[.pointer (some ⟨b,0,none⟩)]⟩ h fun u h'=>u=.tuple ⟨[]⟩∧Mp .string St h' m ([]:List (List UInt8 × Value))∧Ext (fun k=>k=m) h h':=by
 refine calls [(0,_)] Tryz.func145 rfl Tryz.ntmps145 rfl ⟨rfl,trivial⟩ ?_
 refine G2 ?_;refine WL.step (dQ Tryz.underlying150 rfl rfl) rfl rfl rfl ?_;refine Gn ?_
 refine aH 1 2 ?_ TT.mk
 all_goals (refine aw 1 ?_)
 refine WC.region (Go ?_);refine WL.step (ae rfl) rfl rfl rfl (Go ?_);refine Ld ?_;refine WL.ax (tM rfl Tryz.underlying187 rfl hm) rfl rfl ?_
 rintro _ h1 ⟨Bn,az⟩
 refine Gn ?_;refine Gn ?_
 refine fA [] trivial ?_
 exact ⟨rfl,Bn,az⟩
end
structure Fm where
 kind:Int
 what:Int
 name:List UInt8
 portal:List UInt8
 text:List UInt8
 vo:Value
 oids:List Int
 vf:Value
 formats:List Int
 vs:Value
 results:List Int
 vp:Value
 params:List aX
 max:Int
def Fm.cells (b:Fm):List Value:=[.int .u8 b.kind,.int .u8 b.what,St b.name,St b.portal,St b.text,b.vo,b.vf,b.vs,b.vp,In b.max]
theorem Fm.len (b:Fm):b.cells.length=10:=rfl
structure Fm.ok (h:ah) (b:Fm):Prop where
 oids:Rd h b.vo 1 b.oids.length (ints b.oids)∧b.oids.length≤maxLen
 formats:Rd h b.vf 1 b.formats.length (ints b.formats)∧b.formats.length≤maxLen
 results:Rd h b.vs 1 b.results.length (ints b.results)∧b.results.length≤maxLen
 params:cF h b.vp b.params
theorem Fm.ok.aq {h h':ah} {b:Fm} (k:b.ok h) (a:Ext No h h'):b.ok h':=⟨⟨k.1.1.aq a,k.1.2⟩,⟨k.2.1.aq a,k.2.2⟩,⟨k.3.1.aq a,k.3.2⟩,k.4.aq a⟩
theorem Fm.ok.one {h:ah} {e:Fm} (k:e.ok h):∀ v∈e.cells,v.oneCell'=true:=by
 obtain ⟨A1,c1,e1,_⟩:=k.1.1
 obtain ⟨A2,c2,e2,_⟩:=k.2.1
 obtain ⟨A3,c3,e3,_⟩:=k.3.1
 obtain ⟨_,⟨_,A4,c4,e4,_⟩,_⟩:=k.4
 simp [Fm.cells,Value.oneCell',e1,e2,e3,e4]
def Fm.pl (b:Fm):=(b.kind,b.what,b.name,b.portal,b.text,b.oids,b.formats,b.results,b.params.map aX.pl,b.max)
def EP (h:ah) (v:Value) (L:List Fm):Prop:=Rd h v 10 L.length (L.flatMap Fm.cells)∧L.length≤maxLen∧∀ e∈L,e.ok h
theorem EP.aq {h h':ah} {v:Value} {L:List Fm} (k:EP h v L) (a:Ext No h h'):EP h' v L:=⟨k.1.aq a,k.2.1,fun r hr=>(k.2.2 r hr).aq a⟩
theorem ER {n:Int} (h:(Lit.int .u8 n).wf=true):0≤n∧n≤255:=by simpa [Lit.wf,IntKind.min,IntKind.max,IntKind.signed,IntKind.bits] using h
theorem B8 {n:Int} (h:(Lit.int .i64 n).wf=true) : -9223372036854775808≤n∧n≤9223372036854775807:=by simpa [Lit.wf,IntKind.min,IntKind.max,IntKind.signed,IntKind.bits] using h
theorem yN (w:World):dS Tryz.prog w 42 Fm.cells (fun b=>b.ok w.heap∧(0≤b.kind∧b.kind≤255) ∧ -9223372036854775808≤b.max∧b.max≤9223372036854775807):=by
 have hi:∀ {v:Value} {l:List Int},Rd w.heap v 1 l.length (l.flatMap fun n:Int=>[In n])→Rd w.heap v 1 l.length (ints l):=fun h=>by rwa [rf] at h
 have iG:=cg (P:=Tryz.prog) (w:=w) (o:=9) (f:=⟨ "Max", 3,9,false, "", "", 152⟩) rfl (ep Tryz.underlying3) (by kernel_rfl) (fun _=>rfl) mR
 have h9:=cg (P:=Tryz.prog) (w:=w) (o:=8) (f:=⟨ "Params", 40,8,false, "", "", 128⟩) rfl (rz w) (by kernel_rfl) (fun _=>rfl) iG
 have h8:=cg (P:=Tryz.prog) (w:=w) (o:=7) (f:=⟨ "Results", 39,7,false, "", "", 104⟩) rfl (dK (sz:=1) (F:=fun n:Int=>[In n]) Tryz.underlying39 (by kernel_rfl) (by decide) (fun _=>rfl) (ep Tryz.underlying3)) (by kernel_rfl) (fun _=>rfl) h9
 have h7:=cg (P:=Tryz.prog) (w:=w) (o:=6) (f:=⟨ "Formats", 39,6,false, "", "", 80⟩) rfl (dK (sz:=1) (F:=fun n:Int=>[In n]) Tryz.underlying39 (by kernel_rfl) (by decide) (fun _=>rfl) (ep Tryz.underlying3)) (by kernel_rfl) (fun _=>rfl) h8
 have h6:=cg (P:=Tryz.prog) (w:=w) (o:=5) (f:=⟨ "OIDs", 39,5,false, "", "", 56⟩) rfl (dK (sz:=1) (F:=fun n:Int=>[In n]) Tryz.underlying39 (by kernel_rfl) (by decide) (fun _=>rfl) (ep Tryz.underlying3)) (by kernel_rfl) (fun _=>rfl) h7
 have h5:=cg (P:=Tryz.prog) (w:=w) (o:=4) (f:=⟨ "Text", 9,4,false, "", "", 40⟩) rfl (gQ Tryz.underlying9) (by kernel_rfl) (fun _=>rfl) h6
 have h4:=cg (P:=Tryz.prog) (w:=w) (o:=3) (f:=⟨ "Portal", 9,3,false, "", "", 24⟩) rfl (gQ Tryz.underlying9) (by kernel_rfl) (fun _=>rfl) h5
 have h3:=cg (P:=Tryz.prog) (w:=w) (o:=2) (f:=⟨ "Name", 9,2,false, "", "", 8⟩) rfl (gQ Tryz.underlying9) (by kernel_rfl) (fun _=>rfl) h4
 have h2:=cg (P:=Tryz.prog) (w:=w) (o:=1) (f:=⟨ "What", 5,1,false, "", "", 1⟩) rfl (ep Tryz.underlying5) (by kernel_rfl) (fun _=>rfl) h3
 have h1:=cg (P:=Tryz.prog) (w:=w) (o:=0) (f:=⟨ "Kind", 5,0,false, "", "", 0⟩) rfl (ep Tryz.underlying5) (by kernel_rfl) (fun _=>rfl) h2
 have h0:=jY Tryz.underlying42 (by kernel_rfl) h1
 refine h0.map (fun p=>(⟨p.1,p.2.1,p.2.2.1,p.2.2.2.1,p.2.2.2.2.1,p.2.2.2.2.2.1.1,p.2.2.2.2.2.1.2,p.2.2.2.2.2.2.1.1,p.2.2.2.2.2.2.1.2,p.2.2.2.2.2.2.2.1.1,p.2.2.2.2.2.2.2.1.2,p.2.2.2.2.2.2.2.2.1.1,p.2.2.2.2.2.2.2.2.1.2,p.2.2.2.2.2.2.2.2.2.1⟩:Fm)) (fun _=>rfl) (fun p q=>?_)
 obtain ⟨q1,q2,q3,q4,q5,q6,q7,q8,q9,MG,_⟩:=q
 exact ⟨⟨⟨hi q6.1,q6.2.1⟩,⟨hi q7.1,q7.2.1⟩,⟨hi q8.1,q8.2.1⟩,q9⟩,ER q1,B8 MG⟩
structure Se (h:ah) (bs ms bp mp be me:Nat) (st:Int) (sk ov:Bool) (cnt:Int) (L P R:List (List UInt8 × Value)):Prop where
 bm:h[bs]?=some (.cells ⟨[.map (some ms),.pointer (some ⟨bp,0,none⟩),.pointer (some ⟨be,0,none⟩),.int .u8 st,.bool sk,.bool ov]⟩ 153 (0,0))
 stm:Mp .string St h ms L
 pb:h[bp]?=some (.cells ⟨[.map (some mp)]⟩ 189 (0,0))
 pm:Mp .string St h mp P
 eb:h[be]?=some (.cells ⟨[.map (some me),In cnt]⟩ 104 (0,0))
 em:Mp .string St h me R
 ne:ms ≠ mp∧ms ≠ me∧mp ≠ me
theorem Se.aq {h h':ah} {bs ms bp mp be me:Nat} {st:Int} {sk ov:Bool} {cnt:Int} {L P R:List (List UInt8 × Value)} (k:Se h bs ms bp mp be me st sk ov cnt L P R) (x:Ext No h h'):Se h' bs ms bp mp be me st sk ov cnt L P R :=
 ⟨x.obj k.bm aO,k.stm.ext x aO,x.obj k.pb aO,k.pm.ext x aO,x.obj k.eb aO,k.em.ext x aO,k.ne⟩
def Kf (h h':ah):Prop:=∀ (q:Nat) (cs:Array Value),h[q]?=some (Obj.cells cs 42 (0,0))→h'[q]?=some (Obj.cells cs 42 (0,0))
theorem Kf.trans {h h1 h2:ah} (a:Kf h h1) (b:Kf h1 h2):Kf h h2:=fun q cs hq=>b q cs (a q cs hq)
theorem vu {h:ah}:ag Tryz.prog 24 ⟨[]⟩ h fun u h'=>∃ be me,u=.pointer (some ⟨be,0,none⟩)∧h'[be]?=some (.cells ⟨[.map (some me),In 0]⟩ 104 (0,0))∧Mp .string St h' me ([]:List (List UInt8 × Value))∧h.size≤be∧h.size≤me∧Ext No h h':=by
 refine calls [] Tryz.func24 rfl Tryz.ntmps24 rfl trivial ?_
 refine G2 ?_;refine WC.sr ?_;refine WL.aj iz rfl rfl rfl ?_
 rintro _ h1 ⟨b1,rfl,bR,aR,az⟩
 refine WL.step (aF (vs:=[_]) (cs:=[_,_]) (fun | [a0]=>[a0,(.int .i64 0)] | _=>[]) rfl rfl (by kernel_rfl)) rfl rfl rfl ?_
 refine WL.aj (aG rfl) rfl rfl rfl ?_
 rintro _ h2 ⟨b2,rfl,gg,bH,aI⟩
 refine Go ?_;refine Gt ?_
 exact ⟨b2,b1,rfl,bH,⟨_,_,aI.obj aR id,MapKept.stamped_empty 0,rfl⟩,by have:=az.size;omega,bR,az.trans aI⟩
theorem rQ {h:ah} (e:Option Addr):ag Tryz.prog 49 ⟨[.pointer e]⟩ h fun u h'=>∃ bs ms bp mp,u=.pointer (some ⟨bs,0,none⟩)∧h'[bs]?=some (.cells ⟨[.map (some ms),.pointer (some ⟨bp,0,none⟩),.pointer e,.int .u8 73,.bool false,.bool false]⟩ 153 (0,0))∧Mp .string St h' ms ([]:List (List UInt8 × Value)) ∧
   h'[bp]?=some (.cells ⟨[.map (some mp)]⟩ 189 (0,0))∧Mp .string St h' mp ([]:List (List UInt8 × Value))∧h.size≤ms∧ms < mp∧h.size≤bp∧h.size≤bs∧Ext No h h':=by
 refine calls [(0,_)] Tryz.func49 rfl Tryz.ntmps49 rfl ⟨rfl,trivial⟩ ?_
 refine G2 ?_;refine WC.sr ?_;refine WL.aj iz rfl rfl rfl ?_
 rintro _ h1 ⟨b1,rfl,bR,aR,az⟩
 refine WL.call (vs:=[]) rfl Tryz.call84 rfl (yI) rfl rfl rfl ?_
 rintro _ h2 ⟨bp,mp,rfl,hbp,hmp,hgp,hgm,aI⟩
 refine Go ?_;refine WL.step (aF (vs:=[_,_,_,_]) (cs:=[_,_,_,_,_,_]) (fun | [a0,a1,a2,a3]=>[a0,a1,a2,a3,(.bool false),(.bool false)] | _=>[]) rfl rfl (by kernel_rfl)) rfl rfl rfl ?_
 refine WL.aj (aG rfl) rfl rfl rfl ?_
 rintro _ h3 ⟨b3,rfl,gl,bq,aQ⟩
 have l1:=ai aR
 refine Go ?_;refine Gs [(2,_)] ?_;refine Gt ?_
 exact ⟨b3,b1,bp,mp,rfl,bq,⟨_,_,(aI.trans aQ).obj aR id,MapKept.stamped_empty 0,rfl⟩,aQ.obj hbp aO,hmp.ext aQ aO,bR,by omega,by have:=az.size;omega,by have:=az.size;have:=aI.size;omega,(az.trans aI).trans aQ⟩
section
variable {h:ah} {b:Nat} {m p:Value} {e:Option Addr} {st:Int} {sk ov:Bool}
theorem kW {a:Addr} (hb:h[b]?=some (.cells ⟨[m,p,.pointer (some a),.int .u8 st,.bool sk,.bool ov]⟩ 153 (0,0))):ag Tryz.prog 99 ⟨[.pointer (some ⟨b,0,none⟩)]⟩ h fun u h'=>u=.bool (!ov)∧h'=h:=by
 cases ov
 all_goals
   refine calls [(0,_)] Tryz.func99 rfl Tryz.ntmps99 rfl ⟨rfl,trivial⟩ ?_
   all_goals (refine G2 ?_;refine G2 ?_;refine WL.step (dQ Tryz.underlying90 rfl rfl) rfl rfl rfl (Go ?_);refine bK 5 ?_ TT.mk;refine Gg ?_;refine WL.step (ae rfl) rfl rfl rfl ?_;refine Gg ?_;refine Ld ?_;refine WL.step (dQ Tryz.underlying46 rfl rfl) rfl rfl rfl (Go ?_);refine bK 12 ?_ TT.mk;refine Gg ?_;refine WL.step (ae rfl) rfl rfl rfl ?_;refine Gg ?_;refine Ld ?_;refine Gg ?_;refine Go ?_;refine Gs [(2,_)] ?_;refine Gt ?_;exact ⟨rfl,rfl⟩)
theorem ES (hb:h[b]?=some (.cells ⟨[m,p,.pointer e,.int .u8 st,.bool sk,.bool ov]⟩ 153 (0,0))):ag Tryz.prog 59 ⟨[.pointer (some ⟨b,0,none⟩)]⟩ h fun u h'=>u=.bool ov∧h'=h:=by
 refine calls [(0,_)] Tryz.func59 rfl Tryz.ntmps59 rfl ⟨rfl,trivial⟩ ?_
 refine G2 ?_;refine G2 ?_;refine WL.step (dQ Tryz.underlying90 rfl rfl) rfl rfl rfl (Go ?_)
 refine bK 5 ?_ TT.mk
 refine Gg ?_;refine WL.step (ae rfl) rfl rfl rfl ?_;refine Gg ?_;refine Ld ?_;refine Go ?_;refine Gs [(2,_)] ?_;refine Gt ?_
 exact ⟨rfl,rfl⟩
end
theorem dV {h:ah} {b fb:Nat} {w s p i:Value} {bg ov:Bool} (hb:h[b]?=some (.cells ⟨lR w (.pointer (some ⟨fb,0,none⟩)) s p i bg ov⟩ 96 (0,0))):ag Tryz.prog 51 ⟨[.pointer (some ⟨b,0,none⟩)]⟩ h fun u h'=>u=.bool true∧h'=h:=by
 refine calls [(0,_)] Tryz.func51 rfl Tryz.ntmps51 rfl ⟨rfl,trivial⟩ ?_
 refine G2 ?_;refine G2 ?_;refine WL.step (dQ Tryz.underlying44 rfl rfl) rfl rfl rfl (Go ?_)
 refine bK 5 ?_ TT.mk
 refine Gg ?_;refine WL.step (ae rfl) rfl rfl rfl ?_;refine Gg ?_;refine WL.ld rfl (by first | exact aa hb rfl | assumption) rfl rfl rfl ?_
 refine WL.step (dQ Tryz.underlying87 rfl rfl) rfl rfl rfl (Go ?_);refine Gs [(2,_)] ?_;refine Gt ?_
 exact ⟨rfl,rfl⟩
abbrev Gy:List Value:=[.int .u8 0,.int .u8 0,St [],St [],St [],.slice none 0 0,.slice none 0 0,.slice none 0 0,.slice none 0 0,In 0]
theorem nb {h:ah}:ag Tryz.prog 50 ⟨[.slice none 0 0]⟩ h fun u h'=>u=.slice none 0 0∧h'=h:=by
 refine calls [(0,_)] Tryz.func50 rfl Tryz.ntmps50 rfl ⟨rfl,trivial⟩ ?_
 refine G2 ?_;refine G3 ?_;refine WL.step (cR Tryz.underlying60 rfl rfl) rfl rfl rfl ?_;refine Gn ?_
 refine aH 1 2 ?_ TT.mk
 all_goals (refine aw 1 ?_)
 refine G2 ?_;refine Gt ?_
 exact ⟨rfl,rfl⟩
theorem ET {h:ah} {e:Option Addr}:ag Tryz.prog 23 ⟨[.pointer e,.slice none 0 0,In 0]⟩ h fun u h'=>∃ b fb s,u=.pointer (some ⟨b,0,none⟩)∧h'[b]?=some (.cells ⟨lR (.slice none 0 0) (.pointer (some ⟨fb,0,none⟩)) s (.slice none 0 0) (In 0) false false⟩ 96 (0,0))∧Fw h' fb false (.slice none 0 0) []∧h.size≤b∧h.size≤fb∧Ext No h h':=by
 refine calls [(0,_),(1,_),(2,_)] Tryz.func23 rfl Tryz.ntmps23 rfl ⟨rfl,rfl,rfl,trivial⟩ ?_
 refine G2 ?_;refine WC.sr ?_;refine WL.call (vs:=[_,_,_]) rfl Tryz.call48 rfl (yu) rfl rfl rfl ?_
 rintro _ h1 ⟨fb,rfl,kf,hgf,az⟩
 refine Go ?_;refine Gs [(0,_),(1,_),(2,_),(7,_),(8,_)] ?_;refine G3 ?_
 refine aH 1 2 ?_ TT.mk
 all_goals (refine aw 2 ?_)
 refine WC.skip ?_;refine Gn ?_;refine G2 ?_;refine WL.call (vs:=[_]) rfl Tryz.call49 rfl (rQ e) rfl rfl rfl ?_
 rintro _ h2 ⟨bs,ms,bp,mp,rfl,_,_,_,_,_,_,_,_,aI⟩
 refine Go ?_;refine WL.call (vs:=[_]) rfl Tryz.call50 rfl (nb) rfl rfl rfl ?_
 rintro _ hz ⟨rfl,_⟩
 subst hz
 refine Go ?_;refine WL.step (aF (vs:=[_,_,_,_]) (cs:=[_,_,_,_,_,_,_]) (fun | [a1,a2,a3,a4]=>[(.slice none 0 0),a1,a2,a3,a4,(.bool false),(.bool false)] | _=>[]) rfl rfl (by kernel_rfl)) rfl rfl rfl ?_
 refine WL.aj (aG rfl) rfl rfl rfl ?_
 rintro _ h3 ⟨b,rfl,gl,bq,aQ⟩
 refine Go ?_;refine Gs [(6,_)] ?_;refine Gt ?_
 exact ⟨b,fb,_,rfl,bq,(kf.aq aI).aq aQ,by have:=az.size;have:=aI.size;omega,hgf,(az.trans aI).trans aQ⟩
theorem Ca {h:ah} {b fb:Nat} {w s p i:Value} {bg:Bool} (hb:h[b]?=some (.cells ⟨lR w (.pointer (some ⟨fb,0,none⟩)) s p i bg false⟩ 96 (0,0))):ag Tryz.prog 28 ⟨[.pointer (some ⟨b,0,none⟩)]⟩ h fun u h'=>u=.bool false∧h'=h:=by
 have kr:=dV hb
 refine calls [(0,_)] Tryz.func28 rfl Tryz.ntmps28 rfl ⟨rfl,trivial⟩ ?_
 refine G2 ?_;refine G2 ?_;refine WL.call (vs:=[_]) rfl Tryz.call51 rfl (kr) rfl rfl rfl ?_
 rintro _ hq ⟨rfl,hz⟩
 replace hz:=hz.symm
 subst hz
 refine Go ?_
 refine bK 5 ?_ TT.mk
 refine Gg ?_;refine WL.step (ae rfl) rfl rfl rfl ?_;refine Gg ?_;refine WL.ld rfl (by first | exact aa hb rfl | assumption) rfl rfl rfl (Go ?_)
 refine Gs [(2,_)] ?_;refine Gt ?_
 exact ⟨rfl,rfl⟩
theorem vv {h:ah} {b fb:Nat} {w s p i v x:Value} {bg ty:Bool} {l m:List UInt8} (hb:h[b]?=some (.cells ⟨lR w (.pointer (some ⟨fb,0,none⟩)) s p i bg false⟩ 96 (0,0))) (kf:Fw h fb ty v l) (hr:Rd h x 1 m.length (bA m)) (hl:l.length+m.length≤262144) :
   ag Tryz.prog 25 ⟨[.pointer (some ⟨b,0,none⟩),x]⟩ h fun u h'=>u=In 0∧∃ v',Fw h' fb ty v' (l++m)∧Ext (fun q=>q=fb∨v.ownBlock=some q) h h'∧∀ q,v'.ownBlock=some q→v.ownBlock=some q∨h.size≤q:=by
 have kr:=dV hb
 obtain ⟨A,c,rfl,_⟩:=id hr
 refine calls [(0,_),(1,_)] Tryz.func25 rfl Tryz.ntmps25 rfl ⟨rfl,rfl,trivial⟩ ?_
 refine G2 ?_;refine WC.seq ?_;refine WC.block ?_;refine G2 ?_;refine WL.call (vs:=[_]) rfl Tryz.call51 rfl (kr) rfl rfl rfl ?_
 rintro _ hq ⟨rfl,hz⟩
 replace hz:=hz.symm
 subst hz
 refine Go ?_;refine Gs [(0,_),(1,_),(5,_)] ?_
 refine aH 1 2 ?_ TT.mk
 all_goals (refine aw 2 ?_)
 refine G2 ?_;refine WL.step (ae rfl) rfl rfl rfl (Go ?_);refine WL.ld rfl (by first | exact aa hb rfl | assumption) rfl rfl rfl (Go ?_)
 refine Gs [(0,_),(1,_),(9,_)] ?_
 refine aH 3 4 ?_ TT.mk
 all_goals (refine aw 4 ?_)
 refine WC.skip ?_;refine Gn ?_;refine G2 ?_;refine WL.step (ae rfl) rfl rfl rfl (Go ?_);refine WL.ld rfl (by first | exact aa hb rfl | assumption) rfl rfl rfl (Go ?_)
 refine WL.call (vs:=[_,_]) rfl Tryz.call52 rfl (BS kf m hr hl) rfl rfl rfl ?_
 rintro _ h2 ⟨rfl,v2,Bt,aI,eI⟩
 refine Go ?_;refine Gs [(4,_)] ?_;refine Gt ?_
 exact ⟨rfl,v2,Bt,aI,eI⟩
theorem Cb {k:Int} {v:Value} {xs:List Value} (hv:v.oneCell'=true) (hx:∀ x∈xs,x.oneCell'=true):∀ x∈Value.int .u8 k :: v :: xs,x.oneCell'=true:=fun x h=>by
 simp only [List.mem_cons] at h
 rcases h with rfl | rfl | h
 · rfl
 · exact hv
 · exact hx x h
end Go.Proofs.YtopgddfgefnmbaaGreatDoor
namespace Go.RK
open Go
section
variable {P:Program} {f:Fr} {h:ah} {d:Option Tmp} {ty:TypeId} {pos:String} {af:Array Edge} {g:Option (Nat × Bool)}
theorem rR {t e:TypeId} {x y:Operand} {b o l sz k:Nat} {kd:IntKind} {i:Int} (hu:P.underlying t=some (.array l e)) (hz:∀ w,(sizeOf e).run P w=.ok sz w)
   (hx:f.ev x=some (.pointer (some ⟨b,o,Option.none⟩))) (hy:f.ev y=some (.int kd i)) (hi:i=(k:Int)) (hk:k < l) :
   bN P f ⟨d,.indexAddr t x y,ty,pos,af,g⟩ h (.pointer (some ⟨b,o+k * sz,Option.none⟩)):=fun ρ w ha _=>by
 subst hi
 have h1:(0:Int)≤k∧(k:Int) < l:=⟨by omega,by omega⟩
 have hs:(Instr.sureAddr (.pointer (some ⟨b,o,Option.none⟩))).run P w=.ok ⟨b,o,Option.none⟩ w:=rfl
 simp [execOp,ha _ _ hx,ha _ _ hy,Instr.indexAt,asIntOf,run_underlying hu,h1,hz,hs,hk,Addr.add_lit]
end
end Go.RK
