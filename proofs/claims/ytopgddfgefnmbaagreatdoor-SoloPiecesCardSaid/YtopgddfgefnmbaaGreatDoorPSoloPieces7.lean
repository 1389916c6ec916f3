/-
  SEVERAL TEXTS IN ONE: Zv1, Zv2, Zv3, Zv4, Zv5, FsO, Qw1, Qw2, SeQ, Mv1.
-/
import Derived.Test.YtopgddfgefnmbaaGreatDoorPSoloPieces6
import Derived.Test.YtopgddfgefnmbaaGreatDoorRows
import Derived.Lay
import Derived.LaidLaws
import Derived.LaidHandle
import Derived.Stop.Joined
set_option maxHeartbeats 8000000
set_option maxRecDepth 100000
namespace Go.Proofs.YtopgddfgefnmbaaGreatDoor
open Go Go.RK
theorem qN {h:ah} {b:Nat} {v:Value} {k:Int} {m r:List UInt8} (kf:Fw h b true v (dU k m++r)) (hk:0 < k∧k≤255) (hm:m.length≤60000) (hr:r.length≤100000) :
   ag Tryz.prog 86 ⟨[.pointer (some ⟨b,0,none⟩)]⟩ h fun u h'=>∃ w,u=.tuple ⟨[.agg ⟨[.int .u8 k,w]⟩,.bool true,In 0]⟩∧Own h' w 5 1 m.length (bu m)∧Fw h' b true v (dU k m++r)∧Ext (fun q=>q=b) h h'∧∀ q,w.ownBlock=some q→h.size≤q:=by
 have hbl:(be (4+(m.length:Int)) 4).length=4:=bm ..
 have e1:(dU k m++r).drop 1=be (4+(m.length:Int)) 4++(m++r):=by simp [dU]
 have e3:(dU k m++r).drop (1+4)=m++r:=by rw [← List.drop_drop,e1];exact List.drop_left' hbl
 have e4:((dU k m++r).drop (1+4)).take (4+m.length - 4)=m:=by rw [e3,Nat.add_sub_cancel_left,List.take_left]
 refine (pU kf 1 (4+m.length) rfl (j3 hm) ⟨by omega,by omega⟩ (by rw [List.length_append,ew];omega) (by rw [List.length_append,ew];omega)).mono fun u h' ⟨w,hu,ho,kf',hx,hf⟩=>?_
 rw [e4,Nat.add_sub_cancel_left] at ho
 refine ⟨w,?_,ho,kf',hx,hf⟩
 rw [hu,show np true (dU k m++r)=UInt8.ofNat k.toNat by simp [np,dU],pq hk]
theorem Fm.ok.G8 {h h':ah} {S:Nat→Prop} {f:Fm} (k:f.ok h) (x:Ext S h h') (hS:∀ q,f.A q→¬ S q):f.ok h' :=
 ⟨⟨k.oids.1.ext' x (fun q _ h2=>hS q (.inl h2)),k.oids.2⟩,⟨k.formats.1.ext' x (fun q _ h2=>hS q (.inr (.inl h2))),k.formats.2⟩,⟨k.results.1.ext' x (fun q _ h2=>hS q (.inr (.inr (.inl h2)))),k.results.2⟩,k.params.ext x fun q hq=>hS q (.inr (.inr (.inr hq)))⟩
structure nV where
 k:Int
 c:Int
 p:Value
 f:Fm
def nV.cells (x:nV):List Value:=DZ x.k [In x.c,In 0,In 0,x.p] x.f.cells
structure nV.one (x:nV):Prop where
 p:x.p.oneCell'=true
 f:x.f.one
theorem nV.one.all {x:nV} (k:x.one):∀ v∈x.cells,v.oneCell'=true:=fun v hv=>by
 unfold nV.cells DZ at hv
 simp only [List.cons_append,List.nil_append,List.mem_cons,List.mem_append,List.not_mem_nil,or_false] at hv
 rcases hv with rfl | rfl | rfl | rfl | rfl | hv | rfl | rfl
 · rfl
 · rfl
 · rfl
 · rfl
 · exact k.p
 · exact k.f v hv
 · rfl
 · rfl
def wm (Φ:ah→nV→ah→Prop):Prop:=∀ x g0 g g' (S:Nat→Prop),Φ g0 x g→Ext S g g'→(∀ q,S q→q < g0.size)→Φ g0 x g'
def HA (Φ:ah→nV→ah→Prop) (g:ah) (u:Value) (g':ah):Prop:=∃ x:nV,u=.agg ⟨x.cells⟩∧x.one∧Φ g x g'∧Ext No g g'
section
variable {h h':ah} {b cb fb:Nat} {v w:Value} {bg:Bool} {l l':List UInt8} {Φ:ah→nV→ah→Prop}
theorem nW (hb:fI h cb fb bg) (k:Fw h fb bg v l) (la:wm Φ)
   (kp:∀ g,Ext No h g→Fw g fb bg v l→ag Tryz.prog 86 ⟨[.pointer (some ⟨fb,0,none⟩)]⟩ g fun u g'=>∃ (m:Int) (A:Option Addr) (n c:Nat) (ok:Bool),u=.tuple ⟨[.agg ⟨[.int .u8 m,.slice A n c]⟩,.bool ok,In 0]⟩∧Fw g' fb bg v l∧Ext (fun q=>q=fb) g g'∧(fI g' cb fb bg→ag Tryz.prog 113 ⟨[.pointer (some ⟨cb,0,none⟩),.agg ⟨[.int .u8 m,.slice A n c]⟩,.bool ok,In 0]⟩ g' (HA Φ g'))) :
   ag Tryz.prog 70 ⟨[.pointer (some ⟨cb,0,none⟩)]⟩ h fun u h'=>(∃ (x:nV) (g0:ah),u=.agg ⟨x.cells⟩∧x.one∧h.size≤g0.size∧Φ g0 x h')∧fI h' cb fb bg∧Fw h' fb bg v l∧Ext (fun q=>q=fb) h h':=by
 have kr:=fun (g:ah) (hb:fI g cb fb bg)=>lh hb
 have nf:=(hb.ne k).1
 refine calls [(0,_)] Tryz.func70 rfl Tryz.ntmps70 rfl ⟨rfl,trivial⟩ ?_
 refine WC.sr ?_;refine WL.ai (av (fun w=>Tryz.zeroValue127 w)) rfl rfl rfl ?_
 rintro _ h1 ⟨b1,rfl,bO,aQ,ay⟩
 have c1:fI h1 cb fb bg:=ay.obj hb aO
 have k1:=k.aq ay
 refine Gn ?_;refine G3 ?_;refine WL.call (vs:=[_]) rfl Tryz.call112 rfl (kr _ c1) rfl rfl rfl ?_
 rintro _ hq ⟨rfl,hz⟩
 replace hz:=hz.symm
 subst hz
 refine Go ?_
 refine aJ 1 2 ?_ TT.mk
 all_goals (refine ax 2 ?_)
 refine WC.skip ?_;refine Gn ?_;refine G2 ?_;refine WL.step (ae rfl) rfl rfl rfl (Go ?_);refine WL.ld rfl (by first | exact aa c1 rfl | assumption) rfl rfl rfl ?_
 refine WL.call (vs:=[_]) rfl Tryz.call86 rfl (kp _ ay k1) rfl rfl rfl ?_
 rintro _ h2 ⟨m2,A2,n2,c2,iN,rfl,k2,aH,ki⟩
 have G9:fI h2 cb fb bg:=aH.obj c1 nf
 have bX:=aH.obj aQ (fun e=>by have:=aj k.bq;omega)
 refine Go ?_;refine WL.call (vs:=[_,_,_,_]) rfl Tryz.call113 rfl (ki G9) rfl rfl rfl ?_
 rintro _ h3 ⟨x3,rfl,u3,p3,aP⟩
 have cm:=aP.obj bX aO
 have k3:=k2.aq aP
 have Jm:fI h3 cb fb bg:=aP.obj G9 aO
 refine WL.az (al Tryz.sizeOf127 rfl rfl rfl cm rfl u3.all) rfl rfl ?_
 rintro _ h4 ⟨bx,aW⟩
 have X4:Ext (fun q=>q=fb) h h4:=((ay.mono fun _ _ e=>e.elim).trans (aH.trans (aP.mono fun _ _ e=>e.elim))).trans' aW (fun q hq e=>by omega)
 have l1:=aj hb
 have l2:=aj k.bq
 have l3:=aj bX
 refine Gn ?_;refine Gs [(2,_)] ?_;refine WC.ret ?_
 repeat' (with_reducible first | refine ba ?_ | refine aV ?_)
 refine bY _ ⟨⟨_,rfl,bB Tryz.isAgg127 Tryz.sizeOf127 (by assumption) rfl⟩,trivial⟩ ?_
 exact ⟨⟨x3,h2,rfl,u3,by have:=ay.size;have:=aH.size;omega,la _ _ _ _ _ p3 aW (fun q e=>by omega)⟩,aW.obj Jm (fun e=>by omega),k3.ext aW (fun e=>by omega) (fun q hq e=>bV k3.own cm (by decide) (e▸hq)),X4⟩
theorem sO (hb:fI h cb fb bg) (k:Fw h fb bg v l)
   (kp:∀ g,Ext No h g→Fw g fb bg v l→ag Tryz.prog 53 ⟨[.pointer (some ⟨fb,0,none⟩)]⟩ g fun u g'=>∃ (m:Int) (A:Option Addr) (n c:Nat) (ok:Bool) (v':Value),u=.tuple ⟨[.agg ⟨[.int .u8 m,.slice A n c]⟩,.bool ok,In 0]⟩∧Fw g' fb bg v' l'∧Ext (fun q=>q=fb∨v.ownBlock=some q) g g'∧v'.ownBlock=v.ownBlock∧(fI g' cb fb bg→ag Tryz.prog 113 ⟨[.pointer (some ⟨cb,0,none⟩),.agg ⟨[.int .u8 m,.slice A n c]⟩,.bool ok,In 0]⟩ g' (HA Φ g'))) :
   ag Tryz.prog 71 ⟨[.pointer (some ⟨cb,0,none⟩)]⟩ h fun _ h'=>∃ v',fI h' cb fb bg∧Fw h' fb bg v' l'∧Ext (fun q=>q=fb∨v.ownBlock=some q) h h'∧v'.ownBlock=v.ownBlock:=by
 have kr:=fun (g:ah) (hb:fI g cb fb bg)=>lh hb
 obtain ⟨nf,nv⟩:=hb.ne k
 have hlt:∀ q,v.ownBlock=some q→q < h.size:=fun q hq=>k.own.lt hq
 have l1:=aj hb
 have l2:=aj k.bq
 refine calls [(0,_)] Tryz.func71 rfl Tryz.ntmps71 rfl ⟨rfl,trivial⟩ ?_
 refine WC.sr ?_;refine WL.ai (av (fun w=>Tryz.zeroValue127 w)) rfl rfl rfl ?_
 rintro _ h1 ⟨b1,rfl,bO,aQ,ay⟩
 have c1:fI h1 cb fb bg:=ay.obj hb aO
 have k1:=k.aq ay
 refine Gn ?_;refine G3 ?_;refine WL.call (vs:=[_]) rfl Tryz.call112 rfl (kr _ c1) rfl rfl rfl ?_
 rintro _ hq ⟨rfl,hz⟩
 replace hz:=hz.symm
 subst hz
 refine Go ?_
 refine aJ 1 2 ?_ TT.mk
 all_goals (refine ax 2 ?_)
 refine WC.skip ?_;refine Gn ?_;refine G2 ?_;refine WL.step (ae rfl) rfl rfl rfl (Go ?_);refine WL.ld rfl (by first | exact aa c1 rfl | assumption) rfl rfl rfl ?_
 refine WL.call (vs:=[_]) rfl Tryz.call53 rfl (kp _ ay k1) rfl rfl rfl ?_
 rintro _ h2 ⟨m2,A2,n2,c2,iN,v2,rfl,k2,aH,JM,ki⟩
 have G9:fI h2 cb fb bg:=aH.obj c1 (fun e=>e.elim nf (fun e=>nv _ e rfl))
 have bX:=aH.obj aQ (fun e=>by rcases e with e | e;omega;have:=hlt _ e;omega)
 refine Go ?_;refine WL.call (vs:=[_,_,_,_]) rfl Tryz.call113 rfl (ki G9) rfl rfl rfl ?_
 rintro _ h3 ⟨x3,rfl,u3,p3,aP⟩
 have cm:=aP.obj bX aO
 have k3:=k2.aq aP
 have Jm:fI h3 cb fb bg:=aP.obj G9 aO
 refine WL.az (al Tryz.sizeOf127 rfl rfl rfl cm rfl u3.all) rfl rfl ?_
 rintro _ h4 ⟨bx,aW⟩
 have X4:Ext (fun q=>q=fb∨v.ownBlock=some q) h h4:=((ay.mono fun _ _ e=>e.elim).trans (aH.trans (aP.mono fun _ _ e=>e.elim))).trans' aW (fun q hq e=>by omega)
 refine Gn ?_;refine Gs [(2,_)] ?_;refine WC.ret ?_
 repeat' (with_reducible first | refine ba ?_ | refine aV ?_)
 refine bY _ ⟨⟨_,rfl,bB Tryz.isAgg127 Tryz.sizeOf127 (by assumption) rfl⟩,trivial⟩ ?_
 exact ⟨v2,aW.obj Jm (fun e=>by omega),k3.ext aW (fun e=>by omega) (fun q hq e=>bV k3.own cm (by decide) (e▸hq)),X4,JM⟩
def Φ0 (_:ah) (x:nV) (_:ah):Prop:=x.k=0
def Φ1 (_:ah) (x:nV) (_:ah):Prop:=x.k=1∧x.c=196608∧∃ A n c,x.p=.slice A n c
def ΦM (f:Fm) (g0:ah) (x:nV) (g:ah):Prop:=x.k=2∧x.f.pl=f.pl∧x.f.ok g∧∀ q,x.f.A q→g0.size≤q
theorem Ha:wm Φ0:=fun _ _ _ _ _ h _ _=>h
theorem Hc:wm Φ1:=fun _ _ _ _ _ h _ _=>h
theorem BU (f:Fm):wm (ΦM f):=fun x g0 g g' S ⟨h1,h2,h3,h4⟩ e hS=>⟨h1,h2,h3.G8 e (fun q hq s=>by have:=h4 q hq;have:=hS q s;omega),h4⟩
def NY:nV:=⟨0,0,.slice none 0 0,JL⟩
theorem wq:JL.one:=by unfold Fm.one;decide
theorem Hd:ag Tryz.prog 113 ⟨[.pointer (some ⟨cb,0,none⟩),.agg ⟨[.int .u8 0,.slice none 0 0]⟩,.bool false,In 0]⟩ h (HA Φ0 h) :=
 BP.mono fun u h' ⟨e,x⟩=>⟨NY,e,⟨rfl,wq⟩,rfl,x⟩
theorem BV {k:Int} (hb:fI h cb fb false) (hw:Rd h w 1 12 (bu iC)):ag Tryz.prog 113 ⟨[.pointer (some ⟨cb,0,none⟩),.agg ⟨[.int .u8 k,w]⟩,.bool true,In 0]⟩ h (HA Φ1 h) :=
 (BO hb hw).mono fun u h' ⟨p,e,x,A,n,c,hp⟩=>⟨⟨1,196608,p,JL⟩,e,⟨by rw [hp];rfl,wq⟩,⟨rfl,rfl,A,n,c,hp⟩,x⟩
theorem D3 {f:Fm} (fw:f.qB) (fm:f.may) (hw:Rd h w 1 (fj f).length (bu (fj f))):ag Tryz.prog 162 ⟨[.agg ⟨[.int .u8 f.kind,w]⟩]⟩ h (HA (ΦM f) h):=by
 have kh:=fun (h':ah) (x:Ext No h h')=>xR f fw fm (hw.aq x)
 obtain ⟨A,c,rfl,_⟩:=id hw
 refine calls [(0,_)] Tryz.func162 rfl Tryz.ntmps162 rfl ⟨rfl,trivial⟩ ?_
 refine WC.sr ?_;refine WL.ai (aB rfl) rfl rfl rfl ?_
 rintro _ h1 ⟨b1,rfl,bO,aQ,ay⟩
 refine WL.ai (av (fun w=>Tryz.zeroValue127 w)) rfl rfl rfl ?_
 rintro _ h2 ⟨b2,rfl,eS,bH,aH⟩
 have X2:=ay.trans aH
 refine Gn ?_;refine WC.sr ?_;refine WL.step (an Tryz.isAgg53 Tryz.sizeOf53 rfl rfl (by exact At.au (aH.obj aQ aO))) rfl rfl rfl ?_
 refine WL.call (vs:=[_]) rfl Tryz.call56 rfl (kh _ X2) rfl rfl rfl ?_
 rintro _ h3 ⟨g,rfl,gp,gO,gA,aP⟩
 refine Go ?_;refine WL.ai (av (fun w=>Tryz.zeroValue42 w)) rfl rfl rfl ?_
 rintro _ h4 ⟨b3,rfl,oF,bx,aW⟩
 refine WL.az (al Tryz.sizeOf42 rfl rfl rfl bx rfl gO.one) rfl rfl ?_
 rintro _ h5 ⟨bT,aN⟩
 have Z5:Ext No h3 h5:=aW.trans' aN (fun q hq e=>by omega)
 have Y5:Ext No h2 h5:=aP.trans Z5
 have G5:=Y5.obj bH aO
 have Ll:=gO.aq Z5
 have l2:=aj bH
 have hx:=ay.size
 have hy:=aH.size
 refine Go ?_;refine Gs [(2,_),(3,_),(4,_)] ?_;refine G3 ?_
 refine aJ 1 2 ?_ TT.mk
 all_goals (refine ax 2 ?_)
 refine WC.skip ?_;refine Gn ?_;refine WC.sr ?_;refine WL.step (an Tryz.isAgg42 Tryz.sizeOf42 rfl rfl (by exact At.au bT)) rfl rfl rfl ?_
 refine WL.step (aD (vs:=[_,_]) (cs:=[_,_,_,_,_,_,_,_,_,_,_,_,_,_,_,_,_]) (fun | [a0,.agg ⟨[a5,a6,a7,a8,a9,gd,rE,a12,wS,wT]⟩]=>[a0,(.int .i64 0),(.int .i64 0),(.int .i64 0),(.slice none 0 0),a5,a6,a7,a8,a9,gd,rE,a12,wS,wT,(St []),(St [])] | _=>[]) rfl rfl (by kernel_rfl)) rfl rfl rfl ?_
 refine WL.az (al Tryz.sizeOf127 rfl rfl rfl G5 rfl (nV.one.all (x:=⟨2,0,.slice none 0 0,g⟩) ⟨rfl,gO.one⟩)) rfl rfl ?_
 rintro _ h6 ⟨bN,aM⟩
 refine Gn ?_;refine Gs [(2,_)] ?_;refine WC.ret ?_
 repeat' (with_reducible first | refine ba ?_ | refine aV ?_)
 refine bY _ ⟨⟨_,rfl,bB Tryz.isAgg127 Tryz.sizeOf127 (by assumption) rfl⟩,trivial⟩ ?_
 exact ⟨⟨2,0,.slice none 0 0,g⟩,rfl,⟨rfl,gO.one⟩,⟨rfl,gp,Ll.G8 aM (fun q hq e=>by have:=gA q hq;omega),fun q hq=>by have:=gA q hq;omega⟩,(X2.trans Y5).trans' aM (fun q hq e=>by omega)⟩
theorem BW {f:Fm} (fw:f.qB) (fm:f.may) (hb:fI h cb fb true) (hw:Rd h w 1 (fj f).length (bu (fj f))):ag Tryz.prog 113 ⟨[.pointer (some ⟨cb,0,none⟩),.agg ⟨[.int .u8 f.kind,w]⟩,.bool true,In 0]⟩ h (HA (ΦM f) h):=by
 unfold fI at hb
 have kf:=fun (h':ah) (x:Ext No h h')=>D3 fw fm (hw.aq x)
 obtain ⟨A,c,rfl,_⟩:=id hw
 refine calls [(0,_),(1,_),(2,_),(3,_)] Tryz.func113 rfl Tryz.ntmps113 rfl ⟨rfl,rfl,rfl,rfl,trivial⟩ ?_
 refine WC.sr ?_;refine WL.ai (aB rfl) rfl rfl rfl ?_
 rintro _ h1 ⟨b1,rfl,bO,aQ,ay⟩
 refine WL.ai (av (fun w=>Tryz.zeroValue127 w)) rfl rfl rfl ?_
 rintro _ h2 ⟨b2,rfl,eS,bH,aH⟩
 have X2:=ay.trans aH
 refine Gn ?_;refine WC.seq ?_;refine WC.block ?_;refine G2 ?_
 refine aJ 1 2 ?_ TT.mk
 all_goals (refine ax 2 ?_)
 refine G2 ?_;refine Gs [(0,_),(5,_),(8,_),(14,_)] ?_
 refine aJ 3 4 ?_ TT.mk
 all_goals (refine ax 4 ?_)
 refine G2 ?_;refine WL.step (ae rfl) rfl rfl rfl (Go ?_);refine WL.ld rfl (by first | exact aa (X2.obj hb aO) rfl | assumption) rfl rfl rfl (Go ?_)
 refine Gs [(5,_),(8,_),(18,_)] ?_
 refine aJ 5 6 ?_ TT.mk
 all_goals (refine ax 5 ?_)
 refine WC.sr ?_;refine WL.step (an Tryz.isAgg53 Tryz.sizeOf53 rfl rfl (by exact At.au (aH.obj aQ aO))) rfl rfl rfl ?_
 refine WL.call (vs:=[_]) rfl Tryz.call162 rfl (kf _ X2) rfl rfl rfl ?_
 rintro _ h3 ⟨x3,rfl,u3,p3,aP⟩
 have gL:=aP.obj bH aO
 have l2:=aj bH
 have hx:=X2.size
 refine WL.az (al Tryz.sizeOf127 rfl rfl rfl gL rfl u3.all) rfl rfl ?_
 rintro _ h4 ⟨bx,aW⟩
 obtain ⟨q1,q2,q3,q4⟩:=BU f _ _ _ _ _ p3 aW (fun q e=>by omega)
 refine Gn ?_;refine Gs [(8,_)] ?_;refine WC.ret ?_
 repeat' (with_reducible first | refine ba ?_ | refine aV ?_)
 refine bY _ ⟨⟨_,rfl,bB Tryz.isAgg127 Tryz.sizeOf127 (by assumption) rfl⟩,trivial⟩ ?_
 exact ⟨x3,rfl,u3,⟨q1,q2,q3,fun q hq=>by have:=q4 q hq;omega⟩,(X2.trans aP).trans' aW (fun q hq e=>by have:=ay.size;omega)⟩
theorem BX (hb:fI h cb fb bg) (k:Fw h fb bg v l) (hp:Part (if bg=true then 1 else 0) l) (hm:l.length≤1000000) :
   ag Tryz.prog 70 ⟨[.pointer (some ⟨cb,0,none⟩)]⟩ h fun u h'=>(∃ (x:nV) (g0:ah),u=.agg ⟨x.cells⟩∧x.one∧h.size≤g0.size∧Φ0 g0 x h')∧fI h' cb fb bg∧Fw h' fb bg v l∧Ext (fun q=>q=fb) h h' :=
 nW hb k Ha fun g _ kg=>(qy kg _ rfl hp hm).mono fun u g' ⟨e,k',x⟩=>⟨0,none,0,0,false,e,k',x,fun _=>Hd⟩
theorem B7 {r:List UInt8} (hb:fI h cb fb false) (k:Fw h fb false v (dr++r)) (hr:r.length≤100000) :
   ag Tryz.prog 70 ⟨[.pointer (some ⟨cb,0,none⟩)]⟩ h fun u h'=>(∃ (x:nV) (g0:ah),u=.agg ⟨x.cells⟩∧x.one∧h.size≤g0.size∧Φ1 g0 x h')∧fI h' cb fb false∧Fw h' fb false v (dr++r)∧Ext (fun q=>q=fb) h h' :=
 nW hb k Hc fun g _ kg=>(pU kg 0 16 rfl (by rw [List.drop_zero,List.take_append_of_le_length (by decide)];decide) (by decide) (by rw [List.length_append,cH];omega) (by rw [List.length_append,cH];omega)).mono fun u g' ⟨w,e,ho,k',x,_⟩=>by
   have eb:((dr++r).drop (0+4)).take (16 - 4)=iC:=by
     rw [List.drop_append_of_le_length (by decide),List.take_append_of_le_length (by decide)]
     decide
   rw [eb] at ho
   obtain ⟨A,c,rfl,_⟩:=id ho.slice
   exact ⟨_,A,_,c,true,e,k',x,fun hc=>BV hc ho.rd⟩
theorem B8 {r:List UInt8} (hb:fI h cb fb false) (k:Fw h fb false v (dr++r)) (hr:r.length≤100000) :
   ag Tryz.prog 71 ⟨[.pointer (some ⟨cb,0,none⟩)]⟩ h fun _ h'=>∃ v',fI h' cb fb false∧Fw h' fb false v' r∧Ext (fun q=>q=fb∨v.ownBlock=some q) h h'∧v'.ownBlock=v.ownBlock :=
 sO (Φ:=Φ1) hb k fun g _ kg=>(vC kg 0 16 rfl (by rw [List.drop_zero,List.take_append_of_le_length (by decide)];decide) (by decide) (by rw [List.length_append,cH];omega) (by rw [List.length_append,cH];omega)).mono fun u g' ⟨w,v',e,ho,k',x,_,hv⟩=>by
   have eb:((dr++r).drop (0+4)).take (16 - 4)=iC:=by
     rw [List.drop_append_of_le_length (by decide),List.take_append_of_le_length (by decide)]
     decide
   have er:(dr++r).drop (0+16)=r:=by rw [Nat.zero_add,← cH,List.drop_left]
   rw [eb] at ho
   rw [er] at k'
   obtain ⟨A,c,rfl,_⟩:=id ho.slice
   exact ⟨_,A,_,c,true,v',e,k',x,hv,fun hc=>BV hc ho.rd⟩
theorem Ca {f:Fm} {r:List UInt8} (fw:f.qB) (fm:f.may) (hb:fI h cb fb true) (k:Fw h fb true v (dU f.kind (fj f)++r)) (hr:r.length≤100000) :
   ag Tryz.prog 70 ⟨[.pointer (some ⟨cb,0,none⟩)]⟩ h fun u h'=>(∃ (x:nV) (g0:ah),u=.agg ⟨x.cells⟩∧x.one∧h.size≤g0.size∧ΦM f g0 x h')∧fI h' cb fb true∧Fw h' fb true v (dU f.kind (fj f)++r)∧Ext (fun q=>q=fb) h h' :=
 nW hb k (BU f) fun g _ kg=>(qN kg (lV fm.kind) (by have:=jg fw;omega) hr).mono fun u g' ⟨w,e,ho,k',x,_⟩=>by
   obtain ⟨A,c,rfl,_⟩:=id ho.slice
   exact ⟨_,A,_,c,true,e,k',x,fun hc=>BW fw fm hc ho.rd⟩
theorem Cb {f:Fm} {r:List UInt8} (fw:f.qB) (fm:f.may) (hb:fI h cb fb true) (k:Fw h fb true v (dU f.kind (fj f)++r)) (hr:r.length≤100000) :
   ag Tryz.prog 71 ⟨[.pointer (some ⟨cb,0,none⟩)]⟩ h fun _ h'=>∃ v',fI h' cb fb true∧Fw h' fb true v' r∧Ext (fun q=>q=fb∨v.ownBlock=some q) h h'∧v'.ownBlock=v.ownBlock :=
 sO (Φ:=ΦM f) hb k fun g _ kg=>(Bv kg (lV fm.kind) (by have:=jg fw;omega) hr).mono fun u g' ⟨w,v',e,ho,k',x,_,hv⟩=>by
   obtain ⟨A,c,rfl,_⟩:=id ho.slice
   exact ⟨_,A,_,c,true,v',e,k',x,hv,fun hc=>BW fw fm hc ho.rd⟩
end
noncomputable def dQ (ps:List iw):List UInt8:=(ps.flatMap jf).flatMap fun y=>dU y.1 y.2
theorem sQ (l m:List iw):dQ (l++m)=dQ l++dQ m:=by unfold dQ;rw [List.flatMap_append,List.flatMap_append]
theorem qO {ps:List iw} (h:∀ p∈ps,iM p):(dQ ps).length≤ps.length * 30000005:=by
 unfold dQ
 rw [List.flatMap_assoc]
 refine mT _ 30000005 ps fun p hp=>?_
 have hm:=jz (h p hp)
 unfold jf at hm ⊢
 split
 · rename_i hy
   rw [if_pos hy] at hm
   have:=(hm _ (List.mem_singleton.2 rfl)).1
   simp only [List.flatMap_cons,List.flatMap_nil,List.append_nil,ew]
   dsimp only at this
   omega
 · exact Nat.zero_le _
theorem sR {p:iw} {l:List UInt8} (h:jf p=[(p.kind,l)]):dQ [p]=dU p.kind l:=by simp [dQ,h]
theorem xV {p:iw} (h:jf p=[]):dQ [p]=[]:=by simp [dQ,h]
theorem D4 {h:ah} {v:Value} (L:List Bk) (hv:Rd h v 11 L.length (L.flatMap Bk.cells)) (hm:L.length≤1000) (EA:∀ y∈L,iM y.p) (hone:∀ y∈L,∀ v∈y.cells,v.oneCell'=true)
   (hke:∀ y∈L,∀ g:ah,Ext No h g→ag Tryz.prog 98 ⟨[.agg ⟨y.cells⟩]⟩ g (LV y.p g)) :
   ag Tryz.prog 73 ⟨[v]⟩ h fun u h'=>Own h' u 5 1 (dQ (L.map Bk.p)).length (bu (dQ (L.map Bk.p)))∧Ext No h h'∧∀ k,u.ownBlock=some k→h.size≤k:=by
 have hlen:∀ j,(dQ ((L.take j).map Bk.p)).length≤1000 * 30000005:=fun j=>by
   refine Nat.le_trans (qO fun p hp=>?_) (Nat.mul_le_mul_right _ (by rw [List.length_map,List.length_take];omega))
   obtain ⟨y,hy,rfl⟩:=List.mem_map.1 hp
   exact EA y (List.mem_of_mem_take hy)
 obtain ⟨A,c,rfl,_⟩:=id hv
 refine calls [(0,_)] Tryz.func73 rfl Tryz.ntmps73 rfl ⟨rfl,trivial⟩ ?_
 refine G2 ?_;refine G2 ?_;refine G3 ?_;refine WC.block ?_;refine WC.bC (X:=Nat × Value) (fun x=>([(10,In (x.1:Int)),(3,x.2)]:Fr)) [(8,_),(9,_)] (fun y h'=>y.1≤L.length∧Ext No h h'∧Own h' y.2 5 1 (dQ ((L.take y.1).map Bk.p)).length (bu (dQ ((L.take y.1).map Bk.p)))∧∀ k,y.2.ownBlock=some k→h.size≤k) (fun y=>L.length - y.1) ((0,.slice none 0 0)) ⟨rfl,rfl,rfl,rfl,trivial⟩ (by exact ⟨Nat.zero_le _,.refl _ _,Own.nil _ _ _,fun q hq=>by cases hq⟩) ?_
 rintro ⟨j,w⟩ h1 ⟨hj,ay,fE,fM⟩
 dsimp only at hj fE fM
 refine WC.sub [(3,_),(10,_),(8,_),(9,_)] ⟨rfl,rfl,rfl,rfl,trivial⟩ ?_
 dsimp only
 refine G2 ?_;refine WC.seq ?_
 refine aJ 1 2 (Hb.mk fun hb=>?_) (Hb.mk fun hb=>?_)
 all_goals try (
 refine ax 1 ?_
 refine WC.skip ?_
 skip)
 all_goals try (
 refine ax 2 ?_
 refine WC.exit ?_
 repeat' (with_reducible first | refine aU ?_ | refine aG rfl ?_ | refine aI ?_ | refine aL ?_ | refine aS ?_)
 refine Br.out (i:=1000) ?_
 skip)
 all_goals (refine Gn ?_;first | refine Br.ab ?_ | refine WC.seq ?_)
 all_goals (first | refine Br.ab ?_ | refine WC.block ?_)
 all_goals (first | refine Br.ab ?_ | refine WC.sr ?_)
 all_goals (
  first
    | (refine Br.ab ?_)
    | (obtain ⟨y,hy⟩:∃ y,L[j]?=some y:=⟨_,List.getElem?_eq_getElem (by omega)⟩
       have hmy:=List.mem_of_getElem? hy
       obtain ⟨bL,oL,hA,hbL,hat⟩:=Rd.at_ (hv.aq ay) (by omega)
       subst hA
       have hel:=hat.elem (sz:=11) (fun _=>rfl) hy
       have kee:=hke y hmy
       have hlj:=hlen j
       have NZ:=hlen (j+1)
       have htk:dQ ((L.take (j+1)).map Bk.p)=dQ ((L.take j).map Bk.p)++dQ [y.p]:=by rw [List.take_add_one,hy,List.map_append,sQ];rfl))
 all_goals (first | refine Br.ab ?_ | (refine WL.step (aF Tryz.underlying80 Tryz.sizeOf140 rfl rfl rfl (by omega) (by first | rfl | assumption)) rfl rfl rfl ?_))
 all_goals (first | refine Br.ab ?_ | (refine WL.step (an Tryz.isAgg140 Tryz.sizeOf140 rfl rfl (by exact hel)) rfl rfl rfl ?_))
 all_goals (
  first
    | (refine Br.ab ?_)
    | (refine WL.ai (av (fun w=>Tryz.zeroValue140 w)) rfl rfl rfl ?_
       rintro _ h2 ⟨b5,rfl,pQ,bT,aH⟩))
 all_goals (
  first
    | (refine Br.ab ?_)
    | (refine WL.az (al Tryz.sizeOf140 rfl rfl rfl bT rfl (fun v hv=>hone y hmy v hv)) rfl rfl ?_
       rintro _ h3 ⟨xg,aP⟩
       have X3:Ext No h1 h3:=aH.trans' aP (fun q hq e=>by omega)))
 all_goals (refine Gn ?_;first | refine Br.ab ?_ | refine WC.sr ?_)
 all_goals (first | refine Br.ab ?_ | (refine WL.step (an Tryz.isAgg140 Tryz.sizeOf140 rfl rfl (by exact At.au xg)) rfl rfl rfl ?_))
 all_goals (
  first
    | (refine Br.ab ?_)
    | (refine WL.call (vs:=[_]) rfl Tryz.call98 rfl (kee _ (ay.trans X3)) rfl rfl rfl ?_
       rintro _ h4 ⟨k4,v4,e4,rfl,aW,hen⟩
       have N0:v4.oneCell'=true:=by
        rcases hen with ⟨_,_,rfl⟩ | ⟨_,_,l,_,o,_⟩
        · rfl
        · exact vZ o))
 all_goals (refine Go ?_)
 all_goals (
  first
    | (refine Br.ab ?_)
    | (refine WL.ai (av (fun w=>Tryz.zeroValue53 w)) rfl rfl rfl ?_
       rintro _ h5 ⟨b6,rfl,oG,bN,aN⟩))
 all_goals (
  first
    | (refine Br.ab ?_)
    | (refine WL.az (al Tryz.sizeOf53 rfl rfl rfl bN rfl (by intro x hx;simp only [List.mem_cons,List.not_mem_nil,or_false] at hx;rcases hx with rfl | rfl;rfl;exact N0)) rfl rfl ?_
       rintro _ h6 ⟨tJ,aM⟩
       have BS:Ext No h4 h6:=aN.trans' aM (fun q hq e=>by omega)
       have X6:Ext No h1 h6:=(X3.trans aW).trans BS))
 all_goals (refine Go ?_;first | refine Br.ab ?_ | refine Gs [(3,_),(6,_),(7,_),(8,_),(9,_),(10,_)] ?_)
 all_goals (first | refine Br.ab ?_ | refine WC.seq ?_)
 all_goals (first | refine Br.ab ?_ | refine WC.sr ?_)
 all_goals (refine Go ?_;first | refine Br.ab ?_ | (refine aJ 3 4 (Hb.mk fun hb=>?_) (Hb.mk fun hb=>?_)))
 all_goals try (
 refine ax 3 ?_
 refine WC.exit ?_
 repeat' (with_reducible first | refine aU ?_ | refine aG rfl ?_ | refine aI ?_ | refine aL ?_ | refine aS ?_)
 refine Br.out (i:=1001) ?_
 skip)
 all_goals try (
 refine ax 4 ?_
 refine WC.skip ?_
 skip)
 all_goals (refine Gn ?_;first | refine Br.ab ?_ | refine WC.region ?_)
 all_goals (
  first
    | (refine Br.ab ?_)
    | (obtain ⟨rfl, l4, Ml, fF, Pc⟩ : k4 = y.p.kind ∧ ∃ l, jf y.p = [(y.p.kind, l)] ∧ Own h4 v4 5 1 l.length (bu l) ∧ ∀ q, v4.ownBlock = some q → h3.size ≤ q := by
        rcases hen with ⟨z,_⟩ | ⟨z1,z2,z3⟩
        · exfalso;simp_all
        · exact ⟨z2,z3⟩
       have hyl:=jz (EA y hmy) _ (by rw [Ml];exact List.mem_singleton.2 rfl)
       dsimp only at hyl
       have G7:=fF.ext BS (fun _ _=>aO)))
 all_goals (first | refine Br.ab ?_ | refine WL.step (ak rfl) rfl rfl rfl ?_)
 all_goals (first | refine Br.ab ?_ | (refine WL.step (an Tryz.isAgg53 Tryz.sizeOf53 rfl rfl (by exact At.au tJ)) rfl rfl rfl ?_))
 all_goals (
  first
    | (refine Br.ab ?_)
    | (refine WL.call (vs:=[_]) rfl Tryz.call115 rfl (vv y.p.kind hyl.2 l4 G7.rd (by omega)) rfl rfl rfl ?_
       rintro v7 h7 ⟨gM,bh⟩
       obtain ⟨A7,c7,rfl,_⟩:=id gM.slice
       have X7:Ext No h1 h7:=X6.trans bh
       have hfy:=ew y.p.kind l4))
 all_goals (
  first
    | (refine Br.ab ?_)
    | (refine WL.ai (aT (sz:=1) (bytes:=1) rfl Tryz.underlying23 (show Tryz.prog.info? 5=some Tryz.t5 by kernel_rfl) rfl rfl rfl rfl (by decide) rfl rfl (fE.ext X7 (fun _ _=>aO)) gM.rd (by intro c hc;obtain ⟨b,_,rfl⟩:=List.mem_map.1 hc;rfl) (by unfold maxLen;omega) (by omega)) rfl rfl rfl ?_
       rintro v8 h8 ⟨iI,bD,pM⟩
       have X8:Ext No h h8:=(ay.trans X7).trans' bD (fun q hq e=>by have:=fM q e;omega)
       have Lk:Own h8 v8 5 1 (dQ ((L.take (j+1)).map Bk.p)).length (bu (dQ ((L.take (j+1)).map Bk.p))):=by rw [htk,sR Ml,List.length_append,gn];exact iI))
 all_goals (refine Go ?_;try (refine Br.mk (i:=1001) ?_))
 all_goals (refine Gn ?_;first | refine Br.ab ?_ | refine Gs [(3,_),(8,_),(9,_),(10,_)] ?_)
 all_goals (first | refine Br.ab ?_ | refine WC.region ?_)
 all_goals (refine Go ?_;first | refine Br.ab ?_ | (exact ⟨(j+1,_),⟨rfl,rfl,rfl,rfl,trivial⟩,(by first | exact ⟨by omega,X8,Lk,bR pM fM (by have:=X7.size;have:=ay.size;omega)⟩ | exact ⟨by omega,ay.trans X6,by dsimp only;rw [htk,xV (by rcases hen with ⟨_,z,_⟩ | ⟨z,_⟩;exact z;exfalso;simp_all),List.append_nil];exact fE.ext X6 (fun _ _=>aO),fM⟩),(by dsimp only;omega)⟩))
 try (refine Br.mk (i:=1000) ?_)
 refine Gn ?_;refine Gs [(3,_)] ?_;refine G2 ?_;refine Gt ?_
 rw [List.take_of_length_le (by omega)] at fE
 exact ⟨fE,ay,fM⟩
theorem Lm {h0 h1 h:ah} {A:Ad} {s:SP} {S:Nat→Prop} (k:qW h0 h1 A s) {n:Nat} (lm:dV n s) (hn:n < 1000000) (er:Er h) (hz:0 < h0.size) (x:Ext S h1 h) (hS:∀ q,S q→A.z q∧GG h1 q) (x0:h0.size≤h1.size) (f:Fm) (hf:f.ok h) (hF:∀ q,f.F q→h1.size≤q) (fl:gW f) :
   ag Tryz.prog 58 ⟨[.pointer (some ⟨A.bs,0,none⟩),.agg ⟨f.cells⟩]⟩ h fun u h'=>(∃ B,cB h h' u B∧B.map Bk.p=(iy s f.p).2)∧qW h0 h' A (iy s f.p).1∧Ext (Bh h0 h) h h':=by
 obtain ⟨L,P,k1,e1,e2,e3,e4⟩:=k
 obtain ⟨st,sk,ov,cnt,LL,PP⟩:=s
 dsimp only at e1 e2 k1
 subst e1 e2
 have k:=k1.IL x hS
 refine (K3 er (fun e=>by have:=e3 _ e;omega) k (lm.KN hn) f hf (fun q hq e=>by have:=k1.lt e;have:=hF q hq;omega) fl).mono fun u h' ⟨hB,L',P',k',p1,p2,t⟩=>?_
 refine ⟨hB,⟨L',P',k',p1,p2,fun q hq=>?_,e4⟩,t.1.mono fun q _ e=>⟨e3 q e,fun cs T hq=>Classical.byContradiction fun hT=>k.not hq (fun z=>hT (.inl z)) (fun z=>hT (.inr (.inl z))) (fun z=>hT (.inr (.inr z))) e⟩⟩
 by_cases hl:q < h.size
 · exact e3 q (t.2 q hl hq)
 · have:=x.size;omega
structure ji (h0 h:ah) (b cb fb:Nat) (A:Ad) (s:SP) (bg:Bool) (l:List UInt8) (v out:Value) (ob:List UInt8) (dn:Nat):Prop where
 bq:h[b]?=some (.cells ⟨u0 cb A.bs out dn⟩ 125 (0,0))
 own:Own h out 5 1 ob.length (bu ob)
 cl:fI h cb fb bg
 fw:Fw h fb bg v l
 se:qW h0 h A s
 ap:∀ q,out.ownBlock=some q→v.ownBlock ≠ some q
 z:∀ q,A.z q ↔ (q=b∨q=cb∨q=fb∨v.ownBlock=some q∨out.ownBlock=some q)
 x0:h0.size≤h.size
section
variable {h0 h h':ah} {b cb fb:Nat} {A:Ad} {s:SP} {bg bg':Bool} {l l':List UInt8} {v v' out out':Value} {ob ob':List UInt8} {dn dn':Nat} {S:Nat→Prop}
theorem ji.Mm (k:ji h0 h b cb fb A s bg l v out ob dn):∀ q,A.z q→A.z q∧GG h q:=fun q hq=>⟨hq,by
 have kc:=k.cl
 unfold fI at kc
 rcases (k.z q).1 hq with rfl | rfl | rfl | e | e
 · exact ⟨_,_,k.bq,by decide,by decide,by decide,by decide⟩
 · exact ⟨_,_,kc,by decide,by decide,by decide,by decide⟩
 · exact ⟨_,_,k.fw.bq,by decide,by decide,by decide,by decide⟩
 · exact qA k.fw.own (by decide) q e
 · exact qA k.own (by decide) q e⟩
theorem ji.lo (k:ji h0 h b cb fb A s bg l v out ob dn):∀ q,A.z q→h0.size≤q:=by
 obtain ⟨_,_,_,_,_,_,e4⟩:=k.se
 exact e4
theorem ji.aq (k:ji h0 h b cb fb A s bg l v out ob dn) (x:Ext No h h'):ji h0 h' b cb fb A s bg l v out ob dn :=
 ⟨x.obj k.bq aO,k.own.ext x (fun _ _=>aO),x.obj k.cl aO,k.fw.aq x,k.se.aq x,k.ap,k.z,by have:=x.size;have:=k.x0;omega⟩
theorem ji.ne (k:ji h0 h b cb fb A s bg l v out ob dn):b ≠ cb∧b ≠ fb∧cb ≠ fb∧(∀ q,v.ownBlock=some q→q ≠ b∧q ≠ cb∧q ≠ fb)∧∀ q,out.ownBlock=some q→q ≠ b∧q ≠ cb∧q ≠ fb:=by
 have kc:=k.cl
 unfold fI at kc
 have kf:=k.fw.bq
 exact ⟨BT k.bq kc (by decide),BT k.bq kf (by decide),BT kc kf (by decide),fun q hq=>⟨fun e=>bV k.fw.own k.bq (by decide) (e▸hq),fun e=>bV k.fw.own kc (by decide) (e▸hq),fun e=>bV k.fw.own kf (by decide) (e▸hq)⟩,fun q hq=>⟨fun e=>bV k.own k.bq (by decide) (e▸hq),fun e=>bV k.own kc (by decide) (e▸hq),fun e=>bV k.own kf (by decide) (e▸hq)⟩⟩
theorem ji.turn (k:ji h0 h b cb fb A s bg l v out ob dn) (x:Ext S h h') (hS:∀ q,S q→A.z q) (hb:h'[b]?=some (.cells ⟨u0 cb A.bs out' dn'⟩ 125 (0,0))) (ho:Own h' out' 5 1 ob'.length (bu ob')) (hc:fI h' cb fb bg') (hf:Fw h' fb bg' v' l') (ap:∀ q,out'.ownBlock=some q→v'.ownBlock ≠ some q)
   (hv:∀ q,v'.ownBlock=some q→A.z q∨h.size≤q) (hout:∀ q,out'.ownBlock=some q→A.z q∨h.size≤q):ji h0 h' b cb fb { A with z:=fun q=>q=b∨q=cb∨q=fb∨v'.ownBlock=some q∨out'.ownBlock=some q } s bg' l' v' out' ob' dn':=by
 have hx:=x.size
 refine ⟨hb,ho,hc,hf,k.se.JG x (fun q e=>k.Mm q (hS q e)) (fun q hq=>?_) k.x0,ap,fun q=>Iff.rfl,by have:=k.x0;omega⟩
 rcases hq with e | e | e | e | e
 · exact ⟨.inl ((k.z q).2 (.inl e)),by rw [e];exact aj hb⟩
 · exact ⟨.inl ((k.z q).2 (.inr (.inl e))),by rw [e];exact aj hc⟩
 · exact ⟨.inl ((k.z q).2 (.inr (.inr (.inl e)))),by rw [e];exact aj hf.bq⟩
 · exact ⟨hv q e,hf.own.lt e⟩
 · exact ⟨hout q e,ho.lt e⟩
theorem ji.He (k:ji h0 h b cb fb A s bg l v out ob dn) (hc:fI h' cb fb bg') (hf:Fw h' fb bg' v' l') (x:Ext (fun q=>q=cb∨q=fb∨v.ownBlock=some q) h h') (hv:∀ q,v'.ownBlock=some q→v.ownBlock=some q∨h.size≤q) :
   ji h0 h' b cb fb { A with z:=fun q=>q=b∨q=cb∨q=fb∨v'.ownBlock=some q∨out.ownBlock=some q } s bg' l' v' out ob dn:=by
 obtain ⟨n1,n2,n3,n4,n5⟩:=k.ne
 have zz:∀ q,(q=cb∨q=fb∨v.ownBlock=some q)→A.z q:=fun q e=>(k.z q).2 (.inr (e.elim .inl fun e=>.inr (e.elim .inl fun e=>.inr (.inl e))))
 exact k.turn x zz (x.obj k.bq (fun e=>by rcases e with e | e | e;exact n1 e;exact n2 e;exact (n4 _ e).1 rfl)) (k.own.ext x (fun q hq e=>by rcases e with e | e | e;exact (n5 q hq).2.1 e;exact (n5 q hq).2.2 e;exact k.ap q hq e)) hc hf (fun q hq e=>(hv q e).elim (k.ap q hq) (fun e=>by have:=k.own.lt hq;omega)) (fun q e=>(hv q e).imp (fun e=>zz q (.inr (.inr e))) id) (fun q e=>.inl ((k.z q).2 (.inr (.inr (.inr (.inr e))))))
theorem ji.Ln (k:ji h0 h b cb fb A s bg l v out ob dn) (hb:h'[b]?=some (.cells ⟨u0 cb A.bs out' dn'⟩ 125 (0,0))) (ho:Own h' out' 5 1 ob'.length (bu ob')) (x:Ext (fun q=>q=b∨out.ownBlock=some q) h h') (hv:∀ q,out'.ownBlock=some q→out.ownBlock=some q∨h.size≤q) :
   ji h0 h' b cb fb { A with z:=fun q=>q=b∨q=cb∨q=fb∨v.ownBlock=some q∨out'.ownBlock=some q } s bg l v out' ob' dn':=by
 obtain ⟨n1,n2,n3,n4,n5⟩:=k.ne
 have zz:∀ q,(q=b∨out.ownBlock=some q)→A.z q:=fun q e=>(k.z q).2 (e.elim .inl fun e=>.inr (.inr (.inr (.inr e))))
 exact k.turn x zz hb ho (x.obj k.cl (fun e=>by rcases e with e | e;exact n1 e.symm;exact (n5 _ e).2.1 rfl)) (k.fw.ext x (fun e=>by rcases e with e | e;exact n2 e.symm;exact (n5 _ e).2.2 rfl) (fun q hq e=>by rcases e with e | e;exact (n4 q hq).1 e;exact k.ap q e hq)) (fun q hq e=>(hv q hq).elim (fun z=>k.ap q z e) (fun z=>by have:=k.fw.own.lt e;omega)) (fun q e=>.inl ((k.z q).2 (.inr (.inr (.inr (.inl e)))))) (fun q e=>(hv q e).imp (fun e=>zz q (.inr e)) id)
theorem fX (k:ji h0 h b cb fb A s bg l v out ob dn):ag Tryz.prog 68 ⟨[.pointer (some ⟨b,0,none⟩)]⟩ h fun u h'=>u=.bool true∧h'=h:=by
 have hb:=k.bq
 unfold u0 at hb
 refine calls [(0,_)] Tryz.func68 rfl Tryz.ntmps68 rfl ⟨rfl,trivial⟩ ?_
 refine G2 ?_;refine G2 ?_;refine WL.step (dD Tryz.underlying66 rfl rfl) rfl rfl rfl (Go ?_)
 refine bG 5 ?_ TT.mk
 refine Gg ?_;refine WL.step (ae rfl) rfl rfl rfl ?_;refine Gg ?_;refine WL.ld rfl (by first | exact aa hb rfl | assumption) rfl rfl rfl ?_
 refine WL.step (dD Tryz.underlying119 rfl rfl) rfl rfl rfl (Go ?_);refine Gs [(2,_)] ?_;refine Gt ?_
 exact ⟨rfl,rfl⟩
theorem qP (k:ji h0 h b cb fb A s bg l v out ob dn) {w:Value} {m:List UInt8} (hr:Rd h w 1 m.length (bu m)) (hl:l.length+m.length≤262144) :
   ag Tryz.prog 33 ⟨[.pointer (some ⟨b,0,none⟩),w]⟩ h fun u h'=>u=In 0∧(∃ A' v',ji h0 h' b cb fb A' s bg (l++m) v' out ob dn)∧Ext (Dz h0) h h':=by
 have kr:=fX k
 have hb:=k.bq
 unfold u0 at hb
 obtain ⟨B,c,rfl,_⟩:=id hr
 refine calls [(0,_),(1,_)] Tryz.func33 rfl Tryz.ntmps33 rfl ⟨rfl,rfl,trivial⟩ ?_
 refine G2 ?_;refine G3 ?_;refine WL.call (vs:=[_]) rfl Tryz.call68 rfl (kr) rfl rfl rfl ?_
 rintro _ hq ⟨rfl,hz⟩
 replace hz:=hz.symm
 subst hz
 refine Go ?_
 refine aJ 1 2 ?_ TT.mk
 all_goals (refine ax 2 ?_)
 refine WC.skip ?_;refine Gn ?_;refine Gs [(0,_),(1,_)] ?_;refine G2 ?_;refine WL.step (ae rfl) rfl rfl rfl (Go ?_);refine WL.ld rfl (by first | exact aa hb rfl | assumption) rfl rfl rfl (Go ?_)
 refine WL.call (vs:=[_,_]) rfl Tryz.call69 rfl (D0 k.cl k.fw hr hl) rfl rfl rfl ?_
 rintro _ h2 ⟨rfl,v2,D1,aH,eN⟩
 obtain ⟨n1,n2,n3,n4,n5⟩:=k.ne
 have c2:fI h2 cb fb bg:=aH.obj k.cl (fun e=>e.elim n3 (fun e=>(n4 _ e).2.1 rfl))
 refine Go ?_;refine Gs [(4,_)] ?_;refine Gt ?_
 exact ⟨rfl,⟨_,v2,k.He c2 D1 (aH.mono fun _ _ e=>.inr e) eN⟩,aH.mono fun q _ e=>k.lo q ((k.z q).2 (.inr (.inr (e.elim .inl fun e=>.inr (.inl e)))))⟩
theorem Cc (k:ji h0 h b cb fb A s false l v out ob dn) (hlo:ob.length≤1000) {p:Value} (hp:∃ A n c,p=.slice A n c) :
   ag Tryz.prog 72 ⟨[.pointer (some ⟨b,0,none⟩),.agg ⟨[In 196608,In 0,In 0,p]⟩]⟩ h fun _ h'=>(∃ A' out',ji h0 h' b cb fb A' s true l v out' (ob++ey) dn)∧Ext (Dz h0) h h':=by
 have kg:=fun h'=>sN (h:=h')
 obtain ⟨Ap,n,c,rfl⟩:=hp
 obtain ⟨Ao,co,rfl,_⟩:=id k.own.slice
 refine calls [(0,_),(1,_)] Tryz.func72 rfl Tryz.ntmps72 rfl ⟨rfl,rfl,trivial⟩ ?_
 refine WC.sr ?_;refine WL.ai (aB rfl) rfl rfl rfl ?_
 rintro _ h1 ⟨b1,rfl,bO,aQ,ay⟩
 have k1:=k.aq ay
 have qX:=k1.bq
 unfold u0 at qX
 have nO:(Value.slice Ao ob.length co).ownBlock ≠ some b:=bV k1.own qX (by decide)
 refine Gn ?_;refine G2 ?_;refine WL.ld rfl (by first | exact aa aQ rfl | assumption) rfl rfl rfl ?_
 refine Gn ?_;refine WC.block ?_;refine G2 ?_;refine Gs [(0,_),(5,_),(29,_)] ?_
 refine aJ 1 2 ?_ TT.mk
 all_goals (refine ax 2 ?_)
 refine G2 ?_
 refine aJ 3 4 ?_ TT.mk
 all_goals (refine ax 4 ?_)
 refine WC.seq ?_;refine WC.bW (fun h'=>Ext (fun q=>(Value.slice Ao ob.length co).ownBlock=some q) h1 h') 17 18 rfl dk ?_
 refine WH.tk 0 rfl (fun hq hC=>ak rfl) rfl rfl rfl ?_
 refine WH.tk 1 rfl (fun hq hC=>ak rfl) rfl rfl rfl ?_
 refine WH.tk 2 rfl (fun hq hC=>ae rfl) rfl rfl rfl ?_
 refine WH.tk 3 rfl (fun hq hC=>ad rfl Tryz.underlying125 rfl Tryz.sizeOf23) rfl rfl rfl ?_
 refine WH.tk 4 rfl (fun hq hC=>aA Tryz.isAgg23 rfl (by first | exact hC.cell (by first | exact aa qX rfl | assumption) nO)) rfl rfl rfl ?_
 refine WH.tk 5 rfl (fun hq hC=>ak rfl) rfl rfl rfl ?_
 refine WH.tk 6 rfl (fun hq hC=>ae rfl) rfl rfl rfl ?_
 refine WH.tk 7 rfl (fun hq hC=>ad rfl Tryz.underlying125 rfl Tryz.sizeOf60) rfl rfl rfl ?_
 refine WH.tk 8 rfl (fun hq hC=>aA Tryz.isAgg60 rfl (by first | exact hC.cell (by first | exact aa qX rfl | assumption) nO)) rfl rfl rfl ?_
 refine WH.tk 9 rfl (fun hq hC=>ak rfl) rfl rfl rfl ?_
 refine WH.tk 10 rfl (fun hq hC=>ae rfl) rfl rfl rfl ?_
 refine WH.tk 11 rfl (fun hq hC=>ad rfl Tryz.underlying125 rfl Tryz.sizeOf3) rfl rfl rfl ?_
 refine WH.tk 12 rfl (fun hq hC=>aA Tryz.isAgg3 rfl (by first | exact hC.cell (by first | exact aa qX rfl | assumption) nO)) rfl rfl rfl ?_
 refine WH.one 13 (by kernel_rfl) ?_
 refine aE.call (vs:=[_,_]) rfl rfl Tryz.call79 rfl (kg _) rfl rfl rfl ?_ (fun _=>by kernel_rfl)
 rintro v3 h3 ⟨dE,aP,gG⟩
 have ED:Ext (fun q=>(Value.slice Ao ob.length co).ownBlock=some q) h1 h3:=aP.mono fun _ _ e=>e.elim
 obtain ⟨A3,c3,rfl,_⟩:=id dE.slice
 refine ⟨fun _=>ED,?_⟩
 refine WH.one 14 (by kernel_rfl) ?_
 refine aE.run rfl (aT (sz:=1) (bytes:=1) rfl Tryz.underlying23 (show Tryz.prog.info? 5=some Tryz.t5 by kernel_rfl) rfl rfl rfl rfl (by decide) rfl rfl (k1.own.ext aP (fun _ _=>aO)) dE.rd (by intro c hc;obtain ⟨b,_,rfl⟩:=List.mem_map.1 hc;rfl) (by simp [maxLen];omega) (by omega)) rfl rfl rfl ?_ (fun _=>by kernel_rfl)
 rintro v4 h4 ⟨fF,aW,pT⟩
 have Hr:=ED.trans aW
 have fF:Own h4 v4 5 1 (ob++ey).length (bu (ob++ey)):=by rw [List.length_append,gn];exact fF
 obtain ⟨A4,c4,rfl,_⟩:=id fF.slice
 have yH:=Hr.obj qX nO
 refine ⟨fun _=>Hr,?_⟩
 refine WH.one 15 (by kernel_rfl) ?_
 refine aE.run rfl (bK.r (ae rfl)) rfl rfl rfl ?_ (fun _=>by kernel_rfl)
 rintro _ hz ⟨rfl,_⟩
 subst hz
 refine ⟨fun _=>by first | assumption | trivial,?_⟩
 refine WH.one 16 (by kernel_rfl) ?_
 refine aE.run rfl (bK.r (ad rfl Tryz.underlying125 rfl Tryz.sizeOf23)) rfl rfl rfl ?_ (fun _=>by kernel_rfl)
 rintro _ hz ⟨rfl,_⟩
 subst hz
 refine ⟨fun _=>by first | assumption | trivial,?_⟩
 refine WH.one 17 (by kernel_rfl) ?_
 refine aE.cQ rfl (aC Tryz.sizeOf23 rfl rfl yH (Nat.le_of_ble_eq_true rfl) rfl rfl) rfl rfl ?_ (fun _=>by kernel_rfl)
 rintro _ h5 ⟨D5,aN⟩
 have vK:∀ q,(Value.slice A4 (ob++ey).length c4).ownBlock=some q→(Value.slice Ao ob.length co).ownBlock=some q∨h1.size≤q:=tq pT aP.size
 have Mn:Ext (fun q=>q=b∨(Value.slice Ao ob.length co).ownBlock=some q) h1 h5:=(Hr.mono fun _ _ e=>.inr e).trans (aN.mono fun _ _ e=>.inl e)
 have k5:=k1.Ln (dn':=dn) (ob':=ob++ey) D5 (fF.ext aN (fun q hq e=>bV fF yH (by decide) (e▸hq))) Mn vK
 refine ⟨fun e=>(by cases e),?_⟩
 refine WH.done (by kernel_rfl) ?_
 refine Gn ?_;refine Gs [(0,_)] ?_;refine WC.region (Go ?_);refine WL.step (ae rfl) rfl rfl rfl (Go ?_);refine WL.ld rfl (by first | exact aa D5 rfl | assumption) rfl rfl rfl ?_
 refine WL.call (vs:=[_]) rfl Tryz.call114 rfl (BR k5.cl k5.fw) rfl rfl rfl ?_
 rintro _ h6 ⟨c6,vB,aM⟩
 refine Gn ?_;refine Gn ?_
 refine fa [] trivial ?_
 exact ⟨⟨_,_,k5.He c6 vB (aM.mono fun _ _ e=>e.elim .inl (fun e=>.inr (.inl e))) (fun q hq=>.inl hq)⟩,((ay.mono fun _ _ e=>e.elim).trans (Mn.mono fun q _ e=>k1.lo q ((k1.z q).2 (e.elim .inl fun e=>.inr (.inr (.inr (.inr e))))))).trans (aM.mono fun q _ e=>k5.lo q (e.elim (fun e=>.inr (.inl e)) fun e=>.inr (.inr (.inl e))))⟩
end
section
variable {h0 h h':ah} {b cb fb:Nat} {A:Ad} {s:SP} {bg bg':Bool} {l l':List UInt8} {v v' out out':Value} {ob ob':List UInt8} {dn dn':Nat} {S:Nat→Prop}
theorem Cd {be me:Nat} (hb:h[be]?=some (.cells ⟨[.map (some me),In 0]⟩ 104 (0,0))) (hm:Mp .string St h me ([]:List (List UInt8 × Value))) (x:Ext No h0 h) (g1:h0.size≤be) :
   ag Tryz.prog 32 ⟨[.pointer (some ⟨be,0,none⟩),.slice none 0 0,In 0]⟩ h fun u h'=>∃ b,u=.pointer (some ⟨b,0,none⟩)∧(∃ cb fb A v,ji h0 h' b cb fb A ph false [] v (.slice none 0 0) [] 0)∧Ext No h h':=by
 have kn:=fun (g:ah) (y:Ext No h g)=>IK (h0:=h0) (y.obj hb aO) (hm.ext y aO) (x.trans y) g1
 have x0:=x.size
 refine calls [(0,_),(1,_),(2,_)] Tryz.func32 rfl Tryz.ntmps32 rfl ⟨rfl,rfl,rfl,trivial⟩ ?_
 refine G2 ?_;refine WC.sr ?_;refine WL.call (vs:=[_,_]) rfl Tryz.call67 rfl (G6) rfl rfl rfl ?_
 rintro _ h1 ⟨cb,fb,rfl,c1,N1,hgc,hgf,ay⟩
 refine Go ?_;refine Gs [(0,_),(1,_),(2,_),(7,_),(8,_)] ?_;refine G3 ?_
 refine aJ 1 2 ?_ TT.mk
 all_goals (refine ax 2 ?_)
 refine WC.skip ?_;refine Gn ?_;refine G2 ?_;refine WL.call (vs:=[_]) rfl Tryz.call49 rfl (kn _ ay) rfl rfl rfl ?_
 rintro _ h2 ⟨A,rfl,N2,aH⟩
 refine WL.step (aD (vs:=[_,_]) (cs:=[_,_]) (fun | [a0,a1]=>[a0,a1] | _=>[]) rfl rfl (by kernel_rfl)) rfl rfl rfl (Go ?_)
 refine WL.call (vs:=[_]) rfl Tryz.call50 rfl (tU) rfl rfl rfl ?_
 rintro _ hz ⟨rfl,_⟩
 subst hz
 refine Go ?_;refine WL.step (aD (vs:=[_,_,_]) (cs:=[_,_,_,_,_,_,_]) (fun | [.agg ⟨[a0,a1]⟩,a2,a3]=>[a0,a1,a2,a3,(.slice none 0 0),(.int .i64 0),(.bool false)] | _=>[]) rfl rfl (by kernel_rfl)) rfl rfl rfl ?_
 refine WL.ai (aB rfl) rfl rfl rfl ?_
 rintro _ h3 ⟨b,rfl,gb,bn,aP⟩
 refine Go ?_;refine Gs [(6,_)] ?_;refine Gt ?_
 have l1:=ay.size
 have l2:=aH.size
 have l3:=aj bn
 have c3:fI h3 cb fb false:=(aH.trans aP).obj c1 aO
 have Mo:=(N1.aq aH).aq aP
 have l4:=aj Mo.bq
 have l5:=aj c3
 have N3:qW h0 h3 { A with z:=fun q=>q=b∨q=cb∨q=fb∨(Value.slice none 0 0).ownBlock=some q∨(Value.slice none 0 0).ownBlock=some q } ph:=(N2.aq aP).z0 (fun q hq=>by rcases hq with e | e | e | e | e;omega;omega;omega;simp [Value.ownBlock] at e;simp [Value.ownBlock] at e)
 exact ⟨b,rfl,⟨cb,fb,{ A with z:=fun q=>q=b∨q=cb∨q=fb∨(Value.slice none 0 0).ownBlock=some q∨(Value.slice none 0 0).ownBlock=some q },_,⟨bn,Own.nil _ _ _,c3,Mo,N3,fun q hq=>(by cases hq),fun q=>Iff.rfl,by omega⟩⟩,(ay.trans aH).trans aP⟩
theorem Ce (k:ji h0 h b cb fb A s bg l v out ob dn) (hlo:ob.length≤140737488355328):ag Tryz.prog 35 ⟨[.pointer (some ⟨b,0,none⟩)]⟩ h fun u h'=>Own h' u 5 1 ob.length (bu ob)∧Ext No h h'∧∀ q,u.ownBlock=some q→h.size≤q:=by
 have kr:=fX k
 have hb:=k.bq
 unfold u0 at hb
 obtain ⟨Ao,co,rfl,_⟩:=id k.own.slice
 refine calls [(0,_)] Tryz.func35 rfl Tryz.ntmps35 rfl ⟨rfl,trivial⟩ ?_
 refine G2 ?_;refine G3 ?_;refine WL.call (vs:=[_]) rfl Tryz.call68 rfl (kr) rfl rfl rfl ?_
 rintro _ hq ⟨rfl,hz⟩
 replace hz:=hz.symm
 subst hz
 refine Go ?_
 refine aJ 1 2 ?_ TT.mk
 all_goals (refine ax 2 ?_)
 refine WC.skip ?_;refine Gn ?_;refine Gs [(0,_)] ?_;refine G2 ?_;refine WL.step (ae rfl) rfl rfl rfl (Go ?_);refine WL.ld rfl (by first | exact aa hb rfl | assumption) rfl rfl rfl ?_
 refine WL.call (vs:=[_]) rfl Tryz.call74 rfl (jq ob k.own.rd (by omega)) rfl rfl rfl ?_
 rintro v1 h1 ⟨fE,ay,fM⟩
 refine Go ?_;refine Gs [(2,_)] ?_;refine Gt ?_
 exact ⟨fE,ay,fM⟩
theorem qQ (k:ji h0 h b cb fb A s bg l v out ob dn) (hp:Part (if bg=true then 1 else 0) l) (hm:l.length≤1000000) :
   ag Tryz.prog 34 ⟨[.pointer (some ⟨b,0,none⟩)]⟩ h fun u h'=>u=.bool false∧(∃ A',ji h0 h' b cb fb A' s bg l v out ob dn)∧Ext (Dz h0) h h':=by
 have kr:=fX k
 have hb:=k.bq
 unfold u0 at hb
 have zz:∀ q,q=fb→h0.size≤q:=fun q e=>k.lo q ((k.z q).2 (.inr (.inr (.inl e))))
 refine calls [(0,_)] Tryz.func34 rfl Tryz.ntmps34 rfl ⟨rfl,trivial⟩ ?_
 refine G2 ?_;refine G3 ?_;refine WL.call (vs:=[_]) rfl Tryz.call68 rfl (kr) rfl rfl rfl ?_
 rintro _ hq ⟨rfl,hz⟩
 replace hz:=hz.symm
 subst hz
 refine Go ?_
 refine bG 7 ?_ TT.mk
 refine Gg ?_;refine WL.step (ae rfl) rfl rfl rfl ?_;refine Gg ?_;refine WL.ld rfl (by first | exact aa hb rfl | assumption) rfl rfl rfl (Go ?_)
 refine Gs [(0,_),(12,_)] ?_
 refine aJ 1 2 ?_ TT.mk
 all_goals (refine ax 2 ?_)
 refine WC.skip ?_;refine Gn ?_;refine G2 ?_;refine WL.step (ae rfl) rfl rfl rfl (Go ?_);refine WL.ld rfl (by first | exact aa hb rfl | assumption) rfl rfl rfl ?_
 refine WL.call (vs:=[_]) rfl Tryz.call70 rfl (BX k.cl k.fw hp hm) rfl rfl rfl ?_
 rintro _ h2 ⟨⟨⟨xk,xc,xp,xf⟩,g2,rfl,mr,Mq,p2⟩,c2,D1,aH⟩
 have k2:=k.He c2 D1 (aH.mono fun _ _ e=>.inr (.inl e)) (fun q hq=>.inl hq)
 obtain rfl:xk=0:=p2
 refine WL.ai (av (fun w=>Tryz.zeroValue127 w)) rfl rfl rfl ?_
 rintro _ h3 ⟨b3,rfl,gb,bn,aP⟩
 refine WL.az (al Tryz.sizeOf127 rfl rfl rfl bn rfl mr.all) rfl rfl ?_
 rintro _ h4 ⟨bx,aW⟩
 have Cq:Ext No h2 h4:=aP.trans' aW (fun q hq e=>by omega)
 have k4:=k2.aq Cq
 unfold nV.cells DZ at bx
 refine Gn ?_;refine Gs [(0,_),(3,_)] ?_;refine G3 ?_;refine WL.ld rfl (by first | exact aa bx rfl | assumption) rfl rfl rfl ?_
 refine Gn ?_;refine WC.block ?_;refine G2 ?_
 refine aJ 3 4 ?_ TT.mk
 all_goals (refine ax 4 ?_)
 refine G2 ?_;refine Gs [(0,_),(3,_),(33,_)] ?_
 refine aJ 5 6 ?_ TT.mk
 all_goals (refine ax 6 ?_)
 refine G2 ?_;refine Gt ?_
 exact ⟨rfl,⟨_,k4⟩,(aH.mono fun q _ e=>zz q e).trans (Cq.mono fun _ _ e=>e.elim)⟩
theorem sS {r:List UInt8} (k:ji h0 h b cb fb A s false (dr++r) v out ob dn) (hlo:ob.length≤1000) (hr:r.length≤100000) :
   ag Tryz.prog 34 ⟨[.pointer (some ⟨b,0,none⟩)]⟩ h fun u h'=>u=.bool true∧(∃ A' v' out',ji h0 h' b cb fb A' s true r v' out' (ob++ey) dn)∧Ext (Dz h0) h h':=by
 have kr:=fX k
 have hb:=k.bq
 unfold u0 at hb
 have zz:∀ q,(q=fb∨v.ownBlock=some q)→h0.size≤q:=fun q e=>k.lo q ((k.z q).2 (.inr (.inr (e.elim .inl fun e=>.inr (.inl e)))))
 obtain ⟨n1,n2,n3,n4,n5⟩:=k.ne
 have hvl:∀ q,v.ownBlock=some q→q < h.size:=fun q hq=>k.fw.own.lt hq
 have lf:=aj k.fw.bq
 refine calls [(0,_)] Tryz.func34 rfl Tryz.ntmps34 rfl ⟨rfl,trivial⟩ ?_
 refine G2 ?_;refine G3 ?_;refine WL.call (vs:=[_]) rfl Tryz.call68 rfl (kr) rfl rfl rfl ?_
 rintro _ hq ⟨rfl,hz⟩
 replace hz:=hz.symm
 subst hz
 refine Go ?_
 refine bG 7 ?_ TT.mk
 refine Gg ?_;refine WL.step (ae rfl) rfl rfl rfl ?_;refine Gg ?_;refine WL.ld rfl (by first | exact aa hb rfl | assumption) rfl rfl rfl (Go ?_)
 refine Gs [(0,_),(12,_)] ?_
 refine aJ 1 2 ?_ TT.mk
 all_goals (refine ax 2 ?_)
 refine WC.skip ?_;refine Gn ?_;refine G2 ?_;refine WL.step (ae rfl) rfl rfl rfl (Go ?_);refine WL.ld rfl (by first | exact aa hb rfl | assumption) rfl rfl rfl ?_
 refine WL.call (vs:=[_]) rfl Tryz.call70 rfl (B7 k.cl k.fw hr) rfl rfl rfl ?_
 rintro _ h2 ⟨⟨⟨xk,xc,xp,xf⟩,g2,rfl,mr,Mq,p2⟩,c2,D1,aH⟩
 have k2:=k.He c2 D1 (aH.mono fun _ _ e=>.inr (.inl e)) (fun q hq=>.inl hq)
 obtain ⟨e1,e2,A2,Pd,Pf,e3⟩:=p2
 dsimp only at e1 e2 e3
 subst e1 e2 e3
 refine WL.ai (av (fun w=>Tryz.zeroValue127 w)) rfl rfl rfl ?_
 rintro _ h3 ⟨b3,rfl,gb,bn,aP⟩
 refine WL.az (al Tryz.sizeOf127 rfl rfl rfl bn rfl mr.all) rfl rfl ?_
 rintro _ h4 ⟨bx,aW⟩
 have Cq:Ext No h2 h4:=aP.trans' aW (fun q hq e=>by omega)
 have k4:=k2.aq Cq
 have yH:=k4.bq
 unfold u0 at yH
 unfold nV.cells DZ at bx
 refine Gn ?_;refine Gs [(0,_),(3,_)] ?_;refine G3 ?_;refine WL.ld rfl (by first | exact aa bx rfl | assumption) rfl rfl rfl ?_
 refine Gn ?_;refine WC.block ?_;refine G2 ?_
 refine aJ 3 4 ?_ TT.mk
 all_goals (refine ax 3 ?_)
 refine G2 ?_;refine WL.step (ae rfl) rfl rfl rfl (Go ?_);refine WL.ld rfl (by first | exact aa yH rfl | assumption) rfl rfl rfl ?_
 refine WL.call (vs:=[_]) rfl Tryz.call71 rfl (B8 k4.cl k4.fw hr) rfl rfl rfl ?_
 rintro _ h5 ⟨v5,c5,Lo,aN,Hf⟩
 have k5:=k4.He c5 Lo (aN.mono fun _ _ e=>.inr e) (fun q hq=>.inl (Hf▸hq))
 have l2:=aH.size
 have tV:=aN.obj bx (fun e=>by rcases e with e | e;omega;have:=hvl _ e;omega)
 refine Gn ?_;refine Gs [(0,_),(3,_)] ?_;refine WC.region (Go ?_);refine WL.step (an Tryz.isAgg62 Tryz.sizeOf62 rfl rfl (by exact At.pre (xs:=[_,_,_,_]) (ys:=_) (At.tl (At.au tV)))) rfl rfl rfl ?_
 refine WL.call (vs:=[_,_]) rfl Tryz.call72 rfl (Cc k5 hlo ⟨_,_,_,rfl⟩) rfl rfl rfl ?_
 rintro _ h6 ⟨⟨A6,N4,k6⟩,aM⟩
 refine Gn ?_;refine Gn ?_;refine G2 ?_;refine Gt ?_
 exact ⟨rfl,⟨_,_,_,k6⟩,(((aH.mono fun q _ e=>zz q (.inl e)).trans (Cq.mono fun _ _ e=>e.elim)).trans (aN.mono fun q _ e=>zz q e)).trans aM⟩
theorem Cf {f:Fm} {r:List UInt8} {n:Nat} (k:ji h0 h b cb fb A s true (dU f.kind (fj f)++r) v out ob dn) (w:f.qB) (fm:f.may) (er:Er h) (D6:0 < h0.size) (lm:dV n s) (hn:n < 1000000) (fl:∀ g:Fm,g.pl=f.pl→gW g)
   (hm:∀ p∈(iy s f.p).2,iM p) (hml:(iy s f.p).2.length≤200) (hr:r.length≤100000) (hob:ob.length≤100000000000) (hdn:dn≤1000) :
   ag Tryz.prog 34 ⟨[.pointer (some ⟨b,0,none⟩)]⟩ h fun u h'=>u=.bool true∧(∃ A' v' out',ji h0 h' b cb fb A' (iy s f.p).1 true r v' out' (ob++dQ (iy s f.p).2) (dn+1))∧Ext (Dz h0) h h':=by
 have kr:=fX k
 have hb:=k.bq
 unfold u0 at hb
 have zz:∀ q,(q=fb∨v.ownBlock=some q)→h0.size≤q:=fun q e=>k.lo q ((k.z q).2 (.inr (.inr (e.elim .inl fun e=>.inr (.inl e)))))
 obtain ⟨n1,n2,n3,n4,n5⟩:=k.ne
 have hvl:∀ q,v.ownBlock=some q→q < h.size:=fun q hq=>k.fw.own.lt hq
 have hol:∀ q,out.ownBlock=some q→q < h.size:=fun q hq=>k.own.lt hq
 have lf:=aj k.fw.bq
 have lb:=aj hb
 have hbo:=k.lo b ((k.z b).2 (.inl rfl))
 have hoo:∀ q,out.ownBlock=some q→h0.size≤q:=fun q hq=>k.lo q ((k.z q).2 (.inr (.inr (.inr (.inr hq)))))
 have hfB:=qO hm
 have x0:=k.x0
 refine calls [(0,_)] Tryz.func34 rfl Tryz.ntmps34 rfl ⟨rfl,trivial⟩ ?_
 refine G2 ?_;refine G3 ?_;refine WL.call (vs:=[_]) rfl Tryz.call68 rfl (kr) rfl rfl rfl ?_
 rintro _ hq ⟨rfl,hz⟩
 replace hz:=hz.symm
 subst hz
 refine Go ?_
 refine bG 7 ?_ TT.mk
 refine Gg ?_;refine WL.step (ae rfl) rfl rfl rfl ?_;refine Gg ?_;refine WL.ld rfl (by first | exact aa hb rfl | assumption) rfl rfl rfl (Go ?_)
 refine Gs [(0,_),(12,_)] ?_
 refine aJ 1 2 ?_ TT.mk
 all_goals (refine ax 2 ?_)
 refine WC.skip ?_;refine Gn ?_;refine G2 ?_;refine WL.step (ae rfl) rfl rfl rfl (Go ?_);refine WL.ld rfl (by first | exact aa hb rfl | assumption) rfl rfl rfl ?_
 refine WL.call (vs:=[_]) rfl Tryz.call70 rfl (Ca w fm k.cl k.fw hr) rfl rfl rfl ?_
 rintro _ h2 ⟨⟨⟨xk,xc,xp,g⟩,g2,rfl,mr,Mq,p2⟩,c2,D1,aH⟩
 have k2:=k.He c2 D1 (aH.mono fun _ _ e=>.inr (.inl e)) (fun q hq=>.inl hq)
 obtain ⟨e1,gp,gO,gA⟩:=p2
 dsimp only at e1 gp gO gA
 subst e1
 refine WL.ai (av (fun w=>Tryz.zeroValue127 w)) rfl rfl rfl ?_
 rintro _ h3 ⟨b3,rfl,gb,bn,aP⟩
 refine WL.az (al Tryz.sizeOf127 rfl rfl rfl bn rfl mr.all) rfl rfl ?_
 rintro _ h4 ⟨bx,aW⟩
 have Cq:Ext No h2 h4:=aP.trans' aW (fun q hq e=>by omega)
 have k4:=k2.aq Cq
 have yH:=k4.bq
 unfold u0 at yH
 unfold nV.cells DZ at bx
 refine Gn ?_;refine Gs [(0,_),(3,_)] ?_;refine G3 ?_;refine WL.ld rfl (by first | exact aa bx rfl | assumption) rfl rfl rfl ?_
 refine Gn ?_;refine WC.block ?_;refine G2 ?_
 refine aJ 3 4 ?_ TT.mk
 all_goals (refine ax 4 ?_)
 refine G2 ?_;refine Gs [(0,_),(3,_),(33,_)] ?_
 refine aJ 5 6 ?_ TT.mk
 all_goals (refine ax 5 ?_)
 refine G2 ?_;refine WL.step (ae rfl) rfl rfl rfl (Go ?_);refine WL.ld rfl (by first | exact aa yH rfl | assumption) rfl rfl rfl ?_
 refine WL.call (vs:=[_]) rfl Tryz.call71 rfl (Cb w fm k4.cl k4.fw hr) rfl rfl rfl ?_
 rintro _ h5 ⟨v5,c5,Lo,aN,Hf⟩
 have k5:=k4.He c5 Lo (aN.mono fun _ _ e=>.inr e) (fun q hq=>.inl (Hf▸hq))
 have l2:=aH.size
 have l4:=Cq.size
 have l5:=aN.size
 have N5:¬ (b3=fb∨v.ownBlock=some b3):=fun e=>by rcases e with e | e;omega;have:=hvl _ e;omega
 have tV:=aN.obj bx N5
 have Ll:=(gO.aq Cq).G8 aN (fun q hq e=>by have:=gA q hq;rcases e with e | e;omega;have:=hvl _ e;omega)
 have EH:Ext (fun q=>q=fb∨v.ownBlock=some q) h h5:=((aH.mono fun _ _ e=>.inl e).trans (Cq.mono fun _ _ e=>e.elim)).trans aN
 have N6:Er h5:=er.ext EH (fun e=>by have:=zz 0 e;omega)
 obtain ⟨Ao,co,rfl,_⟩:=id k5.own.slice
 have D5:=k5.bq
 unfold u0 at D5
 have Mr:=tV
 have nb:¬ (Bh h0 h5 b∨(Value.slice Ao ob.length co).ownBlock=some b):=fun e=>e.elim (fun e=>by have:=e.2 _ _ D5;revert this;decide) (fun e=>(n5 _ e).1 rfl)
 have n3:¬ (Bh h0 h5 b3∨(Value.slice Ao ob.length co).ownBlock=some b3):=fun e=>e.elim (fun e=>by have:=e.2 _ _ tV;revert this;decide) (fun e=>by have:=hol _ e;omega)
 refine Gn ?_;refine Gs [(0,_),(3,_)] ?_;refine WC.seq ?_;refine WC.bW (fun h'=>Ext (fun q=>Bh h0 h5 q∨(Value.slice Ao ob.length co).ownBlock=some q) h5 h') 17 18 rfl dk ?_
 refine WH.tk 0 rfl (fun hq hC=>ak rfl) rfl rfl rfl ?_
 refine WH.tk 1 rfl (fun hq hC=>ak rfl) rfl rfl rfl ?_
 refine WH.tk 2 rfl (fun hq hC=>ae rfl) rfl rfl rfl ?_
 refine WH.tk 3 rfl (fun hq hC=>ad rfl Tryz.underlying125 rfl Tryz.sizeOf23) rfl rfl rfl ?_
 refine WH.tk 4 rfl (fun hq hC=>aA Tryz.isAgg23 rfl (by first | exact hC.cell (by first | exact aa D5 rfl | assumption) (by first | exact nb | exact n3))) rfl rfl rfl ?_
 refine WH.tk 5 rfl (fun hq hC=>ak rfl) rfl rfl rfl ?_
 refine WH.tk 6 rfl (fun hq hC=>ae rfl) rfl rfl rfl ?_
 refine WH.tk 7 rfl (fun hq hC=>ad rfl Tryz.underlying125 rfl Tryz.sizeOf123) rfl rfl rfl ?_
 refine WH.tk 8 rfl (fun hq hC=>ad rfl Tryz.underlying123 rfl Tryz.sizeOf90) rfl rfl rfl ?_
 refine WH.tk 9 rfl (fun hq hC=>aA Tryz.isAgg90 rfl (by first | exact hC.cell (by first | exact aa D5 rfl | assumption) (by first | exact nb | exact n3))) rfl rfl rfl ?_
 refine WH.tk 10 rfl (fun hq hC=>ad rfl Tryz.underlying127 rfl Tryz.sizeOf42) rfl rfl rfl ?_
 refine WH.tk 11 rfl (fun hq hC=>an Tryz.isAgg42 Tryz.sizeOf42 rfl rfl (by exact At.pre (xs:=g.cells) (ys:=_) (At.tl (At.tl (At.tl (At.tl (At.tl ((At.au tV).ext hC n3)))))))) rfl rfl rfl ?_
 refine WH.one 12 (by kernel_rfl) ?_
 refine aE.call (vs:=[_,_]) rfl rfl Tryz.call58 rfl (Lm k.se lm hn N6 D6 EH (fun q e=>k.Mm q ((k.z q).2 (.inr (.inr (e.elim .inl fun e=>.inr (.inl e)))))) x0 g Ll (fun q hq=>by have:=gA q (Fm.NV hq);omega) (fl g gp)) rfl rfl rfl ?_ (fun _=>by kernel_rfl)
 rintro v6 h6 ⟨⟨B,Ou,hB⟩,Ms,aM⟩
 have CK:Ext (fun q=>Bh h0 h5 q∨(Value.slice Ao ob.length co).ownBlock=some q) h5 h6:=aM.mono fun _ _ e=>.inl e
 have l6:=aM.size
 rw [DR gp] at hB Ms
 have hBl:B.length=(iy s f.p).2.length:=by rw [← hB,List.length_map]
 have Mt:=k5.own.ext aM (fun q hq e=>AX k5.own (by decide) q hq e)
 obtain ⟨A6,c6,rfl,_⟩:=id Ou.own.slice
 refine ⟨fun _=>CK,?_⟩
 refine WH.one 13 (by kernel_rfl) ?_
 refine aE.call (vs:=[_]) rfl rfl Tryz.call73 rfl (D4 B Ou.own.rd (by omega) (fun y hy=>hm _ (hB▸List.mem_map_of_mem hy)) (fun y hy=>(Ou.ok y hy).one) (fun y hy g x=>II y ((Ou.ok y hy).ext x (fun _ _=>aO)) (hm _ (hB▸List.mem_map_of_mem hy)))) rfl rfl rfl ?_ (fun _=>by kernel_rfl)
 rintro v7 h7 ⟨gM,bh,Hk⟩
 have Hn:=CK.trans (bh.mono fun _ _ e=>e.elim)
 rw [hB] at gM
 obtain ⟨A7,c7,rfl,_⟩:=id gM.slice
 have l7:=bh.size
 refine ⟨fun _=>Hn,?_⟩
 refine WH.one 14 (by kernel_rfl) ?_
 refine aE.run rfl (aT (sz:=1) (bytes:=1) rfl Tryz.underlying23 (show Tryz.prog.info? 5=some Tryz.t5 by kernel_rfl) rfl rfl rfl rfl (by decide) rfl rfl (Mt.ext bh (fun _ _=>aO)) gM.rd (by intro c hc;obtain ⟨b,_,rfl⟩:=List.mem_map.1 hc;rfl) (by simp only [maxLen];omega) (by omega)) rfl rfl rfl ?_ (fun _=>by kernel_rfl)
 rintro v8 h8 ⟨iI,bD,pM⟩
 have EC:=Hn.trans (bD.mono fun _ _ e=>.inr e)
 have iI:Own h8 v8 5 1 (ob++dQ (iy s f.p).2).length (bu (ob++dQ (iy s f.p).2)):=by rw [List.length_append,gn];exact iI
 obtain ⟨A8,c8,rfl,_⟩:=id iI.slice
 have Lp:=EC.obj D5 nb
 refine ⟨fun _=>EC,?_⟩
 refine WH.one 15 (by kernel_rfl) ?_
 refine aE.run rfl (bK.r (ae rfl)) rfl rfl rfl ?_ (fun _=>by kernel_rfl)
 rintro _ hz ⟨rfl,_⟩
 subst hz
 refine ⟨fun _=>by first | assumption | trivial,?_⟩
 refine WH.one 16 (by kernel_rfl) ?_
 refine aE.run rfl (bK.r (ad rfl Tryz.underlying125 rfl Tryz.sizeOf23)) rfl rfl rfl ?_ (fun _=>by kernel_rfl)
 rintro _ hz ⟨rfl,_⟩
 subst hz
 refine ⟨fun _=>by first | assumption | trivial,?_⟩
 refine WH.one 17 (by kernel_rfl) ?_
 refine aE.cQ rfl (aC Tryz.sizeOf23 rfl rfl Lp (Nat.le_of_ble_eq_true rfl) rfl rfl) rfl rfl ?_ (fun _=>by kernel_rfl)
 rintro _ h9 ⟨Lq,cg⟩
 have Ev:∀ q,(Value.slice A8 (ob++dQ (iy s f.p).2).length c8).ownBlock=some q→(Value.slice Ao ob.length co).ownBlock=some q∨h7.size≤q:=tq pM (Nat.le_refl _)
 have l8:=bD.size
 have l9:=cg.size
 refine ⟨fun e=>(by cases e),?_⟩
 refine WH.done (by kernel_rfl) ?_
 refine Gn ?_;refine Gs [(0,_)] ?_;refine WC.region (Go ?_);refine WL.step (ae rfl) rfl rfl rfl (Go ?_);refine WL.ld rfl (by first | exact aa Lq rfl | assumption) rfl rfl rfl (Go ?_)
 refine WL.step (ae rfl) rfl rfl rfl (Go ?_);refine WL.az (aC Tryz.sizeOf3 rfl rfl Lq (Nat.le_of_ble_eq_true rfl) rfl rfl) rfl rfl ?_
 rintro _ iD ⟨Lr,cG⟩
 have Pg:=cG.size
 have D7:Ext (fun q=>q=b∨(Value.slice Ao ob.length co).ownBlock=some q) h6 iD:=(((bh.mono fun _ _ e=>e.elim).trans (bD.mono fun _ _ e=>.inr e)).trans (cg.mono fun _ _ e=>.inl e)).trans (cG.mono fun _ _ e=>.inl e)
 have N7:=aM.obj D5 (fun e=>nb (.inl e))
 have N8:fI h6 cb fb true:=aM.obj k5.cl (fun e=>by have:=e.2 _ _ k5.cl;revert this;decide)
 have vB:=k5.fw.ext aM (fun e=>by have:=e.2 _ _ k5.fw.bq;revert this;decide) (fun q hq e=>AX k5.fw.own (by decide) q hq e)
 have N9:∀ q,(q=b∨(Value.slice Ao ob.length co).ownBlock=some q)→A.z q∧GG h6 q:=fun q e=>⟨(k.z q).2 (e.elim .inl fun e=>.inr (.inr (.inr (.inr e)))),e.elim (fun e=>by subst e;exact ⟨_,_,N7,by decide,by decide,by decide,by decide⟩) (fun e=>qA Mt (by decide) q e)⟩
 have iY:=(iI.ext cg (fun q hq e=>bV iI Lp (by decide) (e▸hq))).ext cG (fun q hq e=>bV (iI.ext cg (fun q hq e=>bV iI Lp (by decide) (e▸hq))) Lq (by decide) (e▸hq))
 have Jn:fI iD cb fb true:=D7.obj N8 (fun e=>by rcases e with e | e;exact n1 e.symm;exact (n5 _ e).2.1 rfl)
 have Jo:=vB.ext D7 (fun e=>by rcases e with e | e;exact n2 e.symm;exact (n5 _ e).2.2 rfl) (fun q hq e=>by rw [Hf] at hq;rcases e with e | e;exact (n4 q hq).1 e;exact k.ap q e hq)
 have Ls:qW h0 iD { A with z:=fun q=>q=b∨q=cb∨q=fb∨v5.ownBlock=some q∨(Value.slice A8 (ob++dQ (iy s f.p).2).length c8).ownBlock=some q } (iy s f.p).1:=Ms.JG D7 N9 (fun q hq=>by
  rcases hq with e | e | e | e | e
  · exact ⟨.inl ((k.z q).2 (.inl e)),by omega⟩
  · exact ⟨.inl ((k.z q).2 (.inr (.inl e))),by rw [e];exact aj Jn⟩
  · exact ⟨.inl ((k.z q).2 (.inr (.inr (.inl e)))),by omega⟩
  · exact ⟨.inl ((k.z q).2 (.inr (.inr (.inr (.inl (Hf▸e)))))),Jo.own.lt e⟩
  · exact ⟨(Ev q e).imp (fun e=>(k.z q).2 (.inr (.inr (.inr (.inr e))))) (fun e=>by omega),iY.lt e⟩) (by omega)
 have wY:Ext (Dz h0) h iD:=((EH.mono fun q _ e=>zz q e).trans (aM.mono fun _ _ e=>e.1)).trans (D7.mono fun q _ e=>by rcases e with e | e;subst e;exact hbo;exact hoo q e)
 refine Gn ?_;refine Gn ?_;refine G2 ?_;refine Gt ?_
 exact ⟨rfl,⟨{ A with z:=fun q=>q=b∨q=cb∨q=fb∨v5.ownBlock=some q∨(Value.slice A8 (ob++dQ (iy s f.p).2).length c8).ownBlock=some q },v5,_,⟨Lr,iY,Jn,Jo,Ls,fun q hq e=>(Ev q hq).elim (fun z=>k.ap q z (Hf▸e)) (fun z=>by have:=hvl q (Hf▸e);omega),fun q=>Iff.rfl,by omega⟩⟩,wY⟩
end
noncomputable def lW (D:List Fm):List UInt8:=ey++dQ (jD ph D)
def Lv (h0 h:ah) (b:Nat) (fs:List Fm) (a n:Nat) (i:Bool):Prop :=
 (∃ cb fb A v,ji h0 h b cb fb A ph false ((dB fs).take a) v (.slice none 0 0) [] 0∧n=0∧(i=true→a < 16)) ∨
 (16≤a∧∃ D R l cb fb A v out,fs=D++R∧n=D.length+1∧ji h0 h b cb fb A (mC ph D) true l v out (lW D) D.length∧l++(dB fs).drop a=j2 R∧(i=true→Part 1 l))
section
variable {h0 h h':ah} {b:Nat} {fs:List Fm} {a n:Nat} {i:Bool}
theorem sT:ey.length=28:=by decide
theorem wu {D R:List Fm} (gs:BH fs) (e:fs=D++R):(lW D).length≤100000000000:=by
 obtain ⟨_,hm,hl,_⟩:=gs.sub e
 have:=qO hm
 unfold lW
 rw [List.length_append,sT]
 omega
theorem Lv.le (k:Lv h0 h b fs a n i):n≤fs.length+1:=by
 rcases k with ⟨cb,fb,A,v,k,e,_⟩ | ⟨ha,D,R,l,cb,fb,A,v,out,e1,e2,k,e⟩
 · omega
 · rw [e1,List.length_append];omega
theorem Lv.Oa (k:Lv h0 h b fs a n i):Lv h0 h b fs a n false:=by
 rcases k with ⟨cb,fb,A,v,k,e,_⟩ | ⟨ha,D,R,l,cb,fb,A,v,out,e1,e2,k,e,_⟩
 · exact .inl ⟨cb,fb,A,v,k,e,fun z=>nomatch z⟩
 · exact .inr ⟨ha,D,R,l,cb,fb,A,v,out,e1,e2,k,e,fun z=>nomatch z⟩
theorem D8 (gs:BH fs) (er:Er h) (D6:0 < h0.size) (k:Lv h0 h b fs a n false) :
   ag Tryz.prog 34 ⟨[.pointer (some ⟨b,0,none⟩)]⟩ h fun u h'=>(∃ ok,u=.bool ok∧((ok=false∧Lv h0 h' b fs a n true)∨(ok=true∧Lv h0 h' b fs a (n+1) false)))∧Ext (Dz h0) h h':=by
 have hgl:=gs.l
 rcases k with ⟨cb,fb,A,v,k,rfl,_⟩ | ⟨ha,D,R,l,cb,fb,A,v,out,e1,rfl,k,e5,_⟩
 · by_cases ha:a < 16
   · exact (qQ k (uZ ha _) (by rw [List.length_take];omega)).mono fun u h' ⟨hu,⟨A',k'⟩,x⟩=>⟨⟨false,hu,.inl ⟨rfl,.inl ⟨cb,fb,A',v,k',rfl,fun _=>ha⟩⟩⟩,x⟩
   · rw [xU fs (by omega)] at k
     refine (sS k (by decide) (by rw [dB,List.length_append] at hgl;rw [List.length_take];omega)).mono fun u h' ⟨hu,⟨A',v',out',k'⟩,x⟩=>⟨⟨true,hu,.inr ⟨rfl,.inr ⟨by omega,[],fs,(j2 fs).take (a - 16),cb,fb,A',v',out',rfl,rfl,?_,?_,fun z=>nomatch z⟩⟩⟩,x⟩
     · have e:lW []=[]++ey:=by simp [lW,jD,dQ]
       rw [e]
       exact k'
     · rw [xT fs (by omega),List.take_append_drop]
 · obtain ⟨o,hm,hrl,hl⟩:=gs.sub e1
   have hle:=qL e1
   have part:Part 1 l→ag Tryz.prog 34 ⟨[.pointer (some ⟨b,0,none⟩)]⟩ h fun u h'=>(∃ ok,u=.bool ok∧((ok=false∧Lv h0 h' b fs a (D.length+1) true)∨(ok=true∧Lv h0 h' b fs a (D.length+1+1) false)))∧Ext (Dz h0) h h':=fun hp =>
     (qQ k hp (by have h5:=congrArg List.length e5;rw [List.length_append] at h5;omega)).mono fun u h' ⟨hu,⟨A',k'⟩,x⟩=>⟨⟨false,hu,.inl ⟨rfl,.inr ⟨ha,D,R,l,cb,fb,A',v,out,e1,rfl,k',e5,fun _=>hp⟩⟩⟩,x⟩
   rcases R with _ | ⟨f,R⟩
   · have:l=[]:=(List.append_eq_nil_iff.1 (e5.trans (show j2 []=[] from rfl))).1
     subst this
     exact part sM
   · have gf:=gs.g f (by rw [e1];simp)
     have hml:=jg gf.w
     rw [pw] at e5
     rcases uY e5 (by omega) with hp | ⟨r,rfl,e7⟩
     · exact part hp
     · obtain ⟨o1,m1,l1⟩:=gf.step o (by omega)
       have hr:r.length≤3000:=by
         have h2:=qL (D:=D++[f]) (R:=R) (fs:=fs) (by rw [e1];simp)
         have:=congrArg List.length e7
         rw [List.length_append] at this
         omega
       have hob:=wu gs e1
       refine (Cf k gf.w gf.m er D6 o.G1 (by omega) gf.G1 m1 (by omega) (by omega) (by omega) (by omega)).mono fun u h' ⟨hu,⟨A',v',out',k'⟩,x⟩=>⟨⟨true,hu,.inr ⟨rfl,.inr ⟨ha,D++[f],R,r,cb,fb,A',v',out',(by rw [e1];simp),(by rw [List.length_append];rfl),?_,e7,fun z=>nomatch z⟩⟩⟩,x⟩
       have e8:lW (D++[f])=lW D++dQ (iy (mC ph D) f.p).2:=by
         unfold lW
         rw [BF,sQ,List.append_assoc]
         simp [jD]
       rw [e8,BE,List.length_append]
       exact k'
theorem D9 {x:Value} {m:List UInt8} {c:Nat} (gs:BH fs) (k:Lv h0 h b fs a n i) (hm:m=((dB fs).drop a).take c) (hr:Rd h x 1 m.length (bu m)) :
   ag Tryz.prog 33 ⟨[.pointer (some ⟨b,0,none⟩),x]⟩ h fun _ h'=>Lv h0 h' b fs (a+c) n false∧Ext (Dz h0) h h':=by
 have hl:=gs.l
 have hml:m.length≤3000:=by rw [hm,List.length_take,List.length_drop];omega
 rcases k with ⟨cb,fb,A,v,k,rfl,_⟩ | ⟨ha,D,R,l,cb,fb,A,v,out,e1,e2,k,e5,_⟩
 · refine (qP k hr (by rw [List.length_take];omega)).mono fun u h' ⟨_,⟨A',v',k'⟩,x⟩=>⟨.inl ⟨cb,fb,A',v',?_,rfl,fun z=>nomatch z⟩,x⟩
   rw [List.take_add,← hm]
   exact k'
 · have hll : l.length ≤ 3000 := by
     have:=congrArg List.length e5
     have h2:=qL e1
     rw [List.length_append] at this
     omega
   refine (qP k hr (by omega)).mono fun u h' ⟨_,⟨A',v',k'⟩,x⟩=>⟨.inr ⟨by omega,D,R,_,cb,fb,A',v',out,e1,e2,k',?_,fun z=>nomatch z⟩,x⟩
   rw [hm,List.append_assoc,← List.drop_drop,List.take_append_drop]
   exact e5
theorem Hg (gs:BH fs) (k:Lv h0 h b fs a n true) (ha:a=(dB fs).length) :
   ag Tryz.prog 35 ⟨[.pointer (some ⟨b,0,none⟩)]⟩ h fun u h'=>Own h' u 5 1 (lW fs).length (bu (lW fs))∧Ext No h h'∧∀ q,u.ownBlock=some q→h.size≤q:=by
 subst ha
 rcases k with ⟨cb,fb,A,v,k,_,e⟩ | ⟨ha,D,R,l,cb,fb,A,v,out,e1,e2,k,e5,e6⟩
 · have:=e rfl
   have:=cH
   simp only [dB,List.length_append] at *
   omega
 · have hp:=e6 rfl
   rw [List.drop_length,List.append_nil] at e5
   rcases R with _ | ⟨f,R⟩
   · rw [List.append_nil] at e1
     subst e1
     exact Ce k (by have:=wu (D:=fs) (R:=[]) gs (by simp);omega)
   · rw [e5,pw] at hp
     have:=jg (gs.g f (by rw [e1];simp)).w
     exact absurd hp (BJ (by omega))
end
theorem Ea {h:ah} {A:Option Addr} {c:Nat} {B:List UInt8} (r:Rd h (.slice A B.length c) 1 B.length (bu B)) {a z:Nat} (hz:a+z≤B.length):Rd h (.slice (if c=a then A else A.map (·.add (a * 1))) (a+z - a) (c - a)) 1 ((B.drop a).take z).length (bu ((B.drop a).take z)):=by
 obtain ⟨A',c',e,r'⟩:=oC r (l:=a) (k:=a+z) (by omega) hz
 simp only [Value.slice.injEq] at e
 obtain ⟨rfl,_,rfl⟩:=e
 have hl:((B.drop a).take z).length=a+z - a:=by rw [List.length_take,List.length_drop];omega
 have he:((bu B).drop (a * 1)).take ((a+z - a) * 1)=bu ((B.drop a).take z):=by rw [Nat.mul_one,Nat.mul_one,Nat.add_sub_cancel_left];simp only [bu,List.map_take,List.map_drop]
 rw [hl,← he]
 exact r'
theorem E2 {h:ah} {vb vs:Value} {ss:List UInt8} {fs:List Fm} (gs:BH fs) (er:Er h) (hB:Rd h vb 1 (dB fs).length (bu (dB fs))) (hs:Rd h vs 1 ss.length (bu ss)) (hl:ss.length≤100) :
   ag Tryz.prog 13 ⟨[vb,vs]⟩ h fun u h'=>Own h' u 5 1 (lW fs).length (bu (lW fs))∧Ext No h h'∧∀ q,u.ownBlock=some q→h.size≤q:=by
 have D6:=er.pos
 have hfn:=gs.n
 have hfl:=gs.l
 obtain ⟨A,c,rfl,hcB,_⟩:=id hB
 obtain ⟨A2,c2,rfl,_⟩:=id hs
 refine calls [(0,_),(1,_)] Tryz.func13 rfl Tryz.ntmps13 rfl ⟨rfl,rfl,trivial⟩ ?_
 refine G2 ?_;refine WC.sr ?_;refine WL.call (vs:=[]) rfl Tryz.call24 rfl (vE) rfl rfl rfl ?_
 rintro _ h1 ⟨be,me,rfl,hbe,hme,hge,hgm,ay⟩
 refine WL.call (vs:=[_,_,_]) rfl Tryz.call32 rfl (Cd hbe hme ay (by omega)) rfl rfl rfl ?_
 rintro _ h2 ⟨b,rfl,⟨cb,fb,A',v',Ob⟩,aH⟩
 have k0:Lv h h2 b fs 0 0 false:=.inl ⟨cb,fb,A',v',by simpa using Ob,rfl,fun z=>nomatch z⟩
 have X2:=ay.trans aH
 refine Go ?_;refine G2 ?_;refine G3 ?_;refine WC.block ?_;refine WC.bC (X:=Nat × Nat × Nat) (fun x=>([(6,In (x.2.1:Int)),(7,In (x.1:Int))]:Fr)) [(0,_),(1,_),(5,_)] (fun x h'=>x.1≤ss.length+1∧x.2.1≤(dB fs).length∧Ext No h h'∧∃ i,Lv h h' b fs x.2.1 x.2.2 i∧(x.1=ss.length+1→i=true∧x.2.1=(dB fs).length)) (fun x=>ss.length+1 - x.1) ((0,0,0)) ⟨rfl,rfl,rfl,rfl,rfl,trivial⟩ (by exact ⟨by omega,Nat.zero_le _,X2,false,k0,fun z=>by dsimp only at z;omega⟩) ?_
 rintro ⟨i,a,n⟩ h3 ⟨hi,ha,X3,ib,kv,hT⟩
 dsimp only at hi ha kv hT
 refine WC.sub [(6,_),(7,_),(0,_),(1,_),(5,_)] ⟨rfl,rfl,rfl,rfl,rfl,trivial⟩ ?_
 dsimp only
 refine G3 ?_
 refine aJ 1 2 (Hb.mk fun hb=>?_) (Hb.mk fun hb=>?_)
 all_goals try (
 refine ax 1 ?_
 refine WC.skip ?_
 skip)
 all_goals try (
 refine ax 2 ?_
 refine WC.exit ?_
 repeat' (with_reducible first | refine aU ?_ | refine aG rfl ?_ | refine aI ?_ | refine aL ?_ | refine aS ?_)
 refine Br.out (i:=1000) ?_
 skip)
 all_goals (refine Gn ?_;first | refine Br.ab ?_ | refine Gs [(0,_),(1,_),(5,_),(6,_),(7,_)] ?_)
 all_goals (first | refine Br.ab ?_ | refine WC.seq ?_)
 all_goals (first | refine Br.ab ?_ | refine WC.block ?_)
 all_goals (first | refine Br.ab ?_ | refine WC.sr ?_)
 all_goals (first | refine Br.ab ?_ | refine WL.step (ak rfl) rfl rfl rfl ?_)
 all_goals (first | refine Br.ab ?_ | refine WL.step (cu rfl Tryz.underlying23 rfl) rfl rfl rfl ?_)
 all_goals (first | refine Br.ab ?_ | refine WL.step (ak rfl) rfl rfl rfl ?_)
 all_goals (first | refine Br.ab ?_ | (refine WL.step (fu rfl rfl (by omega)) rfl rfl rfl ?_))
 all_goals (first | refine Br.ab ?_ | (rw [show (((dB fs).length:Nat):Int) - (a:Int)=(((dB fs).length - a:Nat):Int) by omega]))
 all_goals (refine Go ?_;first | refine Br.ab ?_ | refine Gs [(0,_),(1,_),(5,_),(6,_),(7,_),(8,_)] ?_)
 refine WC.cut (X:=Nat) (fun z=>[(0,.slice A (dB fs).length c),(1,.slice A2 ss.length c2),(5,.pointer (some ⟨b,0,none⟩)),(6,In (a:Int)),(7,In (i:Int)),(8,In (z:Int))]) (fun z h'=>z≤(dB fs).length - a∧(i=ss.length→a+z=(dB fs).length)∧h'=h3) ?_ ?_
 ·
   refine G2 ?_
   refine aJ 3 4 (Hb.mk fun hb=>?_) (Hb.mk fun hb=>?_)
   all_goals try (
   refine ax 3 ?_
   refine WC.region (Go ?_)
   obtain ⟨bS,oS,hSA,hbS,hatS⟩:=Rd.at_ (hs.aq X3) (by omega)
   subst hSA
   obtain ⟨y,hy⟩:∃ y,ss[i]?=some y:=⟨_,List.getElem?_eq_getElem (by omega)⟩
   have Mv:=y.toNat_lt
   have hcd:cell h3 ⟨bS,oS+i * 1,none⟩=some (By y):=by rw [Nat.mul_one];exact hatS.one (j:=i) (by simp [hy])
   refine WL.step (aF Tryz.underlying23 Tryz.sizeOf5 rfl rfl rfl (by omega) (by first | rfl | assumption)) rfl rfl rfl ?_
   refine WL.ld rfl (by first | exact hcd | assumption) rfl rfl rfl ?_
   refine WL.step (kG Tryz.underlying5 Tryz.underlying3 rfl (by omega)) rfl rfl rfl ?_
   refine WL.step (kE rfl rfl) rfl rfl rfl ?_
   rw [show (if (y.toNat:Int) < (((dB fs).length - a:Nat):Int) then (y.toNat:Int) else (((dB fs).length - a:Nat):Int))=((min ((dB fs).length - a) y.toNat:Nat):Int) by split <;> omega]
   refine Go ?_
   skip)
   all_goals try (
   refine ax 4 ?_
   refine WC.skip ?_
   skip)
   all_goals (refine Gn ?_;refine ⟨_,⟨rfl,rfl,rfl,rfl,rfl,rfl,trivial⟩,?_⟩;exact ⟨by omega,fun e=>by omega,rfl⟩)
 rintro z h4 ⟨jo,Ie,hz⟩;subst hz
 all_goals (first | refine Br.ab ?_ | refine WC.sr ?_)
 all_goals (refine Go ?_;first | refine Br.ab ?_ | (refine WL.step (dv (l:=a) (k:=a+z) Tryz.underlying23 Tryz.sizeOf5 rfl rfl rfl (by omega)) rfl rfl rfl ?_))
 all_goals (
  first
    | (refine Br.ab ?_)
    | (refine WL.call (vs:=[_,_]) rfl Tryz.call33 rfl (D9 gs kv rfl (Ea (hB.aq X3) (by omega))) rfl rfl rfl ?_
       rintro v4 h4 ⟨Oc,aW⟩
       have X4:Ext No h h4:=X3.trans' aW (fun q hq (e:h.size≤q)=>by omega)))
 all_goals (refine Gn ?_;first | refine Br.ab ?_ | refine Gs [(0,_),(1,_),(5,_),(6,_),(7,_),(8,_)] ?_)
 all_goals (first | refine Br.ab ?_ | refine WC.sr ?_)
 all_goals (refine Go ?_;first | refine Br.ab ?_ | refine Gs [(0,_),(1,_),(5,_),(6,_),(7,_)] ?_)
 all_goals (first | refine Br.ab ?_ | refine WC.sr ?_)
 all_goals (refine Go ?_;first | refine Br.ab ?_ | refine WC.block ?_)
 all_goals (first | refine Br.ab ?_ | (refine WC.bC (X:=Nat × Nat) (fun x=>([(43,In (x.1:Int))]:Fr)) [(0,_),(1,_),(5,_),(6,_),(7,_)] (fun x h'=>x.1≤700∧x.1≤x.2∧Lv h h' b fs (a+z) x.2 false∧Ext No h h') (fun x=>700 - x.1) ((0,n)) ⟨rfl,rfl,rfl,rfl,rfl,rfl,trivial⟩ (by exact ⟨by omega,Nat.zero_le _,Oc,X4⟩) ?_))
 all_goals (
  first
    | (refine Br.ab ?_)
    | (rintro ⟨j,n5⟩ h5 ⟨hj,hjn,Lt,X5⟩
       dsimp only at hj hjn Lt
       have Hm:=Lt.le))
 all_goals (first | refine Br.ab ?_ | refine WC.sub [(43,_),(0,_),(1,_),(5,_),(6,_),(7,_)] ⟨rfl,rfl,rfl,rfl,rfl,rfl,trivial⟩ ?_)
 all_goals (first | refine Br.ab ?_ | dsimp only)
 all_goals (first | refine Br.ab ?_ | refine WC.sr ?_)
 all_goals (refine Go ?_;first | refine Br.ab ?_ | refine WC.seq ?_)
 all_goals (first | refine Br.ab ?_ | refine aJ 5 6 ?_ TT.mk)
 all_goals try (
 refine ax 5 ?_
 refine WC.skip ?_
 skip)
 all_goals (refine Gn ?_;first | refine Br.ab ?_ | refine WC.seq ?_)
 all_goals (first | refine Br.ab ?_ | refine WC.block ?_)
 all_goals (first | refine Br.ab ?_ | refine WC.sr ?_)
 all_goals (refine Go ?_)
 all_goals (
  first
    | (refine Br.ab ?_)
    | (refine WL.call (vs:=[_]) rfl Tryz.call34 rfl (D8 gs (er.aq X5) D6 Lt) rfl rfl rfl ?_
       rintro _ h6 ⟨⟨Iu,rfl,k6⟩,aM⟩
       have X6:Ext No h h6:=X5.trans' aM (fun q hq (e:h.size≤q)=>by omega)
       rcases k6 with ⟨rfl,Lu⟩ | ⟨rfl,Lu⟩))
 all_goals (refine Go ?_;first | refine Br.ab ?_ | refine aJ 7 8 ?_ TT.mk)
 all_goals try (
 refine ax 7 ?_
 refine WC.exit ?_
 repeat' (with_reducible first | refine aU ?_ | refine aG rfl ?_ | refine aI ?_ | refine aL ?_ | refine aS ?_)
 refine Br.out (i:=1002) ?_
 skip)
 all_goals try (
 refine ax 8 ?_
 refine WC.skip ?_
 skip)
 all_goals (refine Gn ?_;first | refine Br.ab ?_ | refine Gs [(0,_),(1,_),(5,_),(6,_),(7,_),(43,_)] ?_)
 all_goals (first | refine Br.ab ?_ | refine WC.region ?_)
 all_goals (refine Go ?_;first | refine Br.ab ?_ | (exact ⟨(j+1,n5+1),⟨rfl,rfl,rfl,rfl,rfl,rfl,trivial⟩,(by exact ⟨by omega,by omega,Lu,X6⟩),(by dsimp only;omega)⟩))
 all_goals (try (refine Br.mk (i:=1002) ?_))
 all_goals (refine Gn ?_;first | refine Br.ab ?_ | refine Gs [(0,_),(1,_),(5,_),(6,_),(7,_)] ?_)
 all_goals (first | refine Br.ab ?_ | refine WC.region ?_)
 all_goals (first | refine Br.ab ?_ | (first | (exfalso;omega) | skip))
 all_goals (first | refine Br.ab ?_ | refine WL.step (ak rfl) rfl rfl rfl ?_)
 all_goals (refine Go ?_;first | refine Br.ab ?_ | (exact ⟨(i+1,a+z,n5),⟨rfl,rfl,rfl,rfl,rfl,trivial⟩,(by exact ⟨by dsimp only;omega,by dsimp only;omega,X6,true,Lu,fun e=>⟨rfl,Ie (by dsimp only at e;omega)⟩⟩),(by dsimp only;omega)⟩))
 try (refine Br.mk (i:=1000) ?_)
 refine Gn ?_;refine Gs [(5,_)] ?_;refine WC.sr ?_
 obtain ⟨rfl,Od⟩:=hT (by omega)
 refine WL.step (ak rfl) rfl rfl rfl ?_;refine WL.call (vs:=[_]) rfl Tryz.call35 rfl (Hg gs kv Od) rfl rfl rfl ?_
 rintro v7 h7 ⟨gM,bh,Hk⟩
 refine Go ?_;refine Gt ?_
 exact ⟨gM,X3.trans bh,fun q hq=>by have:=Hk q hq;have:=X3.size;omega⟩
theorem xW (w:World):dZ Tryz.prog w 22 (fun p:Value × List Fm=>[p.1]) (fun p=>FK w.heap p.1 p.2) :=
 (dR Tryz.underlying22 (by kernel_rfl) (by decide) Fm.len (zj w)).map id (fun _=>rfl) fun p q=>⟨q.1,q.2.1,fun f hf=>(q.2.2.2.1 f hf).1⟩
noncomputable def oA (L:List Fm):List Fm:=L.filter fun f=>@decide f.may (Classical.propDecidable _)
theorem sU (L:List Fm):wg (uT L)=j2 (oA L):=by
 unfold wg uT j2 oA
 induction L with
 | nil=>rfl
 | cons f L ih =>
   rw [List.flatMap_cons,List.flatMap_append,ih,List.filter_cons]
   by_cases h:f.may
   · rw [@if_pos _ (Classical.propDecidable _) h,if_pos (@decide_eq_true _ (Classical.propDecidable _) h),List.flatMap_cons]
     simp
   · rw [@if_neg _ (Classical.propDecidable _) h,if_neg (by rw [@decide_eq_false _ (Classical.propDecidable _) h];decide)]
     simp
theorem Hh {L:List Fm} (h1:(L.length:Int)≤20) (h2:∀ f∈L,f.qB) (h3:(dB (oA L)).length≤3000):BH (oA L) :=
 ⟨fun f hf=>by
   obtain ⟨h,m⟩:=List.mem_filter.1 hf
   exact ⟨h2 f h,@of_decide_eq_true _ (Classical.propDecidable _) m⟩,by have:(oA L).length≤L.length:=List.length_filter_le _ _;omega,h3⟩
theorem Eb {b:Bk} (h:b.may):jf b.p=[(b.kind,ei b)]:=by
 have e:(xO b.p).p=b.p:=uK _
 unfold jf
 rw [if_pos (uM e.symm h),vY e]
 rfl
def fS:Fm:={ JL with kind:=83 }
theorem Cg:fS.qB:=⟨by decide,by decide,by decide,by decide,(fun _ h=>nomatch h),by decide,by decide,by decide⟩
theorem Ch:fS.may:=⟨by unfold K6;decide,rfl,rfl,rfl,(fun _ h=>nomatch h),(fun _ h=>nomatch h),(fun _ h=>nomatch h),(fun _ h=>nomatch h),.inl ⟨by decide,.inl rfl⟩,by decide,rfl⟩
theorem u4:iy ph fS.p=(ph,[{ kind:=90,status:=73 }]):=rfl
theorem Ci:(dQ [{ kind:=90,status:=73 }]).length=6:=by
 rw [sR (p:={ kind:=90,status:=73 }) (l:=ei (gB 90 73 0 0)) (Eb (b:=gB 90 73 0 0) yU)]
 rfl
section
variable {h0 h h':ah} {b cb fb:Nat} {A:Ad} {s:SP} {bg bg':Bool} {l l':List UInt8} {v v' out out':Value} {ob ob':List UInt8} {dn dn':Nat} {S:Nat→Prop}
theorem Ec (k:ji h0 h b cb fb A s bg l v out ob dn):ag Tryz.prog 36 ⟨[.pointer (some ⟨b,0,none⟩)]⟩ h fun u h'=>u=In dn∧h'=h:=by
 have kr:=fX k
 have hb:=k.bq
 unfold u0 at hb
 refine calls [(0,_)] Tryz.func36 rfl Tryz.ntmps36 rfl ⟨rfl,trivial⟩ ?_
 refine G2 ?_;refine G3 ?_;refine WL.call (vs:=[_]) rfl Tryz.call68 rfl (kr) rfl rfl rfl ?_
 rintro _ hq ⟨rfl,hz⟩
 replace hz:=hz.symm
 subst hz
 refine Go ?_
 refine aJ 1 2 ?_ TT.mk
 all_goals (refine ax 2 ?_)
 refine WC.skip ?_;refine Gn ?_;refine Gs [(0,_)] ?_;refine G2 ?_;refine WL.step (ae rfl) rfl rfl rfl (Go ?_);refine WL.ld rfl (by first | exact aa hb rfl | assumption) rfl rfl rfl (Go ?_)
 refine Gs [(2,_)] ?_;refine Gt ?_
 exact ⟨rfl,rfl⟩
theorem xX (k:ji h0 h b cb fb A s bg l v out ob dn):ag Tryz.prog 37 ⟨[.pointer (some ⟨b,0,none⟩)]⟩ h fun u h'=>u=.int .u8 s.st∧h'=h:=by
 have kr:=fX k
 have hb:=k.bq
 have hs:=k.se.bq
 unfold u0 at hb
 refine calls [(0,_)] Tryz.func37 rfl Tryz.ntmps37 rfl ⟨rfl,trivial⟩ ?_
 refine G2 ?_;refine G3 ?_;refine WL.call (vs:=[_]) rfl Tryz.call68 rfl (kr) rfl rfl rfl ?_
 rintro _ hq ⟨rfl,hz⟩
 replace hz:=hz.symm
 subst hz
 refine Go ?_
 refine aJ 1 2 ?_ TT.mk
 all_goals (refine ax 2 ?_)
 refine WC.skip ?_;refine Gn ?_;refine Gs [(0,_)] ?_;refine G2 ?_;refine WL.step (ae rfl) rfl rfl rfl (Go ?_);refine WL.ld rfl (by first | exact aa hb rfl | assumption) rfl rfl rfl ?_
 refine WL.call (vs:=[_]) rfl Tryz.call75 rfl (zl hs) rfl rfl rfl ?_
 rintro _ hq ⟨rfl,hz⟩
 replace hz:=hz.symm
 subst hz
 refine Go ?_;refine Gs [(2,_)] ?_;refine Gt ?_
 exact ⟨rfl,rfl⟩
end
theorem sV {h:ah} (er:Er h):ag Tryz.prog 11 ⟨[]⟩ h fun u h'=>u=.bool true∧Ext No h h':=by
 have D6:=er.pos
 have e5:dU fS.kind (fj fS)++[]=Lj:=by decide
 refine calls [] Tryz.func11 rfl Tryz.ntmps11 rfl trivial ?_
 refine G2 ?_;refine WC.sr ?_;refine WL.call (vs:=[]) rfl Tryz.call24 rfl (vE) rfl rfl rfl ?_
 rintro _ h1 ⟨be,me,rfl,hbe,hme,hge,hgm,ay⟩
 refine WL.call (vs:=[_,_,_]) rfl Tryz.call32 rfl (Cd hbe hme ay (by omega)) rfl rfl rfl ?_
 rintro _ h2 ⟨b,rfl,⟨cb,fb,A2,v2,k2⟩,aH⟩
 have X2:=ay.trans aH
 refine Go ?_;refine G3 ?_;refine WL.step (eP Tryz.underlying66 rfl rfl) rfl rfl rfl (Go ?_)
 refine bG 6 ?_ TT.mk
 refine Gg ?_;refine WL.call (vs:=[]) rfl Tryz.call8 rfl (oH) rfl rfl rfl ?_
 rintro v3 h3 ⟨dE,aP,gG⟩
 obtain ⟨A3,c3,rfl,_⟩:=id dE.slice
 refine WL.ai (aw (vs:=[_,_,_,_,_]) (cs:=[_,_,_,_,_]) (fun | [a0,a1,a2,a3,a4]=>[a0,a1,a2,a3,a4] | _=>[]) Tryz.underlying23 rfl rfl (by kernel_rfl)) rfl rfl rfl ?_
 rintro _ h4 ⟨b4,rfl,oF,bx,aW⟩
 refine WL.ai (aT (sz:=1) (bytes:=1) rfl Tryz.underlying23 (show Tryz.prog.info? 5=some Tryz.t5 by kernel_rfl) rfl rfl rfl rfl (by decide) rfl rfl (dE.ext aW (fun _ _=>aO)) (bz (len:=5) (sz:=1) bx rfl) (by simp [Value.oneCell']) (by simp only [maxLen];omega) (by omega)) rfl rfl rfl ?_
 rintro v5 h5 ⟨eG,aN,yI⟩
 have eG:Own h5 v5 5 1 21 (bu BQ):=eG
 have hlA:∀ q,(Value.slice A3 16 c3).ownBlock=some q→h2.size≤q:=gG
 have EH:Ext No h2 h5:=(aP.trans aW).trans' aN (fun q hq e=>by have:=hlA q e;omega)
 have k5:=k2.aq EH
 have X5:=X2.trans EH
 obtain ⟨A5,c5,rfl,_⟩:=id eG.slice
 refine WL.call (vs:=[_,_]) rfl Tryz.call33 rfl (qP (m:=BQ) k5 eG.rd (by decide)) rfl rfl rfl ?_
 rintro _ h6 ⟨rfl,⟨A6,v6,k6⟩,aM⟩
 have X6:Ext No h h6:=X5.trans' aM (fun q hq (e:h.size≤q)=>by omega)
 refine Gg ?_;refine Go ?_
 refine bG 14 ?_ TT.mk
 refine Gg ?_;refine WL.call (vs:=[_]) rfl Tryz.call34 rfl (sS (r:=Lj) k6 (by decide) (by decide)) rfl rfl rfl ?_
 rintro _ h7 ⟨rfl,⟨A7,v7,o7,k7⟩,bh⟩
 have X7:Ext No h h7:=X6.trans' bh (fun q hq (e:h.size≤q)=>by omega)
 rw [← e5] at k7
 refine Gg ?_;refine Go ?_
 refine bG 19 ?_ TT.mk
 refine Gg ?_;refine WL.call (vs:=[_]) rfl Tryz.call34 rfl (Cf (f:=fS) (r:=[]) k7 Cg Ch (er.aq X7) D6 wa (by decide) (Gd.G1 ⟨Cg,Ch⟩) (by rw [u4];intro p hp;rw [List.mem_singleton.1 hp];exact E1 (.inl rfl)) (by rw [u4];decide) (by decide) (by decide) (by decide)) rfl rfl rfl ?_
 rintro _ h8 ⟨rfl,⟨A8,v8,o8,k8⟩,bD⟩
 have X8:Ext No h h8:=X7.trans' bD (fun q hq (e:h.size≤q)=>by omega)
 rw [u4] at k8
 refine Gg ?_;refine Go ?_
 refine bG 24 ?_ TT.mk
 refine Gg ?_;refine WL.call (vs:=[_]) rfl Tryz.call34 rfl (qQ k8 sM (by decide)) rfl rfl rfl ?_
 rintro _ h9 ⟨rfl,⟨A9,k9⟩,cg⟩
 have X9:Ext No h h9:=X8.trans' cg (fun q hq (e:h.size≤q)=>by omega)
 have Mw:([]++ey++dQ [({ kind:=90,status:=73 }:iw)]).length=34:=by rw [List.length_append,Ci];rfl
 refine Go ?_;refine Gs [(1,_),(27,_)] ?_
 refine aJ 1 2 ?_ TT.mk
 all_goals (refine ax 2 ?_)
 refine WC.skip ?_;refine Gn ?_;refine G2 ?_;refine WL.call (vs:=[_]) rfl Tryz.call35 rfl (Ce k9 (by rw [Mw];decide)) rfl rfl rfl ?_
 rintro v10 iD ⟨iY,cG,Ia⟩
 rw [Mw] at iY
 obtain ⟨LX,Cm,rfl,_⟩:=id iY.slice
 have o5:=k9.aq cG
 refine Go ?_
 refine bG 32 ?_ TT.mk
 refine Gg ?_;refine WL.call (vs:=[_]) rfl Tryz.call36 rfl (Ec o5) rfl rfl rfl ?_
 rintro _ hq ⟨rfl,hz⟩
 replace hz:=hz.symm
 subst hz
 refine Gg ?_;refine Go ?_
 refine bG 37 ?_ TT.mk
 refine Gg ?_;refine WL.call (vs:=[_]) rfl Tryz.call37 rfl (xX o5) rfl rfl rfl ?_
 rintro _ hq ⟨rfl,hz⟩
 replace hz:=hz.symm
 subst hz
 refine Gg ?_;refine Go ?_;refine Gs [(0,_)] ?_;refine Gt ?_
 exact ⟨rfl,X9.trans cG⟩
def lj:List (String × DataW Unit):=Rows.soloPiecesRow.laid.filter fun x=>x.2.handleName?.isNone
noncomputable def px (os:Os):World :=
 let w0:=World.holding Tryz.prog os ⟨#[],#[],[]⟩
 { w0 with heap := w0.heap.modify 0 fun
     | .cells _ t frozen=>.cells #[.iface 290 (.agg #[.pointer (some ⟨4,165,none⟩)])] t frozen
     | o=>o }
noncomputable def jA (os:Os):World:=(px os).layVars Tryz.prog lj
theorem qR (os:Os):(jA os).os=os:=World.layVars_os _ _ _
theorem oB (os:Os) (args:Array Value):laidMetH Tryz.prog Rows.soloPiecesRow.laid ((jA os).forCall (fun _ _=>0) ⟨#[],args,[]⟩).memory:=by
 have e1:(lj.filter fun x=>(lj.map (·.1)).contains x.1)=lj:=List.filter_eq_self.2 fun x hx=>List.contains_iff_mem.2 (List.mem_map.2 ⟨x,hx,rfl⟩)
 have e2:(lj.filter fun x => !(lj.map (·.1)).contains x.1)=[]:=List.filter_eq_nil_iff.2 fun x hx=>by rw [List.contains_iff_mem.2 (List.mem_map.2 ⟨x,hx,rfl⟩)];simp
 have h:laidMet Tryz.prog lj (jA os):=laidMet_layVars (w0:=px os) (lj.map (·.1)) [] (by rw [e1];rfl) (by rw [e1];kernel_rfl) (by rw [e1];kernel_rfl) (by rw [e2];exact LaidIn.none)
 exact laidMetH_of_parts (h.of_heap (by simp [World.memory,World.forCall,Input.heap])) (by kernel_rfl)
theorem Ed {W:World} (h:laidMetH Tryz.prog Rows.soloPiecesRow.laid W):Er W.heap:=by
 have h':laidMet Tryz.prog lj W∧handlesMet Tryz.prog (Rows.soloPiecesRow.laid.filter fun x=>x.2.handleName?.isSome) W:=h
 obtain ⟨name,u,ty,e1,e2,e3,e4,e5⟩:=h'.2 _ (List.mem_singleton.2 rfl)
 have en:name=[101,114,114,111,114]:=(Option.some.inj e1).symm
 subst en
 obtain rfl:=Option.some.inj (IG.symm.trans e2)
 have hm:ty∈(List.range 412).filter fun t=>Tryz.prog.rowNamed t [101,114,114,111,114]:=List.mem_filter.2 ⟨List.mem_range.2 (by rw [← Dq];exact e3),e4⟩
 rw [Gy] at hm
 obtain rfl:=List.mem_singleton.1 hm
 have hh:typeHandle Tryz.prog 165=.pointer (some ⟨4,165,none⟩):=by kernel_rfl
 rw [hh] at e5
 have hc:W.cell? ⟨0,0,none⟩=some (.iface 290 (.agg #[.pointer (some ⟨4,165,none⟩)])):=by simpa using World.var?_cell IF e5 0
 intro j v hj
 rcases j with _ | j
 · simp only [List.getElem?_cons_zero,Option.some.injEq] at hj
   subst hj
   exact hc
 · simp at hj
section
variable {h:ah} {v w:Value}
theorem Cj (l m:List UInt8) (hr:Rd h v 1 l.length (bu l)) (hs:Rd h w 1 m.length (bu m)):ag Tryz.prog 12 ⟨[v,w]⟩ h fun u h'=>u=.bool (decide (l=m))∧h'=h:=by
 obtain ⟨A,c,rfl,_⟩:=id hr
 obtain ⟨B,d,rfl,_⟩:=id hs
 refine calls [(0,_),(1,_)] Tryz.func12 rfl Tryz.ntmps12 rfl ⟨rfl,rfl,trivial⟩ ?_
 refine G2 ?_;refine G2 ?_;refine WL.step (dS Tryz.underlying23 Tryz.underlying5 Tryz.underlying9 rfl hr) rfl rfl rfl (Go ?_);refine WL.step (dS Tryz.underlying23 Tryz.underlying5 Tryz.underlying9 rfl hs) rfl rfl rfl ?_;refine WL.step (mD rfl rfl) rfl rfl rfl (Go ?_);refine Gs [(4,_)] ?_;refine Gt ?_
 exact ⟨congrArg Value.bool (by first | rfl | simp),rfl⟩
end
end Go.Proofs.YtopgddfgefnmbaaGreatDoor
