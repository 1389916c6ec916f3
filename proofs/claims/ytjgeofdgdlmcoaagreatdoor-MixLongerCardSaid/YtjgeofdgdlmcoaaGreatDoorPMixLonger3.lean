import Derived.Test.YtjgeofdgdlmcoaaGreatDoorPMixLonger2
import Derived.HandedShaped
import Derived.Handed
import Derived.Scope
import GoSem.ClaimGoes
import Derived.LoopNIn
import Derived.WideLaws
import Derived.ChangeKeysEq
import Derived.Laws.Entries
import Derived.RangeFuncRecord
import Derived.RangeFuncLeaves
set_option linter.unusedVariables false
set_option linter.unusedSimpArgs false
set_option linter.unusedSectionVars false
namespace Go.RK
open Go
open Go.RK.Uni (Ty El)
open Go.RK.Byt (bT)
variable [Uni]
section
variable {P:Program} {f:Tv} {A:Hp} {d:Option Tmp} {ty:TypeId} {pos:String} {af:Array Edge} {gd:Option (Nat × Bool)}
omit [Uni] in
theorem bif_o {α:Type} {c:Bool} {x:Option α} {r:α} (e:(bif c then x else Option.none)=some r):c=true∧x=some r:=by
  cases c with
  | true=>exact ⟨rfl,e⟩
  | false=>cases e
noncomputable def clsP (A:Hp) (b:Nat):Option (Bool × Hp):=match A.t.get b with
  | some (.mapP _ _ _ _ Option.none)=>some (true,A)
  | some (.mapP k τ el l (some (q,γ)))=>match A.t.get γ with
    | some (.cells cs el' false)=>bif Nat.beq el' el && (Nat.beq cs.length (szU τ) && (!A.pr.contains b && !A.pr.contains γ)) then
      (match fldF (Uni.sh τ) cs A with
      | some (y,A1,c)=>some (c,{ A1 with t:=(A1.t.cut γ).set b (.mapP k τ el (mput l q (Uni.cl τ y)) Option.none) })
      | Option.none=>Option.none) else Option.none
    | _=>Option.none
  | _=>Option.none
omit [Uni] in
theorem mput_map {κ α:Type} [DecidableEq κ] {l:List (κ × α)} {q:κ} {v:α} (h:∃ y,(q,y)∈l):mput l q v=l.map fun p=>if p.1=q then (q,v) else p:=by
  obtain ⟨y,h⟩:=h
  unfold mput
  rw [if_pos]
  unfold mlook
  rw [Option.isSome_map,List.find?_isSome]
  exact ⟨_,h,by simp⟩
theorem mp_nodup {k:Fk Ty} {h:Heap} {m:Nat} {es:List (DenU k × Value)} (hm:Mp .bool (encK k) h m es):(es.map (·.1)).Nodup:=by
  obtain ⟨arr,clock,hb,hs,he⟩:=hm
  have h1:(arr.toList.map (·.key)).Nodup:=hs.2.2
  have h2:arr.toList.map (·.key)=(es.map (·.1)).map (encK k):=by
    have:=congrArg (List.map (·.1)) he
    simpa [List.map_map,Function.comp_def] using this
  rw [h2] at h1
  exact nodup_of_map h1
theorem clsP_ok {b:Nat} {c:Bool} {A':Hp} (e:clsP A b=some (c,A')) (hc:c=true) {σ:Sg} {h:Heap} (hk:HR σ A h):(∃ σ',Stp σ A h σ' A' h)∧∃ k τ el l,A'.t.get b=some (.mapP k τ el l Option.none):=by
  unfold clsP at e
  split at e
  case h_3=>cases e
  · rename_i k τ el l hg
    simp only [Option.some.injEq,Prod.mk.injEq] at e
    obtain ⟨_,rfl⟩:=e
    exact ⟨⟨σ,.refl hk⟩,_,_,_,_,hg⟩
  rename_i k τ el l q γ hg
  split at e
  case h_2=>cases e
  rename_i cs el' hγ
  obtain ⟨h1,e⟩:=bif_o e
  split at e
  case h_2=>cases e
  rename_i y A1 c1 hf
  simp only [Option.some.injEq,Prod.mk.injEq] at e
  obtain ⟨rfl,rfl⟩:=e
  simp only [Bool.and_eq_true,Bool.not_eq_true'] at h1
  have hel:=Nat.eq_of_beq_eq_true h1.1
  subst hel
  have hcl:=Nat.eq_of_beq_eq_true h1.2.1
  refine ⟨?_,k,τ,el',_,by simp only;rw [Tx.get_set,if_pos rfl]⟩
  obtain ⟨pγ,hpγ,hnγ,us,z,u1,u2,u3,u4,u5,u6⟩:=hk.obj _ _ hγ
  have hcn:=u5 rfl
  have htk:(us.drop pγ.o).take cs.length=us.drop pγ.o:=List.take_of_length_le (by rw [List.length_drop];omega)
  rw [htk] at u3
  obtain ⟨F,st,hd⟩:=fldF_ok u3 hk hf hc
  have hfo:=fldF_fo hf
  have hg1:=hfo b _ hg rfl
  have hγ1:=hfo γ _ hγ rfl
  have hpr:A1.pr=A.pr:=st.pr
  obtain ⟨p,hp,hn,es,v,hm,hw,hdp,hnd⟩:=st.hr.obj _ _ hg1
  obtain ⟨r,hr,hrn,rfl,hin⟩:=hw
  have hr:σ γ=some r:=hr
  rw [hpγ] at hr
  injection hr with hr
  subst hr
  have hne:γ ≠ b:=fun e=>by rw [e,hg] at hγ;cases hγ
  obtain ⟨bs',k1,k2⟩:=DatP.close (y:=Uni.cl τ y) u1 u6 (by rw [u2];omega) (by rw [Uni.op_cl];exact hd) hdp (by rw [← hdp.fst];exact mp_nodup hm) hin
  have hown:pγ.b ∉ p.b :: σ.ex p.b:=fun hm'=>by
    refine hne (st.hr.inj γ b _ _ _ _ hγ1 hg1 rfl rfl hpγ hp hnγ hn pγ.b (.inl rfl) ?_)
    rcases List.mem_cons.1 hm' with e | e
    · exact .inl e.symm
    · exact .inr ⟨rfl,e⟩
  have ho:OR ⟨σ.pl,F,exUp ⟨σ.pl,F,σ.ex⟩ p.b bs'⟩ h p (.mapP k τ el' (mput l q (Uni.cl τ y)) Option.none):=by
    refine ⟨hn,es,Option.none,hm,rfl,?_,?_⟩
    · rw [mput_map hin]
      show DatP F h k τ el' Option.none _ es (exUp ⟨σ.pl,F,σ.ex⟩ p.b bs' p.b)
      rw [exUp_at];exact k1
    · show (p.b :: exUp ⟨σ.pl,F,σ.ex⟩ p.b bs' p.b).Nodup
      rw [exUp_at,List.nodup_cons,k2.nodup_iff,k2.mem_iff,List.nodup_cons]
      have hnd:(p.b :: σ.ex p.b).Nodup:=hnd
      rw [List.nodup_cons] at hnd
      simp only [List.mem_cons,not_or] at hown ⊢
      exact ⟨⟨fun e=>hown.1 e.symm,hnd.1⟩,hown.2,hnd.2⟩
  have:=Stp.absorb (G:=some γ) (xs:=bs') st.hr hg1 rfl hp hn (by rw [hpr];exact h1.2.2.1) (fun γ' e=>by
    injection e with e
    subst e
    exact ⟨hne,by rw [hpr];exact h1.2.2.2,_,_,hγ1,rfl,hpγ,hnγ⟩) (.refl _ _) (fun c hc=>by
    rcases List.mem_cons.1 (k2.mem_iff.1 hc) with e | e
    · exact .inr ⟨γ,pγ,rfl,hpγ,e.symm⟩
    · exact .inl ⟨rfl,e⟩) ho
  exact ⟨_,st.trans this⟩
noncomputable def tupO (ok:Bool) (v:AV) (b:Bool):AV:=bif ok then .tuple ⟨[v,.bool b]⟩ else v
noncomputable def lupK {R:Type} (P:Program) (f:Tv) (A:Hp) (t:TypeId) (x y:Operand) (ok:Bool) (κ:AV→Hp→Option R):Option (Option R):=match P.underlying t,evE f x,evE f y with
  | some (.map kt et),some (.map (some b)),some kv=>match clsP A b with
    | some (c0,A1)=>match P.underlying kt,A1.t.get b,zeroE P et with
      | some D,some (.mapP k τ el l Option.none),some (.pointer Option.none)=>bif keyD k D && !A1.pr.contains b then (match keyF k kv with
        | some (c, q) => some (bif c0 && c then
            (match mlook l q with
            | Option.none=>κ (tupO ok (.pointer Option.none) false) A1
            | some y=>κ (tupO ok (.pointer (some ⟨A1.nx,0,Option.none⟩)) true) { A1 with t:=(A1.t.set A1.nx (.cells (opU τ y) el false)).set b (.mapP k τ el l (some (q,A1.nx))),nx:=Nat.succ A1.nx }) else Option.none)
        | Option.none=>Option.none) else Option.none
      | _,_,_=>Option.none
    | Option.none=>Option.none
  | _,_,_=>Option.none
theorem opU_va {F:Fz} {σ:Sg} (hz:σ.fz=F) {t:Ty} {y:El t} {us:List Value} (g:DatF F (Uni.sh t) (Uni.op t y) us):VaL σ (opU t y) us:=by subst hz;exact g.va
theorem lupK_ok {R:Type} {t:TypeId} {x y:Operand} {ok:Bool} {κ:AV→Hp→Option R} {F:Option R} {r:R} (e:lupK P f A t x y ok κ=some F) (hr:F=some r):∃ v A',κ v A'=some r∧OpOk P f A ⟨d,.lookup t x y ok,ty,pos,af,gd⟩ v A':=by
  unfold lupK at e
  split at e
  case h_2=>cases e
  rename_i kt et b kv hu hx hy
  split at e
  case h_2=>cases e
  rename_i c0 A1 hcl
  split at e
  case h_2=>cases e
  rename_i D k τ el l hD hg hz
  obtain ⟨h1,e⟩:=bif_o e
  simp only [Bool.and_eq_true,Bool.not_eq_true'] at h1
  split at e
  case h_2=>cases e
  rename_i c q hq
  simp only [Option.some.injEq] at e
  subst e
  obtain ⟨hcc,hr⟩:=bif_o hr
  rw [Bool.and_eq_true] at hcc
  have E:=keyU h1.1
  have hkey:∀ (σ:Sg) (g:Fr) (h:Heap),FrL σ f g→HR σ A h→∃ σ1 p es,Stp σ A h σ1 A1 h∧σ1 b=some p∧p.nw=false∧Mp D (encK k) h p.b es∧DatP σ1.fz h k τ el Option.none l es (σ1.ex p.b)∧(p.b :: σ1.ex p.b).Nodup∧g.ev x=some (.map (some p.b))∧g.ev y=some (encK k q):=fun σ g h hf hk=>by
    obtain ⟨⟨σ1,s1⟩,_⟩:=clsP_ok hcl hcc.1 hk
    obtain ⟨u,h3,h4⟩:=hf.ev hx
    obtain ⟨p,hp,rfl⟩:=va_map h4
    obtain ⟨u',h5,h6⟩:=hf.ev hy
    have:=keyF_ok hq hcc.2 h6
    subst this
    obtain ⟨p',hp',hn,es,v,hm,hw,hd,hnd⟩:=s1.hr.obj _ _ hg
    have hpp:=s1.le.pl _ _ hp
    rw [hpp] at hp'
    injection hp' with hp'
    subst hp'
    have hv:v=Option.none:=hw
    subst hv
    exact ⟨σ1,p,es,s1,hpp,hn,hm,hd,hnd,h3,h5⟩
  split at hr
  · rename_i hlk
    refine ⟨_,_,hr,fun σ g h hf hk=>?_⟩
    obtain ⟨σ1,p,es,s1,hp,hn,hm,hd,hnd,h3,h5⟩:=hkey σ g h hf hk
    have:=ok_lookup_no (P:=P) (dd:=d) (ty:=ty) (pos:=pos) (af:=af) (g:=gd) E hu hD (fun w=>zero_ok hz w) h3 h5 hm (hd.no hlk)
    cases ok with
    | true=>exact this.1.r.mono fun u' h' ⟨e1,e2⟩=>by subst e1;subst e2;exact ⟨σ1,s1,.tuple (.cons .ptr0 (.cons (.bool _) .nil))⟩
    | false=>exact this.2.r.mono fun u' h' ⟨e1,e2⟩=>by subst e1;subst e2;exact ⟨σ1,s1,.ptr0⟩
  · rename_i y1 hlk
    refine ⟨_,_,hr,fun σ g h hf hk=>?_⟩
    obtain ⟨σ1,p,es,s1,hp,hn,hm,hd,hnd,h3,h5⟩:=hkey σ g h hf hk
    obtain ⟨cb,o,us,z,bs',k1,k2,k3,k4,k5,k6,k7⟩:=hd.open_ (by rw [← hd.fst];exact hm.nodup E) hlk
    have:=ok_lookup (P:=P) (dd:=d) (ty:=ty) (pos:=pos) (af:=af) (g:=gd) E hu hD h3 h5 hm k1
    let Q:Pl:=⟨cb,o,szU τ,0,0,false⟩
    have hcm:cb∈σ1.ex p.b:=k7.mem_iff.2 (by simp)
    rw [List.nodup_cons,k7.nodup_iff,List.nodup_cons,k7.mem_iff] at hnd
    have hbn:b ≠ A1.nx:=fun e=>by have:=s1.hr.dom _ _ hp;omega
    have st:=Stp.open_ (q:=Q) (xs:=bs') (on:=.cells (opU τ y1) el false) (o':=.mapP k τ el l (some (q,A1.nx))) s1.hr hg rfl rfl hp hn h1.2 hcm hnd.2.1 (fun e=>hnd.1 (by have e:cb=p.b:=e;simp [e])) (fun c hc=>k7.mem_iff.2 (by simp [hc])) rfl
      ⟨hn,es,some (q,cb,o),hm,⟨Q,upd_new _ _ _,rfl,rfl,y1,mlook_mem hlk⟩,by show DatP σ1.fz h k τ el _ l es (exUp σ1 p.b bs' p.b);rw [exUp_at];exact k6,by
        show (p.b :: exUp σ1 p.b bs' p.b).Nodup
        rw [exUp_at,List.nodup_cons]
        simp only [List.mem_cons,not_or] at hnd
        exact ⟨hnd.1.2,hnd.2.2⟩⟩
      ⟨rfl,us,z,k2,k4,by
        have hl:(opU τ y1).length=szU τ:=opU_len τ y1
        show VaL _ (opU τ y1) ((us.drop o).take (opU τ y1).length)
        rw [List.take_of_length_le (by rw [List.length_drop,hl];omega)]
        exact opU_va rfl k5,by rw [opU_len];exact Nat.le_refl _,fun _=>opU_len _ _,k3⟩
    have hva:Va _ (.pointer (some ⟨A1.nx,0,Option.none⟩)) (.pointer (some ⟨cb,o,Option.none⟩)):=Va.ptr (o:=0) (show (⟨(RK.upd σ1 A1.nx Q).pl,σ1.fz,exUp σ1 p.b bs'⟩:Sg) A1.nx=some Q from upd_new _ _ _)
    cases ok with
    | true=>exact this.1.r.mono fun u' h' ⟨e1,e2⟩=>by subst e1;subst e2;exact ⟨_,s1.trans st,.tuple (.cons hva (.cons (.bool _) .nil))⟩
    | false=>exact this.2.r.mono fun u' h' ⟨e1,e2⟩=>by subst e1;subst e2;exact ⟨_,s1.trans st,hva⟩
end
end Go.RK
namespace Go.RK
open Go
open Go.RK.Uni (Ty El)
open Go.RK.Byt (bT)
variable [Uni]
section
open MapKept
variable {P:Program} {f:Fr} {h:Heap} {dd:Option Tmp} {ty:TypeId} {pos:String} {af:Array Edge} {g:Option (Nat × Bool)}
variable {κ:Type} [DecidableEq κ] {d:TypeDesc} {enc:κ→Value} {m:Nat} {es:List (κ × Value)}
omit [Uni] [DecidableEq κ] in
theorem okU_clear {t kt et : TypeId} {x : Operand} {ts : Array TypeId} (hts : ts = #[t]) (hu : P.underlying t = some (.map kt et)) (hx : f.ev x = some (.map (some m))) (hm : Mp d enc h m es) :
    OkR P f ⟨dd,.call { callee:=.builtin .clear,args:=#[x],argTypes:=ts },ty,pos,af,g⟩ h (fun u h'=>u=undef∧Mp d enc h' m ([]:List (κ × Value))∧Ext (fun b=>b=m) h h'):=fun ρ w ha hw=>by
  subst hw
  subst hts
  obtain ⟨arr,clock,hb,hs,he⟩:=hm
  refine ⟨undef,{ w with heap:=w.heap.setIfInBounds m (.map #[] clock) },⟨rfl,rfl,rfl,trivial⟩,⟨rfl,⟨_,_,set_new hb,stamped_empty _,rfl⟩,.set _ _ _ rfl⟩,.inl ?_⟩
  simp [execOp,resolve,invoke,builtin,ha _ _ hx,Builtin.clear_,run_underlying hu,MapKept.run_getObj_map hb,MapKept.run_setObj_map _ hb,undef]
end
section
variable {P:Program} {f:Tv} {A:Hp} {d:Option Tmp} {ty:TypeId} {pos:String} {af:Array Edge} {gd:Option (Nat × Bool)}
noncomputable def mkMapP (P:Program) (A:Hp) (t:TypeId) (r:Option Operand):Option (AV × Hp):=match r,P.underlying t with
  | Option.none,some (.map kt et)=>match P.underlying et with
    | some (.pointer el)=>match fkE P kt,Uni.ofT el with
      | some k,some τ=>some (.map (some A.nx),A.new (.mapP k τ el [] Option.none))
      | _,_=>Option.none
    | _=>Option.none
  | _,_=>Option.none
theorem mkMapP_ok {t:TypeId} {r:Option Operand} {v:AV} {A':Hp} (e:mkMapP P A t r=some (v,A')):OpOk P f A ⟨d,.makeMap t r,ty,pos,af,gd⟩ v A':=by
  unfold mkMapP at e
  split at e
  case h_2=>cases e
  split at e
  case h_2=>cases e
  split at e
  case h_2=>cases e
  simp only [Option.some.injEq,Prod.mk.injEq] at e
  obtain ⟨rfl,rfl⟩:=e
  refine .fresh fun σ g h hf hk=>okE_makeMap.mono fun u h' ⟨b,hu,hn⟩=>?_
  subst hu
  have hex:σ.ex b=[]:=by
    cases ez:σ.ex b with
    | nil=>rfl
    | cons c l =>
      have h1:=(hk.exl b c (by rw [ez];simp)).1
      have:=hn.1
      omega
  refine ⟨⟨b,0,0,0,0,false⟩,_,rfl,hn,⟨rfl,[],Option.none,⟨_,_,hn.2.1,MapKept.stamped_empty 0,rfl⟩,rfl,?_,?_⟩,.map (upd_new σ A.nx _)⟩
  · show DatP _ _ _ _ _ _ _ _ (σ.ex b)
    rw [hex];exact .nil
  · show (b :: σ.ex b).Nodup
    rw [hex];simp
theorem Stp.mapLess {σ : Sg} {h h' : Heap} (k : HR σ A h) {b : Nat} {p : Pl} {kk : Fk Ty} {τ : Ty} {el : TypeId} {l l' : List (DenU kk × El τ)} {es' : List (DenU kk × Value)} {bs' : List Nat} (hg : A.t.get b = some (.mapP kk τ el l Option.none)) (hp : σ b = some p) (hn : p.nw = false) (hpr : A.pr.contains b = false)
    (hnd:(p.b :: σ.ex p.b).Nodup) (hd:DatP σ.fz h kk τ el Option.none l' es' bs') (hs:bs'.Sublist (σ.ex p.b)) (hm:Mp .bool (encK kk) h' p.b es') (x:Ext (fun c=>c=p.b) h h'):∃ σ',Stp σ A h σ' { A with t:=A.t.set b (.mapP kk τ el l' Option.none) } h':=by
  rw [List.nodup_cons] at hnd
  refine ⟨_,Stp.absorb (G:=Option.none) (xs:=bs') k hg rfl hp hn hpr (fun γ e=>by cases e) x (fun c hc=>.inl ⟨rfl,hs.subset hc⟩) ⟨hn,es',Option.none,hm,rfl,?_,?_⟩⟩
  · show DatP σ.fz h' kk τ el Option.none l' es' (exUp σ p.b bs' p.b)
    rw [exUp_at]
    exact hd.keep fun c hc=>x.keep c (k.exl _ _ (hs.subset hc)).2 fun e=>hnd.1 (e▸hs.subset hc)
  · show (p.b :: exUp σ p.b bs' p.b).Nodup
    rw [exUp_at,List.nodup_cons]
    exact ⟨fun e=>hnd.1 (hs.subset e),hs.nodup hnd.2⟩
noncomputable def muP (P:Program) (f:Tv) (A:Hp) (t:TypeId) (x y z:Operand):Option (Bool × Hp):=match P.underlying t,evE f x,evE f y,evE f z with
  | some (.map kt _),some (.map (some b)),some kv,some (.pointer (some ⟨γ,0,Option.none⟩))=>match clsP A b with
    | some (c0,A1)=>match P.underlying kt,A1.t.get b,A1.t.get γ with
      | some D,some (.mapP k τ el l Option.none),some (.cells cs el' false)=>bif keyD k D && (Nat.beq el' el && (Nat.beq cs.length (szU τ) && (!A1.pr.contains b && !A1.pr.contains γ))) then
        (match keyF k kv,fldF (Uni.sh τ) cs A1 with
        | some (c,q),some (y,A2,c2)=>some (c0 && (c && c2),{ A2 with t:=(A2.t.cut γ).set b (.mapP k τ el (mput l q (Uni.cl τ y)) Option.none) })
        | _,_=>Option.none) else Option.none
      | _,_,_=>Option.none
    | Option.none=>Option.none
  | _,_,_,_=>Option.none
theorem muP_ok {t:TypeId} {x y z:Operand} {c:Bool} {A':Hp} (e:muP P f A t x y z=some (c,A')) (hc:c=true):OpOk P f A ⟨d,.mapUpdate t x y z,ty,pos,af,gd⟩ undefA A':=fun σ g h hf hk=>by
  unfold muP at e
  split at e
  case h_2=>cases e
  rename_i kt _ b kv γ hu hx hy hz
  split at e
  case h_2=>cases e
  rename_i c0 A1 hcl
  split at e
  case h_2=>cases e
  rename_i D k τ el l cs el' hD hg hγ
  obtain ⟨h1,e⟩:=bif_o e
  split at e
  case h_2=>cases e
  rename_i c1 q y1 A2 c2 hq hfd
  simp only [Option.some.injEq,Prod.mk.injEq] at e
  obtain ⟨rfl,rfl⟩:=e
  simp only [Bool.and_eq_true,Bool.not_eq_true'] at h1 hc
  obtain ⟨hkd,hel,hcl2,hpb,hpγ⟩:=h1
  have hel:=Nat.eq_of_beq_eq_true hel
  subst hel
  have hcl2:=Nat.eq_of_beq_eq_true hcl2
  have E:=keyU hkd
  obtain ⟨⟨σ1,s1⟩,_⟩:=clsP_ok hcl hc.1 hk
  obtain ⟨u,h3,h4⟩:=hf.ev hx
  obtain ⟨p,hp,rfl⟩:=va_map h4
  obtain ⟨u',h5,h6⟩:=hf.ev hy
  have:=keyF_ok hq hc.2.1 h6
  subst this
  obtain ⟨u',h7,h8⟩:=hf.ev hz
  obtain ⟨pγ,hγp,rfl⟩:=va_ptr h8
  have hγp:=s1.le.pl _ _ hγp
  have hp:=s1.le.pl _ _ hp
  obtain ⟨pγ',hpγ',hnγ,us,zz,u1,u2,u3,u4,u5,u6⟩:=s1.hr.obj _ _ hγ
  rw [hγp] at hpγ'
  injection hpγ' with hpγ'
  subst hpγ'
  have hcn:=u5 rfl
  have htk:(us.drop pγ.o).take cs.length=us.drop pγ.o:=List.take_of_length_le (by rw [List.length_drop];omega)
  rw [htk] at u3
  obtain ⟨F,st,hd⟩:=fldF_ok u3 s1.hr hfd hc.2.2
  have hfo:=fldF_fo hfd
  have hg1:=hfo b _ hg rfl
  have hγ1:=hfo γ _ hγ rfl
  have hpr:A2.pr=A1.pr:=st.pr
  obtain ⟨p',hp',hn,es,v,hm,hw,hdp,hnd⟩:=st.hr.obj _ _ hg1
  have hp':σ1 b=some p':=hp'
  rw [hp] at hp'
  injection hp' with hp'
  subst hp'
  have hv:v=Option.none:=hw
  subst hv
  have hne:γ ≠ b:=fun e=>by rw [e,hg] at hγ;cases hγ
  have hown:pγ.b ∉ p.b :: σ1.ex p.b:=fun hm'=>by
    refine hne (st.hr.inj γ b _ _ _ _ hγ1 hg1 rfl rfl hγp hp hnγ hn pγ.b (.inl rfl) ?_)
    rcases List.mem_cons.1 hm' with e | e
    · exact .inl e.symm
    · exact .inr ⟨rfl,e⟩
  obtain ⟨bs',k1,k2,k3⟩:=DatP.put (q:=q) (y:=Uni.cl τ y1) (o:=pγ.o) u1 u6 (by rw [u2];omega) (by rw [Uni.op_cl];exact hd) hdp (by rw [← hdp.fst];exact mp_nodup hm)
  have hnd:(p.b :: σ1.ex p.b).Nodup:=hnd
  rw [List.nodup_cons] at hnd
  simp only [List.mem_cons,not_or] at hown
  refine (okU_mapUpdate (P:=P) (dd:=d) (ty:=ty) (pos:=pos) (af:=af) (g:=gd) E hu hD h3 h5 h7 (m:=p.b) (es:=es) hm).mono fun u h' ⟨hu',hm',hx'⟩=>?_
  subst hu'
  have hm':Mp .bool (encK k) h' p.b (aput es q (.pointer (some ⟨pγ.b,pγ.o,Option.none⟩))):=hm'
  have hno:p.b ∉ bs':=fun e=>(k3 _ e).elim (fun e=>hnd.1 e) fun e=>hown.1 e.symm
  have:=Stp.absorb (G:=some γ) (xs:=bs') st.hr hg1 rfl hp hn (by rw [hpr];exact hpb) (fun γ' e=>by
    injection e with e
    subst e
    exact ⟨hne,by rw [hpr];exact hpγ,_,_,hγ1,rfl,hγp,hnγ⟩) hx' (fun c hc=>by
    rcases k3 c hc with e | e
    · exact .inl ⟨rfl,e⟩
    · exact .inr ⟨γ,pγ,rfl,hγp,e.symm⟩) (o':=.mapP k τ el' (mput l q (Uni.cl τ y1)) Option.none) ⟨hn,_,Option.none,hm',rfl,by
      show DatP F h' k τ el' Option.none _ _ (exUp ⟨σ1.pl,F,σ1.ex⟩ p.b bs' p.b)
      rw [exUp_at]
      exact k1.keep fun c hc=>hx'.keep c (by
        rcases k3 c hc with e | e
        · exact (s1.hr.exl _ _ e).2
        · exact e▸lt_of_some u1) fun e=>hno (e▸hc),by
      show (p.b :: exUp ⟨σ1.pl,F,σ1.ex⟩ p.b bs' p.b).Nodup
      rw [exUp_at,List.nodup_cons]
      exact ⟨hno,k2 hown.2 hnd.2⟩⟩
  exact ⟨_,(s1.trans st).trans this,.tuple .nil⟩
noncomputable def deP (P:Program) (f:Tv) (A:Hp) (ts:Array TypeId) (x y:Operand):Option (Bool × Hp):=match ts with
  | ⟨[t,_]⟩=>match P.underlying t,evE f x,evE f y with
    | some (.map kt _),some (.map (some b)),some kv=>match clsP A b with
      | some (c0,A1)=>match P.underlying kt,A1.t.get b with
        | some D,some (.mapP k τ el l Option.none)=>bif keyD k D && !A1.pr.contains b then (match keyF k kv with
          | some (c,q)=>some (c0 && c,{ A1 with t:=A1.t.set b (.mapP k τ el (mdel l q) Option.none) })
          | Option.none=>Option.none) else Option.none
        | _,_=>Option.none
      | Option.none=>Option.none
    | _,_,_=>Option.none
  | _=>Option.none
theorem deP_ok {ts:Array TypeId} {x y:Operand} {c:Bool} {A':Hp} (e:deP P f A ts x y=some (c,A')) (hc:c=true):OpOk P f A ⟨d,.call { callee:=.builtin .delete,args:=⟨[x,y]⟩,argTypes:=ts },ty,pos,af,gd⟩ undefA A':=fun σ g h hf hk=>by
  unfold deP at e
  split at e
  case h_2=>cases e
  rename_i t s
  split at e
  case h_2=>cases e
  rename_i kt _ b kv hu hx hy
  split at e
  case h_2=>cases e
  rename_i c0 A1 hcl
  split at e
  case h_2=>cases e
  rename_i D k τ el l hD hg
  obtain ⟨h1,e⟩:=bif_o e
  split at e
  case h_2=>cases e
  rename_i c1 q hq
  simp only [Option.some.injEq,Prod.mk.injEq] at e
  obtain ⟨rfl,rfl⟩:=e
  simp only [Bool.and_eq_true,Bool.not_eq_true'] at h1 hc
  have E:=keyU h1.1
  obtain ⟨⟨σ1,s1⟩,_⟩:=clsP_ok hcl hc.1 hk
  obtain ⟨u,h3,h4⟩:=hf.ev hx
  obtain ⟨p,hp,rfl⟩:=va_map h4
  obtain ⟨u',h5,h6⟩:=hf.ev hy
  have:=keyF_ok hq hc.2 h6
  subst this
  have hp:=s1.le.pl _ _ hp
  obtain ⟨p',hp',hn,es,v,hm,hw,hdp,hnd⟩:=s1.hr.obj _ _ hg
  rw [hp] at hp'
  injection hp' with hp'
  subst hp'
  have hv:v=Option.none:=hw
  subst hv
  obtain ⟨bs',k1,k2⟩:=hdp.del (q:=q)
  refine (okU_delete (P:=P) (dd:=d) (ty:=ty) (pos:=pos) (af:=af) (g:=gd) rfl E hu hD h3 h5 (m:=p.b) (es:=es) hm).mono fun u h' ⟨hu',hm',hx'⟩=>?_
  subst hu'
  obtain ⟨σ2,s2⟩:=Stp.mapLess s1.hr hg hp hn h1.2 hnd k1 k2 hm' hx'
  exact ⟨σ2,s1.trans s2,.tuple .nil⟩
noncomputable def clU (P:Program) (f:Tv) (A:Hp) (ts:Array TypeId) (x:Operand):Option (Bool × Hp):=match ts with
  | ⟨[t]⟩=>match P.underlying t,evE f x with
    | some (.map _ _),some (.map (some b))=>match A.t.get b with
      | some (.mapT k τ ag _)=>match A.upd b (.mapT k τ ag []) with
        | some A2=>some (true,A2)
        | Option.none=>Option.none
      | _=>match clsP A b with
        | some (c0,A1)=>match A1.t.get b with
          | some (.mapP k τ el _ Option.none)=>bif A1.pr.contains b then Option.none else some (c0,{ A1 with t:=A1.t.set b (.mapP k τ el [] Option.none) })
          | _=>Option.none
        | Option.none=>Option.none
    | _,_=>Option.none
  | _=>Option.none
theorem clU_ok {ts:Array TypeId} {x:Operand} {c:Bool} {A':Hp} (e:clU P f A ts x=some (c,A')) (hc:c=true):OpOk P f A ⟨d,.call { callee:=.builtin .clear,args:=⟨[x]⟩,argTypes:=ts },ty,pos,af,gd⟩ undefA A':=fun σ g h hf hk=>by
  unfold clU at e
  split at e
  case h_2=>cases e
  rename_i t
  split at e
  case h_2=>cases e
  rename_i kt et b hu hx
  obtain ⟨u,h3,h4⟩:=hf.ev hx
  obtain ⟨p,hp,rfl⟩:=va_map h4
  split at e
  · rename_i k τ ag l hg
    split at e
    case h_2=>cases e
    rename_i A2 hup
    simp only [Option.some.injEq,Prod.mk.injEq] at e
    obtain ⟨_,rfl⟩:=e
    obtain ⟨p',hp',hn,es,hm,hd⟩:=hk.obj _ _ hg
    rw [hp] at hp'
    injection hp' with hp'
    subst hp'
    refine (okU_clear (P:=P) (dd:=d) (ty:=ty) (pos:=pos) (af:=af) (g:=gd) rfl hu h3 hm).mono fun u h' ⟨hu',hm',hx'⟩=>?_
    subst hu'
    exact ⟨σ,.upd hk hg rfl hp hup hx' (fun e=>by rw [hn] at e;cases e) ⟨hn,[],hm',.nil⟩,.tuple .nil⟩
  split at e
  case h_2=>cases e
  rename_i c0 A1 hcl
  split at e
  case h_2=>cases e
  rename_i k τ el l hg
  cases hpr:A1.pr.contains b with
  | true=>rw [hpr] at e;cases e
  | false =>
  rw [hpr] at e
  simp only [cond_false,Option.some.injEq,Prod.mk.injEq] at e
  obtain ⟨rfl,rfl⟩:=e
  obtain ⟨⟨σ1,s1⟩,_⟩:=clsP_ok hcl hc hk
  have hp:=s1.le.pl _ _ hp
  obtain ⟨p',hp',hn,es,v,hm,hw,hdp,hnd⟩:=s1.hr.obj _ _ hg
  rw [hp] at hp'
  injection hp' with hp'
  subst hp'
  refine (okU_clear (P:=P) (dd:=d) (ty:=ty) (pos:=pos) (af:=af) (g:=gd) rfl hu h3 hm).mono fun u h' ⟨hu',hm',hx'⟩=>?_
  subst hu'
  obtain ⟨σ2,s2⟩:=Stp.mapLess s1.hr hg hp hn hpr hnd (.nil:DatP σ1.fz h k τ el Option.none [] [] []) (List.nil_sublist _) hm' hx'
  exact ⟨σ2,s1.trans s2,.tuple .nil⟩
end
end Go.RK
namespace Go.RK
open Go
open Go.RK.Uni (Ty El)
open Go.RK.Byt (bT)
variable {H:Type} {enc:TypeId × Value→H}
def scopeP (Q:Post):Post
  | .goto _,_,_=>False
  | e,f,h=>Q e f h
section
variable {P:Program} {n:Env} {Q:Post} {f:Fr} {h:Heap}
end
theorem goesBy_none {P:Program} {c:OpenClaim} (hs:c.start=.entering) (h:(P.funcs.toList.all fun fn => !fn.goes)=true):false=c.goesBy P:=by
  have h1:∀ (g:Nat),(P.funcs[g]?).any Func.goes=false:=fun g=>by
    cases hg:P.funcs[g]? with
    | none=>rfl
    | some fn =>
      have:=List.all_eq_true.1 h fn (by
        obtain ⟨hlt,hv⟩:=Array.getElem?_eq_some_iff.1 hg
        exact hv▸(by simp))
      simpa using this
  have h2:P.funcs.any Func.goes=false:=by
    rw [Array.any_eq_false]
    intro i hi
    have:=h1 i
    rw [Array.getElem?_eq_getElem hi] at this
    simpa using this
  have h3:∀ f,P.goes f=false:=fun f=>by
    unfold Program.goes
    rw [h2,Bool.and_false,Bool.or_false]
    rw [List.any_eq_false]
    intro g _
    simpa using h1 g
  unfold OpenClaim.goesBy Program.goesAt Program.goesFrom
  rw [hs]
  cases P.funcNamed c.func with
  | none=>rfl
  | some f=>simp [h3 f]
end Go.RK
namespace Go.RK
open Go
open Go.RK.Uni (Ty El)
open Go.RK.Byt (bT)
noncomputable def reachB (ops:Array Oper):Nat→Nat→Nat→Bool
  | 0,j,i=>Region.waitsFor .any ops j i
  | n+1,j,i=>Region.waitsFor .any ops j i || (match ops[j]? with
    | some o=>o.after.toList.any fun e=>Region.binds .any e && reachB ops n e.on i
    | Option.none=>false)
inductive Reach (ops:Array Oper):Nat→Nat→Prop
  | one {j i:Nat} (h:Region.waitsFor .any ops j i=true):Reach ops j i
  | step {j k i:Nat} (h:Region.waitsFor .any ops j k=true) (t:Reach ops k i):Reach ops j i
theorem waits_iff {ops:Array Oper} {j i:Nat}:Region.waitsFor .any ops j i=true ↔ ∃ o,ops[j]?=some o∧∃ e∈o.after,Region.binds .any e=true∧e.on=i:=by
  constructor
  · exact fun h=>Region.waitsFor_spec h
  · rintro ⟨o,ho,e,he,hb,hi⟩
    unfold Region.waitsFor
    simp only [ho]
    first
    | exact Array.any_eq_true'.2 ⟨e,he,by simp [hb,hi]⟩
    | (simp only [Array.any_eq_true];exact ⟨e,he,by simp [hb,hi]⟩)
theorem reach_of {ops:Array Oper}:∀ {n j i:Nat},reachB ops n j i=true→Reach ops j i
  | 0,j,i,h=>.one h
  | n+1,j,i,h=>by
    unfold reachB at h
    rw [Bool.or_eq_true] at h
    rcases h with h | h
    · exact .one h
    · split at h
      · rename_i o ho
        obtain ⟨e,he,hb⟩:=List.any_eq_true.1 h
        rw [Bool.and_eq_true] at hb
        exact .step (waits_iff.2 ⟨o,ho,e,by simpa using he,hb.1,rfl⟩) (reach_of hb.2)
      · cases h
noncomputable def Closed (ops:Array Oper) (L:Array Bool):Prop:=∀ j i,L.getD j false=true→Region.waitsFor .any ops j i=true→L.getD i false=true
theorem Closed.reach {ops:Array Oper} {L:Array Bool} (h:Closed ops L) {j i:Nat} (r:Reach ops j i):L.getD j false=true→L.getD i false=true:=by
  induction r with
  | one hw=>exact fun hj=>h _ _ hj hw
  | step hw _ ih=>exact fun hj=>ih (h _ _ hj hw)
theorem listed_false {L:Array Bool} {i:Nat} (h:L.getD i true=false):L.getD i false=false:=by
  rcases Nat.lt_or_ge i L.size with h' | h'
  · simp [h'] at h ⊢;exact h
  · simp [Array.getElem?_eq_none h'] at h
theorem ready_waits {ops:Array Oper} {L:Array Bool} {j i:Nat} (hj:j∈Region.ready .any ops L) (hw:Region.waitsFor .any ops j i=true):L.getD i false=true:=by
  obtain ⟨_,o,ho,hall⟩:=mem_ready.1 hj
  obtain ⟨o',ho',e,he,hb,hi⟩:=waits_iff.1 hw
  rw [ho] at ho'
  injection ho' with ho'
  subst ho'
  exact hi▸hall e he hb
theorem ready_reach {ops:Array Oper} {L:Array Bool} (hc:Closed ops L) {j i:Nat} (hj:j∈Region.ready .any ops L) (hi:L.getD i true=false):¬ Reach ops j i:=fun r=>by
  have hi':=listed_false hi
  cases r with
  | one hw=>rw [ready_waits hj hw] at hi';cases hi'
  | step hw t=>rw [hc.reach t (ready_waits hj hw)] at hi';cases hi'
theorem Closed.set {ops:Array Oper} {L:Array Bool} (hc:Closed ops L) {j:Nat} (hj:j∈Region.ready .any ops L):Closed ops (L.setIfInBounds j true):=fun k i hk hw=>by
  by_cases e:j=k
  · subst e
    exact getD_set_true (ready_waits hj hw)
  · rw [getD_set_ne false e] at hk
    exact getD_set_true (hc k i hk hw)
section
variable {P:Program} {ops:Array Oper} {Q:Exit→Act→World→Prop}
noncomputable def wpG (P:Program) (ops:Array Oper) (Q:Exit→Act→World→Prop) (Z:Nat→Nat→Prop):Nat→Array Bool→Act→World→Prop
  | 0,L,a,w=>Region.ready .any ops L=[]∧Q .normal a w
  | n+1,L,a,w=>(Region.ready .any ops L=[]→Q .normal a w) ∧
    ∀ j∈Region.ready .any ops L,wpOp P ops Q j (fun a' w'=>(∀ i b,Z i b→¬ Reach ops j i→w'.heap[b]?=w.heap[b]?)∧wpG P ops Q Z n (L.setIfInBounds j true) a' w') a w
variable {Z Z':Nat→Nat→Prop}
theorem wpG.any:∀ {n:Nat} {L:Array Bool} {a:Act} {w:World},wpG P ops Q Z n L a w→wpAny P .any ops Q n L a w
  | 0,_,_,_,h=>h
  | _+1,_,_,_,h=>⟨h.1,fun j hj=>wpOp_mono (fun _ _ h'=>wpG.any h'.2) (h.2 j hj)⟩
theorem wpG.mono (hZ:∀ i b,Z i b→Z' i b):∀ {n:Nat} {L:Array Bool} {a:Act} {w:World},wpG P ops Q Z' n L a w→wpG P ops Q Z n L a w
  | 0,_,_,_,h=>h
  | _+1,_,_,_,h=>⟨h.1,fun j hj=>wpOp_mono (fun _ _ h'=>⟨fun i b hz hr=>h'.1 i b (hZ i b hz) hr,wpG.mono hZ h'.2⟩) (h.2 j hj)⟩
theorem wpG_first {i : Nat} {oi : Oper} {v : Value} (hi : ops[i]? = some oi) (hsel : ∀ (j : Nat) (o : Oper) cs b, ops[j]? = some o → o.op ≠ .select cs b)
    (hQ:∀ c a w,Q (.panic c) (a.put oi.dst v) w→Q (.panic c) a w) (R:Nat→Prop) (H:Nat→Option Obj) (hR:∀ b,R b→Z i b) :
    ∀ (n:Nat) (L:Array Bool) (a:Act) (w:World),Closed ops L →
      (∀ j oj,ops[j]?=some oj→j ≠ i→L.getD j true=false→(∀ e∈oj.after,Region.binds .any e=true→e.on ≠ i)→oi.apart ops oj=true) →
      i∈Region.ready .any ops L→YieldsIf P ops (fun w=>∀ b,R b→w.heap[b]?=H b) oi v a→(∀ b,R b→w.heap[b]?=H b) →
      wpG P ops Q Z n (L.setIfInBounds i true) (a.put oi.dst v) w→wpG P ops Q Z (n+1) L a w:=by
  intro n
  induction n with
  | zero =>
    intro L a w _ _ hr hy hS K
    refine ⟨fun h=>(by rw [h] at hr;cases hr),fun j hj=>?_⟩
    by_cases hji:j=i
    · subst hji;exact hy.wpOp hi hS ⟨fun _ _ _ _=>rfl,K⟩
    · have:=ready_mono hj hji
      rw [K.1] at this
      cases this
  | succ n ih =>
    intro L a w hcl hfree hr hy hS K
    refine ⟨fun h=>(by rw [h] at hr;cases hr),fun j hj=>?_⟩
    by_cases hji:j=i
    · subst hji;exact hy.wpOp hi hS ⟨fun _ _ _ _=>rfl,K⟩
    · have h1:=K.2 j (ready_mono hj hji)
      obtain ⟨hjun,oj,hoj,hall⟩:=mem_ready.1 hj
      have hiun:=(mem_ready.1 hr).1
      have hnot:∀ e∈oj.after,Region.binds .any e=true→e.on ≠ i:=fun e he hb heq=>by
        have h1:=hall e he hb
        rw [heq,listed_false hiun] at h1
        cases h1
      have h2:=wpOp_putIf hoj (hfree j oj hoj hji hjun hnot) (fun cs b=>hsel i oi cs b hi) (fun cs b=>hsel j oj cs b hoj) hQ hy h1
      have hfree' : ∀ k ok, ops[k]? = some ok → k ≠ i → (L.setIfInBounds j true).getD k true = false →
          (∀ e∈ok.after,Region.binds .any e=true→e.on ≠ i)→oi.apart ops ok=true:=fun k ok hk hki hun hno=>by
        refine hfree k ok hk hki ?_ hno
        by_cases hjk:j=k
        · subst hjk;exact hjun
        · rw [getD_set_ne true hjk] at hun;exact hun
      have hnr:=ready_reach hcl hj hiun
      refine wpOp_mono (fun a' w' h3=>?_) h2
      have hS':∀ b,R b→w'.heap[b]?=H b:=fun b hb=>(h3.2.1 i b (hR b hb) hnr).trans (hS b hb)
      refine ⟨h3.2.1,ih (L.setIfInBounds j true) a' w' (hcl.set hj) hfree' (ready_mono hr (Ne.symm hji)) h3.1 hS' ?_⟩
      rw [Array.setIfInBounds_comm _ _ hji]
      exact h3.2.2
end
noncomputable def cntU (n:Nat) (L:Array Bool):Nat:=(List.range n).countP fun k => !L.getD k true
theorem countP_set (p q:Nat→Bool) (i:Nat):∀ (l:List Nat),l.Nodup→i∈l→p i=true→q i=false→(∀ k,k ≠ i→q k=p k)→l.countP p=l.countP q+1
  | [],_,h,_,_,_=>by cases h
  | x :: l,hn,hm,hp,hq,he=>by
    obtain ⟨hx,hn'⟩:=List.nodup_cons.1 hn
    rw [List.countP_cons,List.countP_cons]
    rcases List.mem_cons.1 hm with rfl | hm
    · have:l.countP p=l.countP q:=List.countP_congr fun k hk=>by rw [he k (fun e=>hx (e▸hk))]
      rw [hp,hq,this]
      simp
    · have hxi:x ≠ i:=fun e=>hx (e▸hm)
      rw [countP_set p q i l hn' hm hp hq he,he x hxi]
      omega
theorem cntU_set {n i:Nat} {L:Array Bool} (hs:L.size=n) (hi:i < n) (hu:L.getD i true=false):cntU n L=cntU n (L.setIfInBounds i true)+1:=by
  refine countP_set _ _ i _ List.nodup_range (List.mem_range.2 hi) (by rw [hu];rfl) ?_ fun k hk=>?_
  · have:i < L.size:=by omega
    simp [this]
  · rw [getD_set_ne true (Ne.symm hk)]
structure Lis (n:Nat) (L Lc:Array Bool) (E:List Nat):Prop where
  sz:L.size=n
  szc:Lc.size=n
  at_:∀ k,Lc.getD k true=(L.getD k true || E.contains k)
  unl:∀ i,E.contains i=true→i < n∧L.getD i true=false
theorem Lis.le {n:Nat} {L Lc:Array Bool} {E:List Nat} (h:Lis n L Lc E) {k:Nat} (hk:L.getD k false=true):Lc.getD k false=true:=by
  have h1:=h.at_ k
  rcases Nat.lt_or_ge k n with h' | h'
  · have a:k < L.size:=by rw [h.sz];exact h'
    have b:k < Lc.size:=by rw [h.szc];exact h'
    simp [a] at hk
    simp [a,b,hk] at h1 ⊢
    exact h1
  · have a:L.size≤k:=by rw [h.sz];exact h'
    simp [Array.getElem?_eq_none a] at hk
theorem Lis.lt {n:Nat} {L Lc:Array Bool} {E:List Nat} (h:Lis n L Lc E) {k:Nat} (hk:L.getD k true=false):k < n:=by
  rcases Nat.lt_or_ge k n with h' | h'
  · exact h'
  · have a:L.size≤k:=by rw [h.sz];exact h'
    simp [Array.getElem?_eq_none a] at hk
theorem Lis.both {n:Nat} {L Lc:Array Bool} {E:List Nat} (h:Lis n L Lc E) {i:Nat} (hi:L.getD i true=false) (hE:E.contains i=false):Lis n (L.setIfInBounds i true) (Lc.setIfInBounds i true) E:=by
  have hlt:=h.lt hi
  refine ⟨by simp [h.sz],by simp [h.szc],fun k=>?_,fun j hj=>?_⟩
  · by_cases e:i=k
    · subst e
      have a:i < L.size:=by rw [h.sz];exact hlt
      have b:i < Lc.size:=by rw [h.szc];exact hlt
      simp [a,b]
    · rw [getD_set_ne true e,getD_set_ne true e];exact h.at_ k
  · obtain ⟨h1,h2⟩:=h.unl j hj
    have:i ≠ j:=fun e=>by subst e;rw [hE] at hj;cases hj
    exact ⟨h1,by rw [getD_set_ne true this];exact h2⟩
theorem Lis.early {n:Nat} {L Lc:Array Bool} {E:List Nat} (h:Lis n L Lc E) {i:Nat} (hi:L.getD i true=false):Lis n L (Lc.setIfInBounds i true) (i :: E):=by
  have hlt:=h.lt hi
  refine ⟨h.sz,by simp [h.szc],fun k=>?_,fun j hj=>?_⟩
  · by_cases e:i=k
    · subst e
      have b:i < Lc.size:=by rw [h.szc];exact hlt
      simp [b]
    · rw [getD_set_ne true e,h.at_ k]
      have:(i :: E).contains k=E.contains k:=by simp [Ne.symm e]
      rw [this]
  · rw [List.contains_cons,Bool.or_eq_true] at hj
    rcases hj with hj | hj
    · have:=eq_of_beq hj;subst this;exact ⟨hlt,hi⟩
    · exact h.unl j hj
theorem Lis.late {n:Nat} {L Lc:Array Bool} {E:List Nat} (h:Lis n L Lc E) {i:Nat} (hE:E.contains i=true):Lis n (L.setIfInBounds i true) Lc (E.filter fun k => !Nat.beq k i):=by
  obtain ⟨hlt,hi⟩:=h.unl i hE
  have key:∀ k,(E.filter fun k => !Nat.beq k i).contains k=(E.contains k && !Nat.beq k i):=fun k=>by
    rw [Bool.eq_iff_iff]
    simp [List.mem_filter]
  refine ⟨by simp [h.sz],h.szc,fun k=>?_,fun j hj=>?_⟩
  · rw [key]
    by_cases e:i=k
    · subst e
      have a:i < L.size:=by rw [h.sz];exact hlt
      rw [h.at_ i,hE]
      simp [a]
    · rw [getD_set_ne true e,h.at_ k,beq_ff (Ne.symm e)]
      simp
  · rw [key,Bool.and_eq_true] at hj
    obtain ⟨h1,h2⟩:=h.unl j hj.1
    have:i ≠ j:=fun e=>by subst e;simp at hj
    exact ⟨h1,by rw [getD_set_ne true this];exact h2⟩
theorem Lis.ready {ops:Array Oper} {n:Nat} {L Lc:Array Bool} {E:List Nat} (h:Lis n L Lc E) {i:Nat} (hi:i∈Region.ready .any ops L) (hE:E.contains i=false):i∈Region.ready .any ops Lc:=by
  obtain ⟨h1,o,ho,hall⟩:=mem_ready.1 hi
  exact mem_ready.2 ⟨by rw [h.at_ i,h1,hE];rfl,o,ho,fun e he hb=>h.le (hall e he hb)⟩
end Go.RK
namespace Go.RK
open Go
open Go.RK.Uni (Ty El)
open Go.RK.Byt (bT)
section
variable {P:Program} {f:Fr} {h:Heap} {d:Option Tmp} {ty:TypeId} {pos:String} {af:Array Edge} {g:Option (Nat × Bool)}
theorem ok_eqlIh {t t2 u:TypeId} {x y:Operand} {v:Value} (hu:P.underlying t=some (.interface (P.methodsAt t))) (hx:f.ev x=some (.iface u v)) (hy:f.ev y=some .nilIface):OkP P f ⟨d,.binOp .eql t x y t2,ty,pos,af,g⟩ h (.bool false):=fun ρ w ha _=>by
  simp [execOp,ha _ _ hx,ha _ _ hy,eqGuard_at_iface,run_eql_held_nil w t u v hu]
theorem ok_neqIh {t t2 u:TypeId} {x y:Operand} {v:Value} (hu:P.underlying t=some (.interface (P.methodsAt t))) (hx:f.ev x=some (.iface u v)) (hy:f.ev y=some .nilIface):OkP P f ⟨d,.binOp .neq t x y t2,ty,pos,af,g⟩ h (.bool true):=fun ρ w ha _=>by
  simp [execOp,ha _ _ hx,ha _ _ hy,eqGuard_at_iface,run_neq_held_nil w t u v hu]
theorem ok_eqlIn {t t2:TypeId} {x:Operand} {c:Value} (hu:P.underlying t=some (.interface (P.methodsAt t))) (hx:f.ev x=some .nilIface) (hy:f.ev (.const c)=some .nilIface):OkP P f ⟨d,.binOp .eql t x (.const c) t2,ty,pos,af,g⟩ h (.bool true):=fun ρ w ha _=>by
  have:=ha _ _ hy
  simp [execOp,ha _ _ hx,this,eqGuard_nil_constR,run_eql_nil_nil w t hu]
theorem ok_neqIn {t t2:TypeId} {x:Operand} {c:Value} (hu:P.underlying t=some (.interface (P.methodsAt t))) (hx:f.ev x=some .nilIface) (hy:f.ev (.const c)=some .nilIface):OkP P f ⟨d,.binOp .neq t x (.const c) t2,ty,pos,af,g⟩ h (.bool false):=fun ρ w ha _=>by
  have:=ha _ _ hy
  simp [execOp,ha _ _ hx,this,eqGuard_nil_constR,run_neq_nil_nil w t hu]
end
end Go.RK
namespace Go.RK
open Go
open Go.RK.Uni (Ty El)
open Go.RK.Byt (bT)
section
variable {P:Program}
theorem run_eqItems_str (w : World) (d : Nat) {e : TypeId} (he : P.underlying e = some .string) (hp : P.plainKey e = true) (xs ys : Array Value) : ∀ (us vs : List (List UInt8)) (o : Nat), vs.length = us.length →
    (∀ (j:Nat) (a:List UInt8),us[j]?=some a→xs[o+j]?=some (St a))→(∀ (j:Nat) (a:List UInt8),vs[j]?=some a→ys[o+j]?=some (St a)) →
    (Op.eqItems (d+1) e 1 xs ys (List.range' o us.length)).run P w=.ok (decide (us=vs)) w
  | [],vs,o,hl,_,_=>by
    obtain rfl:vs=[]:=List.eq_nil_of_length_eq_zero hl
    simp [Op.eqItems]
  | a :: us,[],o,hl,_,_=>by simp at hl
  | a :: us,b :: vs,o,hl,hx,hy=>by
    have p1:=hx 0 a rfl
    have p2:=hy 0 b rfl
    rw [Nat.add_zero] at p1 p2
    have r1:=run_part_plain (P:=P) (w:=w) hp p1
    have r2:=run_part_plain (P:=P) (w:=w) hp p2
    have r3:(Op.equalIn (d+1) e (St a) (St b)).run P w=.ok (decide (a=b)) w:=by
      show (Op.equalIn (d+1) e (.string _) (.string _)).run P w=_
      rw [run_equalIn_string w d e _ _ he]
      simp [beq_dec]
    have ih:=run_eqItems_str w d he hp xs ys us vs (o+1) (by simpa using hl) (fun j c hj=>by
      have:=hx (j+1) c (by simpa using hj)
      rwa [show o+(j+1)=o+1+j by omega] at this) (fun j c hj=>by
      have:=hy (j+1) c (by simpa using hj)
      rwa [show o+(j+1)=o+1+j by omega] at this)
    rw [List.length_cons,List.range'_succ]
    simp only [Op.eqItems,Nat.mul_one,Sem.run_bind,r1,r2,r3,Result.andThen_ok]
    by_cases h:a=b
    · simp [h,ih]
    · simp [h]
variable {f:Fr} {h:Heap} {d:Option Tmp} {ty:TypeId} {pos:String} {af:Array Edge} {g:Option (Nat × Bool)}
theorem ok_eqlA {t t2 e : TypeId} {x y : Operand} {n : Nat} {i : TypeInfo} {us vs : List (List UInt8)} (hu : P.underlying t = some (.array n e)) (hi : P.info? e = some i) (he : P.underlying e = some .string) (hp : P.plainKey e = true) (h1 : P.cellsOf e = 1) (hg : P.eqGuardType P.depth t = false)
    (hl:us.length=n) (hl2:vs.length=n) (hx:f.ev x=some (.agg ⟨us.map St⟩)) (hy:f.ev y=some (.agg ⟨vs.map St⟩)) :
    OkP P f ⟨d,.binOp .eql t x y t2,ty,pos,af,g⟩ h (.bool (decide (us=vs))):=fun ρ w hag _=>by
  have r1:=run_eqGuard_agg (P:=P) w .eql t x y ⟨us.map St⟩ ⟨vs.map St⟩ hg
  have r2:=run_eql_struct (P:=P) w t ⟨us.map St⟩ ⟨vs.map St⟩
  rw [show (10000:Nat)=9999+1 from rfl,run_equalIn_array w 9999 _ _ hu hi,h1,List.range_eq_range',← hl] at r2
  rw [run_eqItems_str w 9998 he hp _ _ us vs 0 (by omega) (fun j a hj=>by simp [hj]) (fun j a hj=>by simp [hj])] at r2
  simp only [execOp,hag _ _ hx,hag _ _ hy,Sem.run_bind,r1,r2,Result.andThen_ok,Sem.run_pure]
end
end Go.RK
namespace Go.RK
open Go
open Go.RK.Uni (Ty El)
open Go.RK.Byt (bT)
variable [Uni]
section
variable {P:Program} {f:Tv} {A:Hp} {d:Option Tmp} {ty:TypeId} {pos:String} {af:Array Edge} {gd:Option (Nat × Bool)}
noncomputable def scaA:AV→Option Sca
  | .bool b=>some (.b b)
  | .byte b=>some (.i .u8 (b.toNat:Int))
  | .int k n=>some (.i k n)
  | .string ⟨⟨s⟩⟩=>some (.s s)
  | _=>Option.none
noncomputable def scaL:List AV→Option (List Sca)
  | []=>some []
  | v :: vs=>match scaA v,scaL vs with
    | some s,some r=>some (s :: r)
    | _,_=>Option.none
theorem scaA_ok {σ:Sg} {v:AV} {u:Value} {s:Sca} (hv:Va σ v u) (e:scaA v=some s):u=s.val:=by
  cases hv <;> simp only [scaA,Option.some.injEq,reduceCtorEq] at e <;> (subst e;rfl)
theorem scaL_ok {σ:Sg}:∀ {vs:List AV} {us:List Value} {ss:List Sca},VaL σ vs us→scaL vs=some ss→us=ss.map Sca.val
  | _,_,_,.nil,e=>by simp only [scaL,Option.some.injEq] at e;subst e;rfl
  | _,_,_,.cons h t,e=>by
    unfold scaL at e
    split at e
    · rename_i s r h1 h2
      simp only [Option.some.injEq] at e
      subst e
      rw [scaA_ok h h1,scaL_ok t h2]
      rfl
    · cases e
noncomputable def scaQ:Sca→Sca→Bool
  | .i _ a,.i _ b=>decide (a=b)
  | .s a,.s b=>decide (a=b)
  | .b a,.b b=>decide (a=b)
  | _,_=>false
noncomputable def scaE:List Sca→List Sca→Bool
  | [],[]=>true
  | a :: l,b :: m=>bif scaQ a b then scaE l m else false
  | _,_=>false
noncomputable def kdQ:Kd→Kd→Bool
  | .i k,.i k'=>Nat.beq (ikN k) (ikN k')
  | .s,.s=>true
  | .b,.b=>true
  | _,_=>false
noncomputable def kdE:List Kd→List Kd→Bool
  | [],[]=>true
  | a :: l,c :: m=>kdQ a c && kdE l m
  | _,_=>false
omit [Uni] in
theorem kdQ_eq {a c:Kd} (h:kdQ a c=true):a=c:=by
  cases a <;> cases c <;> simp only [kdQ,Bool.false_eq_true] at h <;> first | rfl | skip
  rw [ikN_inj h]
omit [Uni] in
theorem kdE_eq:∀ {l m:List Kd},kdE l m=true→l=m
  | [],[],_=>rfl
  | _ :: _,_ :: _,h=>by
    simp only [kdE,Bool.and_eq_true] at h
    rw [kdQ_eq h.1,kdE_eq h.2]
  | [],_ :: _,h=>by cases h
  | _ :: _,[],h=>by cases h
omit [Uni] in
theorem scaQ_dec {a b:Sca} (h:a.kd=b.kd):scaQ a b=decide (a=b):=by
  cases a <;> cases b <;> simp only [Sca.kd,reduceCtorEq,Kd.i.injEq] at h <;> simp [scaQ,h]
omit [Uni] in
theorem scaE_dec:∀ {l m:List Sca},l.map Sca.kd=m.map Sca.kd→scaE l m=decide (l=m)
  | [],[],_=>rfl
  | a :: l,b :: m,h=>by
    simp only [List.map_cons,List.cons.injEq] at h
    unfold scaE
    rw [scaQ_dec h.1,scaE_dec h.2]
    by_cases e:a=b <;> by_cases e2:l=m <;> simp [e,e2]
  | [],_ :: _,h=>by cases h
  | _ :: _,[],h=>by cases h
noncomputable def strL:List AV→Option (List (List UInt8))
  | []=>some []
  | .string ⟨⟨s⟩⟩ :: vs=>match strL vs with
    | some r=>some (s :: r)
    | Option.none=>Option.none
  | _=>Option.none
theorem strL_ok {σ:Sg}:∀ {vs:List AV} {us:List Value} {ss:List (List UInt8)},VaL σ vs us→strL vs=some ss→us=ss.map St
  | _,_,_,.nil,e=>by simp only [strL,Option.some.injEq] at e;subst e;rfl
  | _,_,_,.cons (v:=v) h t,e=>by
    unfold strL at e
    split at e
    · rename_i h0;cases h0
    · rename_i s vs' h0
      simp only [List.cons.injEq] at h0
      obtain ⟨rfl,rfl⟩:=h0
      split at e
      · rename_i r hr
        simp only [Option.some.injEq] at e
        subst e
        cases h
        rw [strL_ok t hr]
        rfl
      · cases e
    · cases e
noncomputable def strQ:List (List UInt8)→List (List UInt8)→Bool
  | [],[]=>true
  | a :: l,b :: m=>bif decide (a=b) then strQ l m else false
  | _,_=>false
omit [Uni] in
theorem strQ_dec:∀ (l m:List (List UInt8)),strQ l m=decide (l=m)
  | [],[]=>rfl
  | a :: l,b :: m=>by
    unfold strQ
    rw [strQ_dec l m]
    by_cases e:a=b <;> by_cases e2:l=m <;> simp [e,e2]
  | [],_ :: _=>rfl
  | _ :: _,[]=>rfl
noncomputable def eqA (P:Program) (t:TypeId) (x y:AV):Option Bool:=match P.underlying t,x,y with
  | some (.struct _),.agg ⟨xs⟩,.agg ⟨ys⟩=>(match scaL xs,scaL ys with
    | some us,some vs=>bif kdE (us.map Sca.kd) (vs.map Sca.kd) && flatB P t (us.map Sca.kd) then some (scaE us vs) else Option.none
    | _,_=>Option.none)
  | some (.array n e),.agg ⟨xs⟩,.agg ⟨ys⟩=>(match strL xs,strL ys,P.info? e,P.underlying e with
    | some us,some vs,some _,some .string=>bif P.plainKey e && (Nat.beq (P.cellsOf e) 1 && (!P.eqGuardType P.depth t && (Nat.beq us.length n && Nat.beq vs.length n))) then some (strQ us vs) else Option.none
    | _,_,_,_=>Option.none)
  | _,_,_=>Option.none
theorem eqA_ok {t t2:TypeId} {x y:Operand} {v w:AV} {b:Bool} (hx:evE f x=some v) (hy:evE f y=some w) (e:eqA P t v w=some b):RdOk P f A ⟨d,.binOp .eql t x y t2,ty,pos,af,gd⟩ (.bool b) []:=.pure fun σ g hf=>by
  obtain ⟨u1,h1,h2⟩:=hf.ev hx
  obtain ⟨u2,h3,h4⟩:=hf.ev hy
  unfold eqA at e
  split at e
  case h_3=>cases e
  · rename_i fs xs ys hu
    split at e
    case h_2=>cases e
    rename_i us vs hus hvs
    cases h2 with
    | agg h2 =>
    cases h4 with
    | agg h4 =>
    have e1:=scaL_ok h2 hus
    have e2:=scaL_ok h4 hvs
    subst e1
    subst e2
    cases hk:(kdE (us.map Sca.kd) (vs.map Sca.kd) && flatB P t (us.map Sca.kd)) with
    | false=>rw [hk] at e;cases e
    | true =>
    rw [hk] at e
    simp only [cond_true,Option.some.injEq] at e
    subst e
    rw [Bool.and_eq_true] at hk
    have hkd:=kdE_eq hk.1
    exact ⟨_,.bool _,fun h'=>by rw [scaE_dec hkd];exact ok_eqlF (us.map Sca.kd) hk.2 rfl hkd.symm h1 h3⟩
  · rename_i n el xs ys hu
    split at e
    case h_2=>cases e
    rename_i us vs i hus hvs hi hel
    cases h2 with
    | agg h2 =>
    cases h4 with
    | agg h4 =>
    have e1:=strL_ok h2 hus
    have e2:=strL_ok h4 hvs
    subst e1
    subst e2
    cases hb:(P.plainKey el && (Nat.beq (P.cellsOf el) 1 && (!P.eqGuardType P.depth t && (Nat.beq us.length n && Nat.beq vs.length n)))) with
    | false=>rw [hb] at e;cases e
    | true =>
    rw [hb] at e
    simp only [cond_true,Option.some.injEq] at e
    subst e
    simp only [Bool.and_eq_true,Bool.not_eq_true'] at hb
    obtain ⟨b2,b3,b4,b5,b6⟩:=hb
    exact ⟨_,.bool _,fun h'=>by rw [strQ_dec];exact ok_eqlA hu hi hel b2 (Nat.eq_of_beq_eq_true b3) b4 (Nat.eq_of_beq_eq_true b5) (Nat.eq_of_beq_eq_true b6) h1 h3⟩
noncomputable def eqAN (P:Program) (t:TypeId) (x y:AV):Option Bool:=match P.underlying t,x,y with
  | some (.struct _),.agg ⟨xs⟩,.agg ⟨ys⟩=>(match scaL xs,scaL ys with
    | some us,some vs=>bif kdE (us.map Sca.kd) (vs.map Sca.kd) && flatB P t (us.map Sca.kd) then some (!(scaE us vs)) else Option.none
    | _,_=>Option.none)
  | some .bool,.bool a,.bool b=>some (!decide (a=b))
  | _,_,_=>Option.none
theorem eqAN_ok {t t2:TypeId} {x y:Operand} {v w:AV} {b:Bool} (hx:evE f x=some v) (hy:evE f y=some w) (e:eqAN P t v w=some b):RdOk P f A ⟨d,.binOp .neq t x y t2,ty,pos,af,gd⟩ (.bool b) []:=.pure fun σ g hf=>by
  obtain ⟨u1,h1,h2⟩:=hf.ev hx
  obtain ⟨u2,h3,h4⟩:=hf.ev hy
  unfold eqAN at e
  split at e
  case h_3=>cases e
  · rename_i fs xs ys hu
    split at e
    case h_2=>cases e
    rename_i us vs hus hvs
    cases h2 with
    | agg h2 =>
    cases h4 with
    | agg h4 =>
    have e1:=scaL_ok h2 hus
    have e2:=scaL_ok h4 hvs
    subst e1
    subst e2
    cases hk:(kdE (us.map Sca.kd) (vs.map Sca.kd) && flatB P t (us.map Sca.kd)) with
    | false=>rw [hk] at e;cases e
    | true =>
    rw [hk] at e
    simp only [cond_true,Option.some.injEq] at e
    subst e
    rw [Bool.and_eq_true] at hk
    have hkd:=kdE_eq hk.1
    exact ⟨_,.bool _,fun h'=>by rw [scaE_dec hkd];exact ok_neqF (us.map Sca.kd) hk.2 rfl hkd.symm h1 h3⟩
  · rename_i a b hu
    simp only [Option.some.injEq] at e
    subst e
    cases h2
    cases h4
    exact ⟨_,.bool _,fun h'=>ok_neqB hu h1 h3⟩
noncomputable def ifB (P:Program) (t:TypeId) (x:AV) (y:Operand):Option Bool:=match P.underlying t,y with
  | some (.interface _),.const .nilIface=>(match x with
    | .iface _ _=>some false
    | .nilIface=>some true
    | _=>Option.none)
  | _,_=>Option.none
theorem ifB_ok {t t2:TypeId} {x y:Operand} {v:AV} {b:Bool} (hx:evE f x=some v) (e:ifB P t v y=some b):RdOk P f A ⟨d,.binOp .eql t x y t2,ty,pos,af,gd⟩ (.bool b) []∧RdOk P f A ⟨d,.binOp .neq t x y t2,ty,pos,af,gd⟩ (.bool (!b)) []:=by
  unfold ifB at e
  split at e
  case h_2=>cases e
  rename_i ms hi
  have hu:P.underlying t=some (.interface (P.methodsAt t)):=by unfold Program.methodsAt;rw [hi]
  have hn:∀ g:Fr,g.ev (.const .nilIface)=some .nilIface:=fun g=>rfl
  split at e
  · simp only [Option.some.injEq] at e
    subst e
    exact ⟨.pure fun σ g hf=>by
      obtain ⟨u,h1,h2⟩:=hf.ev hx
      cases h2
      exact ⟨_,.bool _,fun h'=>ok_eqlIh hu h1 (hn g)⟩,.pure fun σ g hf=>by
      obtain ⟨u,h1,h2⟩:=hf.ev hx
      cases h2
      exact ⟨_,.bool _,fun h'=>ok_neqIh hu h1 (hn g)⟩⟩
  · simp only [Option.some.injEq] at e
    subst e
    exact ⟨.pure fun σ g hf=>by
      obtain ⟨u,h1,h2⟩:=hf.ev hx
      cases h2
      exact ⟨_,.bool _,fun h'=>ok_eqlIn hu h1 (hn g)⟩,.pure fun σ g hf=>by
      obtain ⟨u,h1,h2⟩:=hf.ev hx
      cases h2
      exact ⟨_,.bool _,fun h'=>ok_neqIn hu h1 (hn g)⟩⟩
  · cases e
end
end Go.RK
namespace Go.RK
open Go Go.MapKept Go.ChangeMaps
open Go.RK.Uni (Ty El)
open Go.RK.Byt (bT)
variable [Uni]
section
variable {P:Program} {f:Tv} {A:Hp} {d:Option Tmp} {ty:TypeId} {pos:String} {af:Array Edge} {gd:Option (Nat × Bool)}
noncomputable def shS (f:Tv) (l:Bool) (x y:Operand):Rx:=match evE f x,evE f y with
  | some (.int .i64 a),some w=>match intV w with
    | some (_,b)=>some (leI 0 b && (leI b 64 && (!l || inR (a * 2 ^ b.toNat))),.int .i64 (bif l then a * 2 ^ b.toNat else a / 2 ^ b.toNat),[])
    | Option.none=>Option.none
  | _,_=>Option.none
theorem shS_ok {l:Bool} {x y:Operand} {t t2:TypeId} {c:Bool} {v:AV} {bs:List Nat} (e:shS f l x y=some (c,v,bs)) (hc:c=true):RdOk P f A ⟨d,.binOp (bif l then .shl else .shr) t x y t2,ty,pos,af,gd⟩ v bs:=by
  unfold shS at e
  split at e
  case h_2=>cases e
  rename_i a w hx hy
  split at e
  case h_2=>cases e
  rename_i k b hb
  simp only [Option.some.injEq,Prod.mk.injEq] at e
  obtain ⟨rfl,rfl,rfl⟩:=e
  refine .pure fun σ g hf=>?_
  obtain ⟨u1,h1,h2⟩:=hf.ev hx
  obtain ⟨u2,h3,h4⟩:=hf.ev hy
  have:=va_int h2
  subst this
  rw [intV_ok hb h4] at h3
  simp only [Bool.and_eq_true,leI_eq,decide_eq_true_eq] at hc
  have q1:¬ b < 0:=by omega
  have q2:min b.toNat 64=b.toNat:=by omega
  have q3:(IntKind.i64).bits=64:=rfl
  refine ⟨_,.int _ _,fun h' ρ w ha _=>?_⟩
  cases l with
  | true =>
    have q5:=hc.2.2
    simp only [Bool.not_true,Bool.false_or] at q5
    have q6 : -9223372036854775808≤a * 2 ^ b.toNat∧a * 2 ^ b.toNat≤9223372036854775807:=by
      unfold inR at q5
      rw [leI_eq,leI_eq] at q5
      simpa using q5
    have q4:=wrap_i64 _ q6.1 q6.2
    simp [execOp,ha _ _ h1,ha _ _ h3,eqGuard_shl,binOp_shl,Op.shift,q1,q3,q2,q4]
  | false =>
    simp [execOp,ha _ _ h1,ha _ _ h3,eqGuard_shr,binOp_shr,Op.shift,q1,q3,q2]
end
end Go.RK
namespace Go.RK
open Go
open Go.RK.Uni (Ty El)
open Go.RK.Byt (bT)
variable [Uni]
section
variable {P:Program} {f:Tv} {A:Hp} {d:Option Tmp} {ty:TypeId} {pos:String} {af:Array Edge} {gd:Option (Nat × Bool)}
noncomputable def cvSU (P:Program) (f:Tv) (A:Hp) (s t:TypeId) (x:Operand):Option (AV × Hp):=bif Nat.beq s t then
  (match P.underlying s,evE f x with
  | some (.slice el),some (.own β)=>match P.underlying el,A.t.get β with
    | some (.int .u8),some (.row τ (y :: l) T)=>match A.upd β (.row τ (y :: l) T) with
      | some A'=>some (.own β,A')
      | Option.none=>Option.none
    | _,_=>Option.none
  | _,_=>Option.none) else Option.none
theorem cvSU_ok {s t:TypeId} {x:Operand} {v:AV} {A':Hp} (e:cvSU P f A s t x=some (v,A')):OpOk P f A ⟨d,.convert s t x,ty,pos,af,gd⟩ v A':=fun σ g h hf hk=>by
  unfold cvSU at e
  cases hst:Nat.beq s t with
  | false=>rw [hst] at e;cases e
  | true =>
  rw [hst] at e
  simp only [cond_true] at e
  have:=Nat.eq_of_beq_eq_true hst
  subst this
  split at e
  case h_2=>cases e
  rename_i el β hs hx
  split at e
  case h_2=>cases e
  rename_i τ y l T hel hg
  split at e
  case h_2=>cases e
  rename_i A2 hup
  simp only [Option.some.injEq,Prod.mk.injEq] at e
  obtain ⟨rfl,rfl⟩:=e
  obtain ⟨u,h1,h2⟩:=hf.ev hx
  cases h2 with
  | own hp hown =>
  rename_i p
  obtain ⟨p',hp',o1,o2,o3,o4⟩:=hk.obj _ _ hg
  rw [hp] at hp'
  injection hp' with hp'
  subst hp'
  rcases hown with ⟨hn,hl,_⟩ | ⟨hn,c,rfl,hc1,hc2,hc3⟩
  · rw [hl] at o1;cases o1
  obtain ⟨us,z,h3,h4,h5,h6,h8⟩:=o3 hn
  intro ρ w ha hw
  subst hw
  have hsh:w.shape? p.b=some (T,us.length):=by simp [World.shape?,h3]
  have hne:us.length ≠ us.length+1:=by omega
  refine ⟨_,w.freeze ⟨p.b,us.length,Option.none⟩ 1,?_,⟨σ,?_,.own hp (.inr ⟨hn,c,rfl,hc1,hc2,hc3⟩)⟩,.inl ?_⟩
  · unfold World.freeze
    split <;> exact ⟨rfl,rfl,rfl,trivial⟩
  · obtain ⟨lo,hi⟩:=z
    have hf1:(w.freeze ⟨p.b,us.length,Option.none⟩ 1).heap[p.b]?=some (.cells ⟨us⟩ T (if lo == hi then (us.length,us.length+1) else (min lo us.length,max hi (us.length+1)))):=by
      unfold World.freeze
      rw [if_neg (by omega)]
      simp only [Array.getElem?_modify,if_true,h3]
      rfl
    have hf2:Ext (fun k=>k=p.b) w.heap (w.freeze ⟨p.b,us.length,Option.none⟩ 1).heap:=by
      unfold World.freeze
      rw [if_neg (by omega)]
      refine ⟨by simp,fun k _ hk=>?_⟩
      simp only [Array.getElem?_modify]
      rw [if_neg (fun e=>hk e.symm)]
    refine .upd hk hg rfl hp hup hf2 (fun hh=>by rw [hn] at hh;cases hh) ⟨o1,o2,fun _=>⟨us,_,hf1,h4,h5,h6,.inr ?_⟩,o4⟩
    split
    · exact Nat.le_refl _
    · rename_i hlh
      rcases h8 with h8 | h8
      · cases h8;simp at hlh
      · show us.length≤min lo us.length
        have:us.length≤lo:=h8
        omega
  · simp [execOp,ha _ _ h1,convert,run_underlying hs,run_underlying hel,markStringish,hsh]
end
end Go.RK
namespace Go.RK
open Go
open Go.RK.Uni (Ty El)
open Go.RK.Byt (bT)
variable [Uni]
section
variable (P:Program)
noncomputable def rOk (x:Option AV):Rx:=match x with
  | some v=>some (true,v,[])
  | Option.none=>Option.none
noncomputable def rBs (x:Option (AV × List Nat)):Rx:=match x with
  | some (v,bs)=>some (true,v,bs)
  | Option.none=>Option.none
noncomputable def rC (x:Option (Bool × AV)):Rx:=match x with
  | some (c,v)=>some (c,v,[])
  | Option.none=>Option.none
noncomputable def orR (x y:Rx):Rx:=match x with
  | some r=>some r
  | Option.none=>y
noncomputable def idxS (f:Tv) (t:TypeId) (x y:Operand):Rx:=match P.underlying t,evE f x,intE f y with
  | some .string,some (.string ⟨⟨l⟩⟩),some (_,n)=>some (inB n l.length,.byte (l.getD n.toNat 0),[])
  | _,_,_=>Option.none
noncomputable def eqM (f:Tv) (t:TypeId) (x y:Operand):Option Bool:=match evE f x,evE f y with
  | some v,some w=>(match eqA P t v w with
    | some b=>some b
    | Option.none=>match v,w,P.underlying t with
      | .bool a,.bool b,some .bool=>some (decide (a=b))
      | _,_,_=>Option.none)
  | _,_=>Option.none
noncomputable def eqMN (f:Tv) (t:TypeId) (x y:Operand):Option Bool:=match evE f x,evE f y with
  | some v,some w=>eqAN P t v w
  | _,_=>Option.none
noncomputable def nlM (f:Tv) (t:TypeId) (x y:Operand):Option Bool:=match nilCmpE P f t x y with
  | some b=>some b
  | Option.none=>match evE f x with
    | some v=>ifB P t v y
    | Option.none=>Option.none
noncomputable def binM (f:Tv) (o:Oper) (op:BinOp) (t:TypeId) (x y:Operand):Rx:=match op with
  | .eql=>(match nlM P f t x y with
    | some b=>some (true,.bool b,[])
    | Option.none=>match eqM P f t x y with
      | some b=>some (true,.bool b,[])
      | Option.none=>orR (rC (binS f op x y)) (rOk (fbE P f o)))
  | .neq=>(match nlM P f t x y with
    | some b=>some (true,.bool (!b),[])
    | Option.none=>match eqMN P f t x y with
      | some b=>some (true,.bool b,[])
      | Option.none=>orR (rC (binS f op x y)) (rOk (fbE P f o)))
  | .shl=>orR (shS f true x y) (rOk (fbE P f o))
  | .shr=>orR (shS f false x y) (rOk (fbE P f o))
  | _=>orR (rC (binS f op x y)) (rOk (fbE P f o))
noncomputable def rdM [Byt] (f:Tv) (A:Hp) (o:Oper):Rx:=match o.op with
  | .move x=>rOk (evE f x)
  | .assign x=>rOk (evE f x)
  | .pick c a b=>rOk (pickE f c a b)
  | .build t ⟨ps⟩=>rOk (bldE P f t ps)
  | .nilCheck x=>rOk (nilE f x)
  | .binOp op t x y _=>binM P f o op t x y
  | .unOp op _ x=>orR (rOk (unS f op x)) (rOk (fbE P f o))
  | .convert s t x=>orR (rC (cvI P f s t x)) (orR (rBs (cvB P f A s t x)) (rOk (fbE P f o)))
  | .makeInterface t x=>rOk (mkIE P f t x)
  | .makeFunc fn ⟨xs⟩ ⟨ys⟩=>rOk (mkFE f fn xs ys)
  | .slice t x lo hi mx=>orR (rOk (sli0 P f t x lo hi mx)) (orR (sliR P f A t x lo hi mx) (rOk (fbE P f o)))
  | .fieldAddr s x i=>rOk (fldE P f s x i)
  | .field t x i=>orR (rOk (fdE P f t x i)) (rOk (fbE P f o))
  | .indexAddr t x i=>orR (idxR P f A t x i) (rOk (idxE P f t x i))
  | .index t x i=>orR (idxS P f t x i) (rOk (fbE P f o))
  | .lookup t x i ok=>luU P f A t x i ok
  | .extract x i=>rOk (extrE f x i)
  | .load t x=>ldR P f A t x
  | .call { callee:=.builtin .len,args:=⟨[x]⟩,argTypes }=>orR (rBs (lenR P f A argTypes x)) (rOk (fbE P f o))
  | .call { callee:=.builtin .min,args:=⟨[x,y]⟩,.. }=>rOk (mmS f false x y)
  | .call { callee:=.builtin .max,args:=⟨[x,y]⟩,.. }=>rOk (mmS f true x y)
  | _=>Option.none
abbrev Ex3:=Option (Bool × AV × Hp)
noncomputable def eU (x:Option (Bool × Hp)):Ex3:=match x with
  | some (c,A)=>some (c,undefA,A)
  | Option.none=>Option.none
noncomputable def eV (x:Option (AV × Hp)):Ex3:=match x with
  | some (v,A)=>some (true,v,A)
  | Option.none=>Option.none
noncomputable def e1 (x:Option Hp):Ex3:=match x with
  | some A=>some (true,undefA,A)
  | Option.none=>Option.none
noncomputable def orE (x y:Ex3):Ex3:=match x with
  | some r=>some r
  | Option.none=>y
noncomputable def efM [Byt] (f:Tv) (A:Hp) (o:Oper):Ex3:=match o.op with
  | .alloc t=>eV (allocE P A t)
  | .box t x=>eV (boxE f A t x)
  | .makeMap t r=>orE (eV (mkMapU P A t r)) (orE (eV (mkMapP P A t r)) (eV (mkMapE A r)))
  | .buildSlice t n ⟨ps⟩=>orE (bslU P f A t n ps) (eV (bslE P f A t n ps))
  | .store t x y=>orE (eU (stoU P f A t x y)) (e1 (stoE P f A t x y))
  | .call { callee:=.builtin .append,args:=⟨[x,y]⟩,argTypes }=>orE (appU P f A argTypes x y) (appC P f A argTypes x y)
  | .call { callee:=.builtin .delete,args:=⟨[x,y]⟩,argTypes }=>orE (eU (deU P f A argTypes x y)) (eU (deP P f A argTypes x y))
  | .call { callee:=.builtin .clear,args:=⟨[x]⟩,argTypes }=>eU (clU P f A argTypes x)
  | .mapUpdate t x y z=>orE (eU (muU P f A t x y z)) (eU (muP P f A t x y z))
  | .convert s t x=>orE (cvU P f A s t x) (eV (cvSU P f A s t x))
  | .makeSlice t x y=>orE (mkU P f A t x y) (eV (mkSE P f A t x y))
  | _=>Option.none
noncomputable def opM [Byt] (f:Tv) (A:Hp) (o:Oper):Ex3:=match rdM P f A o with
  | some (c,v,_)=>some (c,v,A)
  | Option.none=>efM P f A o
noncomputable def clM (f:Tv) (o:Oper):Option (Nat × List AV):=match o.op with
  | .call { callee:=.value x,args:=⟨xs⟩,.. }=>match evE f x with
    | some (.func (.func k) ⟨a⟩ ⟨b⟩)=>match evL f xs with
      | some vs=>some (k,a++(vs++b))
      | Option.none=>Option.none
    | _=>Option.none
  | _=>Option.none
noncomputable def gateM (l0:List Oper) (f:Tv) (o:Oper):Option Bool:=match o.guard with
  | Option.none=>some true
  | some (j,b)=>match l0[j]? with
    | some g=>match g.dst with
      | some t=>match f.get t with
        | some (.bool c)=>some (bif b then c else !c)
        | some (.tuple ⟨[]⟩)=>some false
        | _=>Option.none
      | Option.none=>Option.none
    | Option.none=>Option.none
noncomputable def gsK {R:Type} (l0:List Oper) (f:Tv) (o:Oper) (κ:Tv→Option R):Option R:=match o.guard with
  | Option.none=>κ f
  | some (j,_)=>match l0[j]? with
    | some g=>match g.dst with
      | some t=>match f.get t with
        | some (.bool c)=>bif c then κ (f.set t (.bool true)) else κ (f.set t (.bool false))
        | _=>κ f
      | Option.none=>κ f
    | Option.none=>κ f
noncomputable def dstM (m:Nat) (f:Tv) (d:Option Nat) (v:AV):Option Tv:=match d with
  | Option.none=>some f
  | some t=>bif Nat.blt t m then some (f.set t v) else Option.none
inductive Ou where
  | normal
  | ret
  | exit (id:Nat)
variable {R:Type}
abbrev CallK (R:Type) [Uni]:=Nat→List AV→Hp→(AV→Hp→Option R)→Option R
abbrev ExecK (R:Type) [Uni]:=Code→Tv→Hp→(Ou→Tv→Hp→Option R)→Option R
noncomputable def dstK (m:Nat) (f:Tv) (d:Option Nat) (v:AV) (κ:Tv→Option R):Option R:=match dstM m f d v with
  | some f'=>κ f'
  | Option.none=>Option.none
noncomputable def ixL (n:Int) (κ:Nat→Option R) (k:Nat):Nat→Option R:=Nat.rec (fun _=>Option.none) (fun _ ih i=>bif decide (n=Int.ofNat i) then κ i else ih (Nat.add i 1)) k
noncomputable def ixC (f:Tv) (t:TypeId) (x y:Operand) (κ:AV→Option R):Option (Option R):=match P.underlying t with
  | some (.slice el)=>match szE P el,intE f y,evE f x with
    | some z,some (_,n),some (.slice (some ⟨b,o,Option.none⟩) l _)=>some (ixL n (fun i=>κ (.pointer (some ⟨b,Nat.add o (Nat.mul i z),Option.none⟩))) l 0)
    | some _,some _,some (.slice Option.none _ _)=>some Option.none
    | _,_,_=>Option.none
  | _=>Option.none
noncomputable def lupO (f:Tv) (A:Hp) (o:Oper) (κ:AV→Hp→Option R):Option (Option R):=match o.op with
  | .lookup t x y ok=>lupK P f A t x y ok κ
  | .indexAddr t x y=>ixC P f t x y fun v=>κ v A
  | _=>Option.none
noncomputable def doK [Byt] (C:CallK R) (f:Tv) (A:Hp) (o:Oper) (κ:AV→Hp→Option R):Option R:=match clM f o with
  | some (k,vs)=>C k vs A κ
  | Option.none=>match lupO P f A o κ with
    | some r=>r
    | Option.none=>match opM P f A o with
      | some (c,v,A')=>bif c then κ v A' else Option.none
      | Option.none=>Option.none
noncomputable def oneK [Byt] (C:CallK R) (m:Nat) (l0:List Oper) (f:Tv) (A:Hp) (o:Oper) (κ:Tv→Hp→Option R):Option R:=match gateM l0 f o with
  | some g=>bif g then doK P C f A o (fun v A'=>dstK m f o.dst v fun f'=>κ f' A') else dstK m f o.dst undefA fun f'=>κ f' A
  | Option.none=>Option.none
noncomputable def regK [Byt] (C:CallK R) (m:Nat) (l0:List Oper):List Oper→Tv→Hp→(Tv→Hp→Option R)→Option R
  | [],f,A,κ=>κ f A
  | o :: l,f,A,κ=>gsK l0 f o fun f=>oneK P C m l0 f A o fun f' A'=>regK C m l0 l f' A' κ
noncomputable def strB (s t:TypeId):Bool:=match P.underlying s,P.underlying t with
  | some .string,some (.slice _)=>true
  | _,_=>false
noncomputable def ptrM (t:TypeId):Bool:=match P.underlying t with
  | some (.map _ et)=>(match P.underlying et with
    | some (.pointer _)=>true
    | _=>false)
  | _=>false
noncomputable def isRd (o:Oper):Bool:=match o.op with
  | .lookup t _ _ _ => !ptrM P t
  | .convert s t _ => !strB P s t
  | .alloc _ | .box _ _ | .makeMap _ _ | .buildSlice _ _ _ | .store _ _ _ | .mapUpdate _ _ _ _ | .insert _ _ _ _ | .makeSlice _ _ _ | .range _ _ | .next _ _ | .entry _=>false
  | .call { callee:=.builtin .append,.. } | .call { callee:=.builtin .clear,.. } | .call { callee:=.builtin .delete,.. } | .mapEntry _ _ _ | .entryStore _ _ _ _=>false
  | .call { callee:=.value _,.. }=>false
  | _=>true
noncomputable def pickR (l:List Oper):List Nat→Option Nat
  | []=>Option.none
  | i :: r=>match l[i]? with
    | some o=>bif isRd P o then some i else pickR l r
    | Option.none=>pickR l r
noncomputable def isAl (l:List Oper) (i:Nat):Bool:=match l[i]? with
  | some ⟨some _,.alloc _,_,_,_,Option.none⟩=>true
  | some ⟨some _,.makeSlice _ _ _,_,_,_,Option.none⟩=>true
  | some ⟨some _,.box _ _,_,_,_,Option.none⟩=>true
  | some ⟨some _,.buildSlice _ _ _,_,_,_,Option.none⟩=>true
  | _=>false
noncomputable def nwM (f:Tv) (o:Oper):Option (List AV × TypeId × Nat):=match o.op with
  | .alloc T=>match zeroE P T with
    | some z=>some ((ofV z).cells.toList,T,0)
    | Option.none=>Option.none
  | .box T x=>match evE f x with
    | some v=>some (v.cells.toList,T,0)
    | Option.none=>Option.none
  | .makeSlice t x y=>match P.underlying t with
    | some (.slice el)=>match szE P el,byE P el,zeroE P el,natS f x,natS f y with
      | some sz,some by_,some z,some n,some m=>bif flatL (ofV z).cells.toList && (Nat.beq n m && (Nat.beq z.cells.toList.length sz && (Nat.ble (Nat.mul by_ n) 281474976710656 && Nat.ble n 1000000))) then some (repE (ofV z).cells.toList n,el,n) else Option.none
      | _,_,_,_,_=>Option.none
    | _=>Option.none
  | .buildSlice t len ⟨ps⟩=>match P.underlying t with
    | some (.slice el)=>match szE P el,zeroE P el,opsL f ps with
      | some k,some z,some vs=>bif Nat.beq z.cells.toList.length k && (Nat.blt len BIG && Nat.ble (Nat.mul len k) 16777216) then
        (match fillE (fun i=>some (Nat.mul i k,k)) (repE (ofV z).cells.toList len) ((ps.map (·.1)).zip vs) with
        | some cs=>some (cs,el,len)
        | Option.none=>Option.none) else Option.none
      | _,_,_=>Option.none
    | _=>Option.none
  | _=>Option.none
noncomputable def nwV (o:Oper) (n b:Nat):Value:=match o.op with
  | .makeSlice _ _ _=>.slice (some ⟨b,0,Option.none⟩) n n
  | .buildSlice _ _ _=>.slice (some ⟨b,0,Option.none⟩) n n
  | _=>.pointer (some ⟨b,0,Option.none⟩)
noncomputable def alOk (m:Nat) (l:List Oper) (f:Tv) (i:Nat):Bool:=match l[i]? with
  | some ⟨some t,op,ty,pos,af,Option.none⟩=>Nat.blt t m && (match nwM P f ⟨some t,op,ty,pos,af,Option.none⟩ with
    | some _=>true
    | Option.none=>false)
  | _=>false
noncomputable def dstOf (l:List Oper) (i:Nat):Option Nat:=match l[i]? with
  | some o=>o.dst
  | Option.none=>Option.none
noncomputable def dstNe (l:List Oper) (i j:Nat):Bool:=match dstOf l i,dstOf l j with
  | some a,some b => !Nat.beq a b
  | _,_=>true
noncomputable def cutF (l:List Oper) (c:Nat):List Nat→Tv→Tv
  | [],f=>f
  | i :: r,f=>cutF l c r (bif Nat.beq i c then f else match dstOf l i with
    | some t=>f.cut t
    | Option.none=>f)
noncomputable def lookNe (l:List Oper) (i j:Nat):Bool:=match l[i]?,dstOf l j with
  | some o,some d => !(Oper.looksAt l.toArray o).contains d
  | _,_=>true
noncomputable def apartE (m:Nat) (l:List Oper) (f:Tv) (c:Nat) (rs:List Nat):Bool:=(rs.all fun i=>rs.all fun j=>lookNe l i j) && rs.all fun i=>Nat.beq i c ||
  (alOk P m l f i && ((rs.all fun j=>Nat.beq i j || dstNe l i j) && (List.range l.length).all fun j => !Region.waitsFor .any l.toArray j i || reachB l.toArray 4 j c))
noncomputable def apartW (l:List Oper) (c:Nat) (rs:List Nat):Bool:=rs.all fun i=>Nat.beq i c || (List.range l.length).all fun j => !Region.waitsFor .any l.toArray j i || reachB l.toArray 4 j c
noncomputable def pickA (l:List Oper) (rs:List Nat):Option Nat:=match rs.find? (fun i => !isAl l i) with
  | some c=>some c
  | Option.none=>rs.find? (fun c=>apartW l c rs)
noncomputable def liveB (A:Hp) (β:Nat):Bool:=match A.t.get β with
  | some _=>true
  | Option.none=>false
noncomputable def rdK [Byt] (f : Tv) (A : Hp) (o : Oper) (κ : AV → List Nat → Option R) : Option R := match (match o.op with
    | .indexAddr t x y=>ixC P f t x y fun v=>κ v []
    | _=>Option.none) with
  | some r=>r
  | Option.none=>match rdM P f A o with
    | some (c,v,bs)=>bif c then κ v bs else Option.none
    | Option.none=>Option.none
noncomputable def drawK [Byt] (C:CallK R) (m:Nat) (l:List Oper):Nat→Array Bool→List (Nat × Nat)→Tv→Hp→(Tv→Hp→Option R)→Option R
  | 0,_,_,_,_,_=>Option.none
  | n+1,L,Z,f,A,κ=>match Region.ready .any l.toArray L with
    | []=>κ f A
    | rs=>match pickR P l rs with
      | some i=>match l[i]? with
        | some o=>gsK l f o fun f=>match gateM l f o with
          | some g=>bif Region.free .any l.toArray L i then
            (bif g then rdK P f A o fun v bs=>dstK m f o.dst v fun f'=>drawK C m l n (L.setIfInBounds i true) (bs.map (fun b=>(i,b))++Z) f' A κ
            else dstK m f o.dst undefA fun f'=>drawK C m l n (L.setIfInBounds i true) Z f' A κ) else Option.none
          | Option.none=>Option.none
        | Option.none=>Option.none
      | Option.none=>match pickA l rs with
        | some c=>match l[c]? with
          | some o=>gsK l f o fun f =>
            let zs:=(Z.filter fun z => !reachB l.toArray 4 c z.1).map (·.2)
            bif rs.contains c && (apartE P m l f c rs && zs.all (liveB A)) then
              oneK P C m l (cutF l c rs f) { A with pr:=zs++A.pr } o fun f' A'=>drawK C m l n (L.setIfInBounds c true) Z f' { A' with pr:=A.pr } κ
            else Option.none
          | Option.none=>Option.none
        | Option.none=>Option.none
abbrev BlkK (R:Type) [Uni]:=Nat→Option (Tv→Hp→(Ou→Tv→Hp→Option R)→Option R)
noncomputable def cdS (f:Tv) (x:Operand) (b:Bool):Tv:=match x with
  | .tmp t=>f.set t (.bool b)
  | _=>f
theorem cdS_get {f:Tv} {x:Operand} {b:Bool} (e:evE f x=some (.bool b)) (s:Nat):(cdS f x b).get s=f.get s:=by
  unfold cdS
  split
  · rename_i t
    rw [Tv.get_set]
    split
    · rename_i h;subst h;exact e.symm
    · rfl
  · rfl
noncomputable def stepK [Byt] (C:CallK R) (B:BlkK R) (m:Nat) (ih:ExecK R):ExecK R:=fun c f A κ=>match c with
  | .skip=>κ .normal f A
  | .label _=>κ .normal f A
  | .ret=>κ .ret f A
  | .exit i=>κ (.exit i) f A
  | .region _ ⟨l⟩ false=>regK P C m l l f A fun f' A'=>κ .normal f' A'
  | .region _ ⟨l⟩ true=>bif l.all fun o=>notSel o.op then drawK P C m l (Nat.succ l.length) (Array.replicate l.length false) [] f A (fun f' A'=>κ .normal f' A') else Option.none
  | .seq a b=>ih a f A fun o f' A'=>match o with
    | .normal=>ih b f' A' κ
    | o=>κ o f' A'
  | .cond x a b=>match evE f x with
    | some (.bool c)=>bif c then ih a (cdS f x true) A κ else ih b (cdS f x false) A κ
    | _=>Option.none
  | .block id b=>match B id with
    | some F=>F f A κ
    | Option.none=>ih b f A fun o f' A'=>match o with
      | .exit i=>κ (bif Nat.beq i id then .normal else .exit i) f' A'
      | o=>κ o f' A'
  | .loop b=>ih b f A fun o f' A'=>match o with
    | .normal=>ih (.loop b) f' A' κ
    | o=>κ o f' A'
  | .scope b=>ih b f A κ
  | _=>Option.none
noncomputable def argsM:List AV→Nat→Tv→Tv
  | [],_,f=>f
  | v :: vs,i,f=>argsM vs (Nat.succ i) (f.set i v)
noncomputable def resM (f:Tv) (A:Hp):List ResultVar→Option (List AV)
  | []=>some []
  | .tmp t :: r=>match f.get t with
    | some v=>match resM f A r with
      | some vs=>some (v :: vs)
      | Option.none=>Option.none
    | Option.none=>Option.none
  | .cell t T :: r=>match ldE P f A T (.tmp t) with
    | some (v,_)=>match resM f A r with
      | some vs=>some (v :: vs)
      | Option.none=>Option.none
    | Option.none=>Option.none
noncomputable def tupA:List AV→AV
  | [v]=>v
  | vs=>.tuple ⟨vs⟩
abbrev NatK (R:Type) [Uni]:=Nat→List AV→Hp→Option ((AV→Hp→Option R)→Option R)
noncomputable def resK (f:Tv) (A:Hp) (rs:List ResultVar) (κ:AV→Hp→Option R):Option R:=match resM P f A rs with
  | some us=>κ (tupA us) A
  | Option.none=>Option.none
noncomputable def bodyK [Byt] (ex:Nat→ExecK R):CallK R:=fun k vs A κ=>match P.funcs[k]? with
  | some fn=>match fn.body with
    | some c=>bif Nat.ble vs.length fn.ntmps then ex fn.ntmps c (argsM vs 0 .leaf) A (fun o f A'=>match o with
      | .normal=>resK P f A' fn.results.toList κ
      | .ret=>resK P f A' fn.results.toList κ
      | .exit _=>Option.none) else Option.none
    | Option.none=>Option.none
  | Option.none=>Option.none
noncomputable def callK [Byt] (N:NatK R) (ex:Nat→ExecK R):CallK R:=fun k vs A κ=>match N k vs A with
  | some F=>F κ
  | Option.none=>bodyK P ex k vs A κ
noncomputable def execK [Byt] (N:NatK R):Nat→Nat→ExecK R
  | 0,_=>fun _ _ _ _=>Option.none
  | n+1,m=>stepK P (callK P N (execK N n)) (fun _=>Option.none) m (execK N n m)
noncomputable def execB [Byt] (N:NatK R) (B:BlkK R):Nat→Nat→ExecK R
  | 0,_=>fun _ _ _ _=>Option.none
  | n+1,m=>stepK P (callK P N (execK P N n)) B m (execB N B n m)
noncomputable def runB [Byt] (N:NatK R) (B:BlkK R) (n:Nat):CallK R:=bodyK P (execB P N B n)
end
end Go.RK
namespace Go.RK
open Go
open Go.RK.Uni (Ty El)
open Go.RK.Byt (bT)
variable [Uni] [Byt]
section
variable {P:Program} {f:Tv} {A:Hp}
omit [Byt] in
theorem rOk_some {x:Option AV} {c:Bool} {v:AV} {bs:List Nat} (e:rOk x=some (c,v,bs)):x=some v∧bs=[]:=by
  unfold rOk at e
  split at e
  · simp only [Option.some.injEq,Prod.mk.injEq] at e
    obtain ⟨_,rfl,rfl⟩:=e
    exact ⟨rfl,rfl⟩
  · cases e
omit [Byt] in
theorem rBs_some {x:Option (AV × List Nat)} {c:Bool} {v:AV} {bs:List Nat} (e:rBs x=some (c,v,bs)):x=some (v,bs):=by
  unfold rBs at e
  split at e
  · simp only [Option.some.injEq,Prod.mk.injEq] at e
    obtain ⟨_,rfl,rfl⟩:=e
    rfl
  · cases e
omit [Byt] in
theorem rC_some {x:Option (Bool × AV)} {c:Bool} {v:AV} {bs:List Nat} (e:rC x=some (c,v,bs)):x=some (c,v)∧bs=[]:=by
  unfold rC at e
  split at e
  · simp only [Option.some.injEq,Prod.mk.injEq] at e
    obtain ⟨rfl,rfl,rfl⟩:=e
    exact ⟨rfl,rfl⟩
  · cases e
omit [Byt] in
theorem orR_some {x y:Rx} {r:Bool × AV × List Nat} (e:orR x y=some r):x=some r∨y=some r:=by
  unfold orR at e
  split at e
  · exact .inl e
  · exact .inr e
omit [Byt] in
theorem eV_some {x:Option (AV × Hp)} {c:Bool} {v:AV} {A':Hp} (e:eV x=some (c,v,A')):x=some (v,A'):=by
  unfold eV at e
  split at e
  · simp only [Option.some.injEq,Prod.mk.injEq] at e
    obtain ⟨_,rfl,rfl⟩:=e
    rfl
  · cases e
omit [Byt] in
theorem eU_some {x:Option (Bool × Hp)} {c:Bool} {v:AV} {A':Hp} (e:eU x=some (c,v,A')):x=some (c,A')∧v=undefA:=by
  unfold eU at e
  split at e
  · simp only [Option.some.injEq,Prod.mk.injEq] at e
    obtain ⟨rfl,rfl,rfl⟩:=e
    exact ⟨rfl,rfl⟩
  · cases e
omit [Byt] in
theorem e1_some {x:Option Hp} {c:Bool} {v:AV} {A':Hp} (e:e1 x=some (c,v,A')):x=some A'∧v=undefA:=by
  unfold e1 at e
  split at e
  · simp only [Option.some.injEq,Prod.mk.injEq] at e
    obtain ⟨_,rfl,rfl⟩:=e
    exact ⟨rfl,rfl⟩
  · cases e
omit [Byt] in
theorem orE_some {x y:Ex3} {r:Bool × AV × Hp} (e:orE x y=some r):x=some r∨y=some r:=by
  unfold orE at e
  split at e
  · exact .inl e
  · exact .inr e
omit [Byt] in
theorem idxS_ok {t:TypeId} {x y:Operand} {c:Bool} {v:AV} {bs:List Nat} {d:Option Tmp} {ty:TypeId} {pos:String} {af:Array Edge} {gd:Option (Nat × Bool)} (e:idxS P f t x y=some (c,v,bs)) (hc:c=true):RdOk P f A ⟨d,.index t x y,ty,pos,af,gd⟩ v bs:=fun σ g h hf hk=>by
  unfold idxS at e
  split at e
  case h_2=>cases e
  rename_i l k n hu hx hy
  simp only [Option.some.injEq,Prod.mk.injEq] at e
  obtain ⟨rfl,rfl,rfl⟩:=e
  obtain ⟨i,rfl,hi⟩:=inB_lt hc
  obtain ⟨u,h1,h2⟩:=hf.ev hx
  cases h2
  exact ⟨_,.byte _,fun h' _ _=>ok_idxS hu h1 (int_ok hf hy) (by omega) (by simp [hi])⟩
omit [Byt] in
theorem binM_ok {o:Oper} {op:BinOp} {t t2:TypeId} {x y:Operand} {c:Bool} {v:AV} {bs:List Nat} (ho:o.op=.binOp op t x y t2) (e:binM P f o op t x y=some (c,v,bs)) (hc:c=true):RdOk P f A o v bs:=by
  obtain ⟨d,op',ty,pos,af,gd⟩:=o
  simp only at ho
  subst ho
  have rest:∀ {op:BinOp},orR (rC (binS f op x y)) (rOk (fbE P f ⟨d,.binOp op t x y t2,ty,pos,af,gd⟩))=some (c,v,bs)→RdOk P f A ⟨d,.binOp op t x y t2,ty,pos,af,gd⟩ v bs:=fun e=>by
    rcases orR_some e with e | e
    · obtain ⟨h,rfl⟩:=rC_some e
      exact binS_ok h hc
    · obtain ⟨h,rfl⟩:=rOk_some e
      exact fb_ok h
  have nl:∀ {b:Bool},nlM P f t x y=some b→RdOk P f A ⟨d,.binOp .eql t x y t2,ty,pos,af,gd⟩ (.bool b) []∧RdOk P f A ⟨d,.binOp .neq t x y t2,ty,pos,af,gd⟩ (.bool (!b)) []:=fun {b} e=>by
    unfold nlM at e
    split at e
    · rename_i b' hb
      simp only [Option.some.injEq] at e
      subst e
      exact eqN_ok hb
    · split at e
      · rename_i w hw
        exact ifB_ok hw e
      · cases e
  unfold binM at e
  split at e
  · split at e
    · rename_i b hb
      simp only [Option.some.injEq,Prod.mk.injEq] at e
      obtain ⟨_,rfl,rfl⟩:=e
      exact (nl hb).1
    · split at e
      · rename_i b hb
        simp only [Option.some.injEq,Prod.mk.injEq] at e
        obtain ⟨_,rfl,rfl⟩:=e
        unfold eqM at hb
        split at hb
        case h_2=>cases hb
        rename_i v1 v2 hx hy
        split at hb
        · rename_i b' hb'
          simp only [Option.some.injEq] at hb
          subst hb
          exact eqA_ok hx hy hb'
        · split at hb
          · rename_i a b' hu _
            simp only [Option.some.injEq] at hb
            subst hb
            refine .pure fun σ g hf=>?_
            obtain ⟨u1,h1,h2⟩:=hf.ev hx
            obtain ⟨u2,h3,h4⟩:=hf.ev hy
            rw [va_bool h2] at h1
            rw [va_bool h4] at h3
            exact ⟨_,.bool _,fun h'=>ok_eqlB hu h1 h3⟩
          · cases hb
      · exact rest e
  · split at e
    · rename_i b hb
      simp only [Option.some.injEq,Prod.mk.injEq] at e
      obtain ⟨_,rfl,rfl⟩:=e
      exact (nl hb).2
    · split at e
      · rename_i b hb
        simp only [Option.some.injEq,Prod.mk.injEq] at e
        obtain ⟨_,rfl,rfl⟩:=e
        unfold eqMN at hb
        split at hb
        case h_2=>cases hb
        rename_i v1 v2 hx hy
        exact eqAN_ok hx hy hb
      · exact rest e
  · rcases orR_some e with e | e
    · exact shS_ok (l:=true) e hc
    · obtain ⟨h,rfl⟩:=rOk_some e
      exact fb_ok h
  · rcases orR_some e with e | e
    · exact shS_ok (l:=false) e hc
    · obtain ⟨h,rfl⟩:=rOk_some e
      exact fb_ok h
  · exact rest e
theorem rdM_ok {o:Oper} {c:Bool} {v:AV} {bs:List Nat} (e:rdM P f A o=some (c,v,bs)) (hc:c=true):RdOk P f A o v bs:=by
  obtain ⟨d,op,ty,pos,af,gd⟩:=o
  unfold rdM at e
  split at e <;> (rename_i hop;try simp only at hop) <;> (try subst hop)
  case h_1=>obtain ⟨h,rfl⟩:=rOk_some e;exact move_ok h
  case h_2=>obtain ⟨h,rfl⟩:=rOk_some e;exact assign_ok h
  case h_3=>obtain ⟨h,rfl⟩:=rOk_some e;exact pick_ok h
  case h_4=>obtain ⟨h,rfl⟩:=rOk_some e;exact bld_ok h
  case h_5=>obtain ⟨h,rfl⟩:=rOk_some e;exact nil_ok h
  case h_6=>exact binM_ok rfl e hc
  case h_7 =>
    rcases orR_some e with e | e
    · obtain ⟨h,rfl⟩:=rOk_some e;exact unS_ok h
    · obtain ⟨h,rfl⟩:=rOk_some e;exact fb_ok h
  case h_8 =>
    rcases orR_some e with e | e
    · obtain ⟨h,rfl⟩:=rC_some e;exact cvI_ok h hc
    · rcases orR_some e with e | e
      · exact cvB_ok (rBs_some e)
      · obtain ⟨h,rfl⟩:=rOk_some e;exact fb_ok h
  case h_9=>obtain ⟨h,rfl⟩:=rOk_some e;exact mkI_ok h
  case h_10=>obtain ⟨h,rfl⟩:=rOk_some e;exact mkF_ok h
  case h_11 =>
    rcases orR_some e with e | e
    · obtain ⟨h,rfl⟩:=rOk_some e;exact sli0_ok h
    · rcases orR_some e with e | e
      · exact sliR_ok e hc
      · obtain ⟨h,rfl⟩:=rOk_some e;exact fb_ok h
  case h_12=>obtain ⟨h,rfl⟩:=rOk_some e;exact fld_ok h
  case h_13 =>
    rcases orR_some e with e | e
    · obtain ⟨h,rfl⟩:=rOk_some e;exact fd_ok h
    · obtain ⟨h,rfl⟩:=rOk_some e;exact fb_ok h
  case h_14 =>
    rcases orR_some e with e | e
    · exact idxR_ok e hc
    · obtain ⟨h,rfl⟩:=rOk_some e;exact idx_ok h
  case h_15 =>
    rcases orR_some e with e | e
    · exact idxS_ok e hc
    · obtain ⟨h,rfl⟩:=rOk_some e;exact fb_ok h
  case h_16=>exact luU_ok e hc
  case h_17=>obtain ⟨h,rfl⟩:=rOk_some e;exact extr_ok h
  case h_18=>exact ldR_ok e hc
  case h_19 =>
    rcases orR_some e with e | e
    · exact lenR_ok (rBs_some e)
    · obtain ⟨h,rfl⟩:=rOk_some e;exact fb_ok h
  case h_20=>obtain ⟨h,rfl⟩:=rOk_some e;exact mmS_ok (mx:=false) h
  case h_21=>obtain ⟨h,rfl⟩:=rOk_some e;exact mmS_ok (mx:=true) h
  case h_22=>cases e
theorem efM_ok {o:Oper} {c:Bool} {v:AV} {A':Hp} (e:efM P f A o=some (c,v,A')) (hc:c=true):OpOk P f A o v A':=by
  obtain ⟨d,op,ty,pos,af,gd⟩:=o
  unfold efM at e
  split at e <;> (rename_i hop;try simp only at hop) <;> (try subst hop)
  case h_1=>exact alloc_ok (eV_some e)
  case h_2=>exact box_ok (eV_some e)
  case h_3 =>
    rcases orE_some e with e | e
    · exact mkMapU_ok (eV_some e)
    rcases orE_some e with e | e
    · exact mkMapP_ok (eV_some e)
    · exact mkMap_ok (eV_some e)
  case h_4 =>
    rcases orE_some e with e | e
    · exact bslU_ok e hc
    · exact bsl_ok (eV_some e)
  case h_5 =>
    rcases orE_some e with e | e
    · obtain ⟨h,rfl⟩:=eU_some e;exact stoU_ok h hc
    · obtain ⟨h,rfl⟩:=e1_some e;exact sto_ok h
  case h_6 =>
    rcases orE_some e with e | e
    · exact appU_ok e hc
    · exact appC_ok e
  case h_7 =>
    rcases orE_some e with e | e
    · obtain ⟨h,rfl⟩:=eU_some e;exact deU_ok h hc
    · obtain ⟨h,rfl⟩:=eU_some e;exact deP_ok h hc
  case h_8=>obtain ⟨h,rfl⟩:=eU_some e;exact clU_ok h hc
  case h_9 =>
    rcases orE_some e with e | e
    · obtain ⟨h,rfl⟩:=eU_some e;exact muU_ok h hc
    · obtain ⟨h,rfl⟩:=eU_some e;exact muP_ok h hc
  case h_10 =>
    rcases orE_some e with e | e
    · exact cvU_ok e hc
    · exact cvSU_ok (eV_some e)
  case h_11 =>
    rcases orE_some e with e | e
    · exact mkU_ok e hc
    · exact mkS_ok (eV_some e)
  case h_12=>cases e
theorem opM_ok {o:Oper} {c:Bool} {v:AV} {A':Hp} (e:opM P f A o=some (c,v,A')) (hc:c=true):OpOk P f A o v A':=by
  unfold opM at e
  split at e
  · rename_i c' u bs hr
    simp only [Option.some.injEq,Prod.mk.injEq] at e
    obtain ⟨rfl,rfl,rfl⟩:=e
    exact (rdM_ok hr hc).op
  · exact efM_ok e hc
end
end Go.RK
namespace Go.RK
open Go
open Go.RK.Uni (Ty El)
open Go.RK.Byt (bT)
variable [Uni] [Byt]
section
variable {P:Program} {f:Tv} {A:Hp} {R:Type}
def CallV (P:Program) (k:Nat) (us:List Value) (h:Heap) (R:Value→Heap→Prop):Prop :=
  (∀ w:World,w.heap=h→∃ u w',Same w w'∧R u w'.heap∧(callFunc k ⟨us⟩).run P w=.ok (.value u) w') ∨
  ((∀ w:World,(callFunc k ⟨us⟩).run P w=.ok (.enter k ⟨us⟩) w)∧CallsH P k ⟨us⟩ h R)
def CallOk (P:Program) (k:Nat) (vs:List AV) (A:Hp) (v:AV) (A':Hp):Prop :=
  ∀ (σ:Sg) (us:List Value) (h:Heap),VaL σ vs us→HR σ A h→CallV P k us h fun u h'=>∃ σ',Stp σ A h σ' A' h'∧Va σ' v u
def COk (P:Program) (C:CallK R):Prop:=∀ k vs A κ r,C k vs A κ=some r→∃ v A',κ v A'=some r∧CallOk P k vs A v A'
omit [Byt] in
theorem cl_run {o:Oper} {k:Nat} {vs:List AV} (e:clM f o=some (k,vs)) {σ:Sg} {g:Fr} (hf:FrL σ f g):∃ us,VaL σ vs us∧∀ (ρ:Operand→Value) (w:World),Agrees ρ g→(execOp ρ o).run P w=(callFunc k ⟨us⟩).run P w:=by
  obtain ⟨d,op,ty,pos,af,gd⟩:=o
  unfold clM at e
  split at e
  case h_2=>cases e
  rename_i x xs ts hop
  simp only at hop
  subst hop
  split at e
  case h_2=>cases e
  rename_i k' a b hx
  split at e
  case h_2=>cases e
  rename_i ws hws
  simp only [Option.some.injEq,Prod.mk.injEq] at e
  obtain ⟨rfl,rfl⟩:=e
  obtain ⟨u,h1,h2⟩:=hf.ev hx
  obtain ⟨us,h3,h4⟩:=hf.evL hws
  cases h2 with
  | @func _ _ _ ag bs hn ha hb =>
    refine ⟨ag++(us++bs),ha.append (h4.append hb),fun ρ w hag=>?_⟩
    have e2:Array.map ρ ⟨xs⟩=⟨us⟩:=by
      have:xs.map ρ=us:=by
        clear hws h4
        induction xs generalizing us with
        | nil=>cases us <;> simp_all
        | cons x xs ih =>
          cases us with
          | nil=>simp at h3
          | cons v us =>
            simp only [List.map_cons,List.cons.injEq] at h3 ⊢
            exact ⟨hag _ _ h3.1,ih _ h3.2⟩
      rw [← this];simp
    have e3:(⟨ag⟩:Array Value)++(⟨us⟩:Array Value)++(⟨bs⟩:Array Value)=⟨ag++(us++bs)⟩:=by apply Array.ext';simp
    simp only [execOp,resolve,hag _ _ h1,Deferred.ofValue,e2,Sem.run_bind,Sem.run_pure,Result.andThen_ok,invoke,e3]
omit [Byt] in
theorem gate_ok {l0:List Oper} {o:Oper} {b:Bool} (e:gateM l0 f o=some b) {σ:Sg} {g:Fr} (hf:FrL σ f g):(b=true→goes g l0 o=true)∧(b=false→stops g l0 o=true):=by
  unfold gateM at e
  unfold goes stops
  split at e
  · rename_i hg
    simp only [Option.some.injEq] at e
    subst e
    exact ⟨(fun _=>by rw [hg]),(fun h=>by cases h)⟩
  · rename_i j b' hg
    rw [hg]
    simp only
    split at e
    case h_2=>cases e
    rename_i q hq
    split at e
    case h_2=>cases e
    rename_i t ht
    have hb:(l0[j]?).bind (·.dst)=some t:=by rw [hq];exact ht
    split at e
    · rename_i c hc
      obtain ⟨u,h1,h2⟩:=hf _ _ hc
      rw [va_bool h2] at h1
      have hgv:gval g l0 j=some c:=by unfold gval;rw [hb];simp only [h1]
      rw [hgv]
      simp only [Option.some.injEq] at e
      subst e
      cases c <;> cases b' <;> simp
    · rename_i hc
      obtain ⟨u,h1,h2⟩:=hf _ _ hc
      have hu:u=.tuple ⟨[]⟩:=h2.eq_flat rfl
      subst hu
      have hgv:gval g l0 j=Option.none:=by unfold gval;rw [hb];simp only [h1]
      have hgu:gund g l0 j=true:=by unfold gund;rw [hb];simp only [h1]
      rw [hgv]
      simp only [Option.some.injEq] at e
      subst e
      exact ⟨(fun h=>by cases h),fun _=>hgu⟩
    · cases e
def DoV (P:Program) (g:Fr) (o:Oper) (h:Heap) (R:Value→Heap→Prop):Prop :=
  OkR P g o h R∨∃ k us,(∀ (ρ:Operand→Value) (w:World),Agrees ρ g→(execOp ρ o).run P w=.ok (.enter k ⟨us⟩) w)∧CallsH P k ⟨us⟩ h R
def DoOk (P:Program) (f:Tv) (A:Hp) (o:Oper) (v:AV) (A':Hp):Prop :=
  ∀ (σ:Sg) (g:Fr) (h:Heap),FrL σ f g→HR σ A h→DoV P g o h fun u h'=>∃ σ',Stp σ A h σ' A' h'∧Va σ' v u
omit [Uni] [Byt] in
theorem bif_some {α:Type} {c:Bool} {x:Option α} {r:α} (e:(bif c then x else Option.none)=some r):c=true∧x=some r:=by
  cases c with
  | true=>exact ⟨rfl,e⟩
  | false=>cases e
omit [Byt] in
theorem dst_some {m:Nat} {f f':Tv} {d:Option Nat} {v:AV} (e:dstM m f d v=some f'):(d=Option.none∧f'=f)∨∃ t,d=some t∧Nat.blt t m=true∧f'=f.set t v:=by
  unfold dstM at e
  split at e
  · simp only [Option.some.injEq] at e;exact .inl ⟨rfl,e.symm⟩
  · rename_i t
    obtain ⟨hb,e⟩:=bif_some e
    simp only [Option.some.injEq] at e
    exact .inr ⟨t,rfl,hb,e.symm⟩
omit [Byt] in
theorem dstK_some {m:Nat} {d:Option Nat} {v:AV} {κ:Tv→Option R} {r:R} (e:dstK m f d v κ=some r):∃ f',dstM m f d v=some f'∧κ f'=some r:=by
  unfold dstK at e
  split at e
  · rename_i f' h;exact ⟨f',h,e⟩
  · cases e
omit [Uni] [Byt] in
theorem ixL_some {n:Int} {κ:Nat→Option R} {r:R}:∀ (k i:Nat),ixL n κ k i=some r→∃ j,j < i+k∧n=(j:Int)∧κ j=some r
  | 0,i,e=>by cases e
  | k+1,i,e=>by
    have e:(bif decide (n=Int.ofNat i) then κ i else ixL n κ k (i+1))=some r:=e
    cases hb:decide (n=Int.ofNat i) with
    | true=>rw [hb] at e;exact ⟨i,by omega,of_decide_eq_true hb,e⟩
    | false =>
      rw [hb] at e
      obtain ⟨j,h1,h2,h3⟩:=ixL_some k (i+1) e
      exact ⟨j,by omega,h2,h3⟩
omit [Byt] in
theorem ixC_ok {d:Option Tmp} {ty:TypeId} {pos:String} {af:Array Edge} {gd:Option (Nat × Bool)} {t:TypeId} {x y:Operand} {κ:AV→Option R} {F:Option R} {r:R} (e:ixC P f t x y κ=some F) (hr:F=some r):∃ v,κ v=some r∧RdOk P f A ⟨d,.indexAddr t x y,ty,pos,af,gd⟩ v []:=by
  unfold ixC at e
  split at e
  case h_2=>cases e
  rename_i el hu
  split at e
  · rename_i z k n b o l c hz hy hx
    simp only [Option.some.injEq] at e
    subst e
    obtain ⟨j,h1,rfl,h3⟩:=ixL_some _ _ hr
    refine ⟨_,h3,RdOk.pure fun σ g hf=>?_⟩
    have hi:=int_ok hf hy
    obtain ⟨u',h4,h5⟩:=hf.ev hx
    obtain ⟨p,c',h6,rfl,_⟩:=va_sl h5
    exact ⟨_,.ptr h6,fun h'=>by
      have:=ok_idxAddr (P:=P) (h:=h') (d:=d) (ty:=ty) (pos:=pos) (af:=af) (g:=gd) hu (sz_ok hz) h4 hi ⟨by exact Int.natCast_nonneg j,by show (j:Int) < l;omega⟩
      rw [Nat.add_assoc] at this;exact this⟩
  · simp only [Option.some.injEq] at e
    subst e
    cases hr
  · cases e
theorem rdK_some {o:Oper} {κ:AV→List Nat→Option R} {r:R} (e:rdK P f A o κ=some r):∃ v bs,κ v bs=some r∧RdOk P f A o v bs:=by
  unfold rdK at e
  split at e
  · rename_i F hl
    split at hl
    · rename_i t x y hop
      obtain ⟨d,op,ty,pos,af,gd⟩:=o
      subst hop
      obtain ⟨v,h1,h2⟩:=ixC_ok (A:=A) (d:=d) (ty:=ty) (pos:=pos) (af:=af) (gd:=gd) hl e
      exact ⟨v,[],h1,h2⟩
    · cases hl
  · split at e
    case h_2=>cases e
    rename_i c v bs hrd
    obtain ⟨hc,e⟩:=bif_some e
    exact ⟨v,bs,e,rdM_ok hrd hc⟩
omit [Byt] in
theorem lupO_ok {o:Oper} {κ:AV→Hp→Option R} {F:Option R} {r:R} (hl:lupO P f A o κ=some F) (e:F=some r):∃ v A',κ v A'=some r∧OpOk P f A o v A':=by
  unfold lupO at hl
  split at hl
  · rename_i t x y ok hop
    obtain ⟨d,op,ty,pos,af,gd⟩:=o
    subst hop
    exact lupK_ok (d:=d) (ty:=ty) (pos:=pos) (af:=af) (gd:=gd) hl e
  · rename_i t x y hop
    obtain ⟨d,op,ty,pos,af,gd⟩:=o
    subst hop
    obtain ⟨v,h1,h2⟩:=ixC_ok (A:=A) (d:=d) (ty:=ty) (pos:=pos) (af:=af) (gd:=gd) hl e
    exact ⟨v,A,h1,h2.op⟩
  · cases hl
theorem doK_some {C:CallK R} (hC:COk P C) {o:Oper} {κ:AV→Hp→Option R} {r:R} (e:doK P C f A o κ=some r):∃ v A',κ v A'=some r∧DoOk P f A o v A':=by
  unfold doK at e
  split at e
  · rename_i k vs hc
    obtain ⟨v,A',h1,h2⟩:=hC _ _ _ _ _ e
    refine ⟨v,A',h1,fun σ g h hf hk=>?_⟩
    obtain ⟨us,h3,h4⟩:=cl_run (P:=P) hc hf
    rcases h2 σ us h h3 hk with h5 | ⟨h5,h6⟩
    · refine .inl fun ρ w ha hw=>?_
      obtain ⟨u,w',h7,h8,h9⟩:=h5 w hw
      exact ⟨u,w',h7,h8,.inl ((h4 ρ w ha).trans h9)⟩
    · exact .inr ⟨k,us,fun ρ w ha=>(h4 ρ w ha).trans (h5 w),h6⟩
  · split at e
    · rename_i F hl
      obtain ⟨v,A',h1,h2⟩:=lupO_ok hl e
      exact ⟨v,A',h1,fun σ g h hf hk=>.inl (h2 σ g h hf hk)⟩
    split at e
    case h_2=>cases e
    rename_i c v A' ho
    obtain ⟨hc,e⟩:=bif_some e
    exact ⟨v,A',e,fun σ g h hf hk=>.inl (opM_ok ho hc σ g h hf hk)⟩
inductive OneS (P:Program) (m:Nat) (l0:List Oper) (f:Tv) (A:Hp) (o:Oper) (f':Tv) (A':Hp):Prop
  | act (v:AV) (hg:gateM l0 f o=some true) (hd:DoOk P f A o v A') (hs:dstM m f o.dst v=some f')
  | pass (hg:gateM l0 f o=some false) (hA:A'=A) (hs:dstM m f o.dst undefA=some f')
theorem oneK_some {C:CallK R} (hC:COk P C) {m:Nat} {l0:List Oper} {o:Oper} {κ:Tv→Hp→Option R} {r:R} (e:oneK P C m l0 f A o κ=some r):∃ f' A',κ f' A'=some r∧OneS P m l0 f A o f' A':=by
  unfold oneK at e
  split at e
  case h_2=>cases e
  rename_i g hg
  cases g with
  | true =>
    simp only [cond_true] at e
    obtain ⟨v,A',h1,h2⟩:=doK_some hC e
    obtain ⟨f',h3,h4⟩:=dstK_some h1
    exact ⟨f',A',h4,.act v hg h2 h3⟩
  | false =>
    simp only [cond_false] at e
    obtain ⟨f',h3,h4⟩:=dstK_some e
    exact ⟨f',A,h4,.pass hg rfl h3⟩
section
variable {n:Env} {Q:Post} {g:Fr} {h:Heap} {l0 rest:List Oper}
omit [Uni] [Byt] in
theorem WL.doV {o:Oper} {R:Value→Heap→Prop} (hd:DoV P g o h R) (hg:goes g l0 o=true) (hk:∀ v h' a w,R v h'→Rep n a g→w.heap=h'→wpList P l0.toArray (toAct n Q w) rest (a.put o.dst v) w):WL P n l0 (o :: rest) Q g h:=by
  rcases hd with hd | ⟨k,us,hrun,hR⟩
  · exact .run hd hg hk
  · intro a w ha hw
    refine wpList_step fun K hK=>?_
    rw [if_pos (goes_wanted ha hg)]
    unfold Oper.wp
    rw [hrun a.eval w ha.agrees]
    simp only [Oper.upon]
    refine (hR w hw).mono fun e w' ⟨hs,v,he,hv⟩=>?_
    subst he
    exact hK _ _ (toAct_mono hs _ _ _ (hk v _ a w' hv ha rfl))
omit [Byt] in
theorem WL.oneS {o : Oper} {f' : Tv} {A' : Hp} {σ : Sg} (e : OneS P n.n l0 f A o f' A') (hf : FrL σ f g) (hk : HR σ A h)
    (hnext:∀ σ' g' h',Stp σ A h σ' A' h'→FrL σ' f' g'→WL P n l0 rest Q g' h'):WL P n l0 (o :: rest) Q g h:=by
  cases e with
  | act v hgt hdo hdst =>
    refine WL.doV (hdo σ g h hf hk) ((gate_ok hgt hf).1 rfl) fun u h' a w ⟨σ',hst,hv⟩ ha hw=>?_
    rcases dst_some hdst with ⟨hd,rfl⟩ | ⟨t,hd,hb,rfl⟩
    · rw [hd]
      exact hnext σ' g h' hst (hf.mono hst.le) a w ha hw
    · rw [hd]
      exact hnext σ' _ h' hst ((hf.mono hst.le).set hv t) _ w (ha.put hb _) hw
  | pass hgt hA hdst =>
    subst hA
    have hs:=(gate_ok hgt hf).2 rfl
    rcases dst_some hdst with ⟨hd,rfl⟩ | ⟨t,hd,hb,rfl⟩
    · exact .pass0 hs hd (hnext σ g h (.refl hk) hf)
    · exact .pass hs hd hb (hnext σ _ h (.refl hk) (hf.set (.tuple .nil) t))
omit [Byt] in
theorem gsK_some {l0:List Oper} {f:Tv} {o:Oper} {κ:Tv→Option R} {r:R} (e:gsK l0 f o κ=some r):∃ f',κ f'=some r∧∀ s,f'.get s=f.get s:=by
  unfold gsK at e
  split at e
  · exact ⟨f,e,fun _=>rfl⟩
  · split at e
    · split at e
      · rename_i t _
        split at e
        · rename_i c hc
          cases c with
          | true =>
            refine ⟨_,e,fun s=>?_⟩
            rw [Tv.get_set]
            by_cases hs:s=t
            · rw [if_pos hs,hs,hc]
            · rw [if_neg hs]
          | false =>
            refine ⟨_,e,fun s=>?_⟩
            rw [Tv.get_set]
            by_cases hs:s=t
            · rw [if_pos hs,hs,hc]
            · rw [if_neg hs]
        · exact ⟨f,e,fun _=>rfl⟩
      · exact ⟨f,e,fun _=>rfl⟩
    · exact ⟨f,e,fun _=>rfl⟩
omit [Byt] in
theorem FrL.same {σ:Sg} {f f':Tv} {g:Fr} (h:FrL σ f g) (e:∀ s,f'.get s=f.get s):FrL σ f' g:=fun s v hv=>h s v ((e s).symm.trans hv)
theorem regK_some {C : CallK R} (hC : COk P C) {m : Nat} {l0 : List Oper} : ∀ (l : List Oper) {f : Tv} {A : Hp} {κ : Tv → Hp → Option R} {r : R}, regK P C m l0 l f A κ = some r →
    ∃ f' A',κ f' A'=some r∧∀ {n:Env} {Q:Post} {σ:Sg} {g:Fr} {h:Heap},n.n=m→FrL σ f g→HR σ A h→(∀ σ' g' h',Stp σ A h σ' A' h'→FrL σ' f' g'→Q .normal g' h')→WL P n l0 l Q g h
  | [],f,A,κ,r,e=>⟨f,A,e,fun _ hf hk hQ=>.nil (hQ _ _ _ (.refl hk) hf)⟩
  | o :: l,f,A,κ,r,e=>by
    simp only [regK] at e
    obtain ⟨f0,e,hf0⟩:=gsK_some e
    obtain ⟨f1,A1,h1,h2⟩:=oneK_some hC e
    obtain ⟨f2,A2,h3,h4⟩:=regK_some hC l h1
    refine ⟨f2,A2,h3,fun hn hf hk hQ=>?_⟩
    subst hn
    exact .oneS h2 (hf.same hf0) hk fun σ1 g1 h1' hs1 hf1=>h4 rfl hf1 hs1.hr fun σ2 g2 h2' hs2 hf2=>hQ σ2 g2 h2' (hs1.trans hs2) hf2
end
end
end Go.RK
namespace Go.RK
open Go
open Go.RK.Uni (Ty El)
open Go.RK.Byt (bT)
variable [Uni]
omit [Uni] in
theorem Rep.with {n:Env} {a:Act} {g:Fr} (h:Rep n a g) {t:Nat} {u:Value} (hu:a.tmps[t]?=some u):Rep n a ((t,u) :: g):=by
  refine ⟨h.size,h.defers,fun s v hv=>?_⟩
  rw [Fr.get_cons] at hv
  by_cases e:t=s
  · subst e
    rw [if_pos rfl] at hv
    injection hv with hv
    subst hv
    exact hu
  · rw [if_neg e] at hv
    exact h.at_ _ _ hv
theorem FrL.cut {σ:Sg} {f:Tv} {g:Fr} (h:FrL σ f g) (t:Nat):FrL σ (f.cut t) g:=fun s v e=>by
  rw [Tv.get_cut] at e
  by_cases hs:s=t
  · rw [if_pos hs] at e;cases e
  · rw [if_neg hs] at e;exact h s v e
theorem FrL.cutF {σ:Sg} {l:List Oper} {c:Nat} {g:Fr}:∀ {rs:List Nat} {f:Tv},FrL σ f g→FrL σ (RK.cutF l c rs f) g
  | [],_,h=>h
  | i :: r,f,h=>by
    unfold RK.cutF
    refine FrL.cutF ?_
    cases Nat.beq i c with
    | true=>exact h
    | false =>
      simp only [cond_false]
      split
      · exact h.cut _
      · exact h
theorem cutF_keep {l:List Oper} {c:Nat} {t:Nat}:∀ {rs:List Nat} {f:Tv},f.get t=Option.none→(cutF l c rs f).get t=Option.none
  | [],_,h=>h
  | i :: r,f,h=>by
    unfold cutF
    refine cutF_keep ?_
    cases Nat.beq i c with
    | true=>exact h
    | false =>
      simp only [cond_false]
      split
      · rw [Tv.get_cut];split <;> first | rfl | exact h
      · exact h
theorem cutF_gone {l:List Oper} {c i t:Nat} (hd:dstOf l i=some t) (hc:i ≠ c):∀ {rs:List Nat} {f:Tv},i∈rs→(cutF l c rs f).get t=Option.none
  | [],_,h=>by cases h
  | j :: r,f,h=>by
    unfold cutF
    rcases List.mem_cons.1 h with rfl | h
    · refine cutF_keep ?_
      rw [beq_ff hc]
      simp only [cond_false,hd]
      rw [Tv.get_cut,if_pos rfl]
    · exact cutF_gone hd hc h
theorem FrL.beside {σ:Sg} {f:Tv} {g:Fr} (h:FrL σ f g) {t:Nat} {u:Value} (hf:f.get t=Option.none):FrL σ f ((t,u) :: g):=fun s v e=>by
  rw [Fr.get_cons]
  by_cases hs:t=s
  · subst hs;rw [hf] at e;cases e
  · rw [if_neg hs];exact h s v e
section
variable {P:Program} {l:List Oper} {n:Env} {Q:Exit→Act→World→Prop}
def Off (σ:Sg) (A:Hp) (b:Nat):Prop:=¬ Lv σ A b∧σ.fz b=Option.none∧σ.ex b=[]
theorem Off.step {σ σ':Sg} {A A':Hp} {h h':Heap} (s:Stp σ A h σ' A' h') {b:Nat} (hb:b < h.size) (k:Off σ A b):Off σ' A' b:=by
  refine ⟨fun hl=>k.1 (s.lv b hb hl),?_,(s.exk b hb fun w=>k.1 (Lv.wr w)).trans k.2.2⟩
  cases e:σ'.fz b with
  | none=>rfl
  | some us=>exact ((s.fzn b us hb e).elim (fun e=>by rw [k.2.1] at e;cases e) fun l=>absurd l k.1)
theorem Off.keep {σ σ':Sg} {A A':Hp} {h h':Heap} (s:Stp σ A h σ' A' h') {b:Nat} (hb:b < h.size) (k:Off σ A b):h'[b]?=h[b]?:=s.keep b hb fun w=>k.1 (Lv.wr w)
structure Erl (P:Program) (l:List Oper) (f:Tv) (σ:Sg) (A:Hp) (h:Heap) (a:Act) (N0:Nat) (E:List Nat) (B:Nat→Nat):Prop where
  at_:∀ i,E.contains i=true→∃ t o n cs T us,l[i]?=some o∧(o.dst=some t∧o.guard=Option.none)∧nwM P f o=some (cs,T,n)∧VaL σ cs us∧a.tmps[t]?=some (nwV o n (B i))∧h[B i]?=some (.cells ⟨us⟩ T (0,0))∧Off σ A (B i)∧N0≤B i
  inj:∀ i j,E.contains i=true→E.contains j=true→B i=B j→i=j
theorem nwM_congr {f f':Tv} {o:Oper} (h:∀ t,t∈Oper.looksAt l.toArray o→f'.get t=f.get t):nwM P f' o=nwM P f o:=by
  obtain ⟨d,op,ty,pos,af,gd⟩:=o
  have hev:∀ x':Operand,x'∈op.operands.toList→evE f' x'=evE f x':=fun x' hx=>by
    cases x' with
    | tmp s =>
      refine h s ?_
      unfold Oper.looksAt
      exact List.mem_append_left _ (List.mem_filterMap.2 ⟨.tmp s,hx,rfl⟩)
    | _=>rfl
  unfold nwM
  cases op <;> try rfl
  · rename_i t x
    simp only [hev x (by simp [Op.operands])]
  · rename_i t len ps
    obtain ⟨ps⟩:=ps
    have hop:∀ l2:List (Nat × Operand),(∀ q∈l2,q∈ps)→opsL f' l2=opsL f l2:=fun l2=>by
      induction l2 with
      | nil=>intro _;rfl
      | cons q l2 ih =>
        intro hq
        unfold opsL
        rw [hev q.2 (by simp only [Op.operands];simpa using ⟨q.1,hq q (by simp)⟩),ih fun r hr=>hq r (by simp [hr])]
    simp only [hop ps (fun q h=>h)]
  · rename_i t x y
    have he:∀ x':Operand,x'∈([x,y]:List Operand)→natS f' x'=natS f x':=fun x' hx=>by
      unfold natS
      rw [hev x' (by simpa [Op.operands] using hx)]
    simp only [he x (by simp),he y (by simp)]
theorem nw_not {f:Tv} {o:Oper} {q:List AV × TypeId × Nat} (e:nwM P f o=some q):isRd P o=false∧clM f o=Option.none∧∀ [Byt] (A:Hp),rdM P f A o=Option.none:=by
  obtain ⟨d,op,ty,pos,af,gd⟩:=o
  unfold nwM at e
  split at e
  · rename_i hop;simp only at hop;subst hop;exact ⟨rfl,rfl,fun _=>rfl⟩
  · rename_i hop;simp only at hop;subst hop;exact ⟨rfl,rfl,fun _=>rfl⟩
  · rename_i hop;simp only at hop;subst hop;exact ⟨rfl,rfl,fun _=>rfl⟩
  · rename_i hop;simp only at hop;subst hop;exact ⟨rfl,rfl,fun _=>rfl⟩
  · cases e
theorem nw_ok {f : Tv} {o : Oper} {k : Nat} {cs : List AV} {T : TypeId} (e : nwM P f o = some (cs, T, k)) (σ : Sg) (g : Fr) (h : Heap) (hf : FrL σ f g) :
    ∃ us,VaL σ cs us∧OkR P g o h fun u h'=>∃ b,u=nwV o k b∧h.size≤b∧h'[b]?=some (.cells ⟨us⟩ T (0,0))∧Ext No h h':=by
  obtain ⟨d,op,ty,pos,af,gd⟩:=o
  unfold nwM at e
  split at e
  · rename_i T hop
    simp only at hop
    subst hop
    split at e
    case h_2=>cases e
    rename_i z hz
    simp only [Option.some.injEq,Prod.mk.injEq] at e
    obtain ⟨rfl,rfl,rfl⟩:=e
    refine ⟨z.cells.toList,zcells (zero_flat hz),?_⟩
    exact (okE_alloc (P:=P) (f:=g) (h:=h) (d:=d) (ty:=ty) (pos:=pos) (af:=af) (g:=gd) (zero_ok hz)).mono fun u h' ⟨b,hu,hnew⟩=>⟨b,hu,by have:=hnew.1;exact this,by simpa using hnew.2.1,hnew.2.2⟩
  · rename_i T x hop
    simp only at hop
    subst hop
    split at e
    case h_2=>cases e
    rename_i v hv
    simp only [Option.some.injEq,Prod.mk.injEq] at e
    obtain ⟨rfl,rfl,rfl⟩:=e
    obtain ⟨u,h1,h2⟩:=hf.ev hv
    refine ⟨u.cells.toList,h2.cells,(okE_box h1).mono fun u' h' ⟨b,hu,hn⟩=>?_⟩
    exact ⟨b,hu,hn.1,by simpa using hn.2.1,hn.2.2⟩
  · rename_i t x y hop
    simp only at hop
    subst hop
    split at e
    case h_2=>cases e
    rename_i el hu
    split at e
    case h_2=>cases e
    rename_i sz by_ z n m hsz hby hz hx hy
    obtain ⟨hb,e⟩:=bif_some e
    simp only [Option.some.injEq,Prod.mk.injEq] at e
    obtain ⟨rfl,rfl,rfl⟩:=e
    simp only [Bool.and_eq_true] at hb
    have hb:=hb.2
    have hnm:=Nat.eq_of_beq_eq_true hb.1
    subst hnm
    have hzs:z.cells.size=sz:=by simpa using Nat.eq_of_beq_eq_true hb.2.1
    obtain ⟨i,hi,hiz⟩:=zero_info hz
    have hisz:i.size=sz:=by unfold szE at hsz;rw [hi] at hsz;simpa using hsz
    have hiby:i.bytes=by_:=by unfold byE at hby;rw [hi] at hby;simpa using hby
    have hn6:n≤1000000:=ble_le hb.2.2.2
    refine ⟨repE z.cells.toList n,rep_va (zcells (zero_flat hz)) n,?_⟩
    refine (okE_makeSlice by_ sz hu hi hiz hiby hisz (natS_ok hf hx) (natS_ok hf hy) (ble_le hb.2.2.1) (by simp only [maxLen];omega)).mono fun u h' ⟨b,zs,hu',hlt,hb',hlen,hzz,hx'⟩=>?_
    have hmd:zs=repE z.cells.toList n:=by
      rw [hzz,← hzs]
      exact congrArg Array.toList (range_rep z.cells n)
    subst hmd
    exact ⟨b,hu',hlt,hb',hx'⟩
  · rename_i t len ps hop
    simp only at hop
    subst hop
    split at e
    case h_2=>cases e
    rename_i el hu
    split at e
    case h_2=>cases e
    rename_i k' z vs hk hz hps
    cases hb:(Nat.beq z.cells.toList.length k' && (Nat.blt len BIG && Nat.ble (Nat.mul len k') 16777216)) with
    | false=>rw [hb] at e;cases e
    | true =>
    rw [hb] at e
    simp only [cond_true] at e
    split at e
    case h_2=>cases e
    rename_i cs' hcs
    simp only [Option.some.injEq,Prod.mk.injEq] at e
    obtain ⟨rfl,rfl,rfl⟩:=e
    simp only [Bool.and_eq_true] at hb
    obtain ⟨us,h1,h2⟩:=opsL_ok hf hps
    have hzk:z.cells.size=k':=by simpa using Nat.eq_of_beq_eq_true hb.1
    have hrep:=rep_va (zcells (σ:=σ) (zero_flat hz)) len
    obtain ⟨out,h3,h4⟩:=fill_va _ _ _ _ _ _ _ h2 hrep hcs
    have h5:=fill_eq _ _ _ _ h3
    obtain ⟨i,hi,hi2⟩:=zero_info hz
    have hsz:i.size=k':=by
      unfold szE at hk;rw [hi] at hk;simpa using hk
    have hbs:bsl P el len ((ps.map (·.1)).zip us)=some ⟨out⟩:=by
      unfold bsl
      simp only [hi,hi2,hsz]
      have h16:¬ len * k' > 2 ^ 24:=by have:len * k'≤16777216:=ble_le hb.2.2;omega
      rw [if_neg h16]
      rw [← h5]
      congr 1
      by_cases hl0:len * k'=0
      · rw [if_pos hl0,hl0]
        have:repE z.cells.toList len=[]:=List.eq_nil_of_length_eq_zero (by rw [rep_len];simpa [hzk] using hl0)
        rw [this]
        simp
      · rw [if_neg hl0]
        have:=range_rep z.cells len
        rw [hzk] at this
        rw [hzk]
        exact this
    exact ⟨out,h4,(okE_buildSlice (fun _=>out) hu h1 rfl hbs).mono fun u h' ⟨b,hu',hn⟩=>⟨b,hu',hn.1,by simpa using hn.2.1,hn.2.2⟩⟩
  · cases e
def LateOk (A:Hp) (o:Oper) (cs:List AV) (T:TypeId) (k:Nat) (v:AV) (A':Hp):Prop :=
  ∀ (σ:Sg) (h:Heap) (us:List Value) (b:Nat),HR σ A h→VaL σ cs us→h[b]?=some (.cells ⟨us⟩ T (0,0)) →
    ∃ σ1 A1 ob p,Stp σ A h σ1 A1 h∧A'=A1.new ob∧p.nw=false∧p.b=b∧OR (upd σ1 A1.nx p) h p ob∧Va (upd σ1 A1.nx p) v (nwV o k b)
theorem LateOk.cells {A:Hp} {o:Oper} {cs:List AV} {T:TypeId} {k:Nat} {v:AV} (hv:∀ (σ:Sg) (b n:Nat),Va (upd σ A.nx ⟨b,0,n,0,0,false⟩) v (nwV o k b)):LateOk A o cs T k v (A.new (.cells cs T false)):=fun σ h us b hk hu hb =>
  ⟨σ,A,_,⟨b,0,us.length,0,0,false⟩,.refl hk,rfl,rfl,rfl,.new hb (hu.mono (hk.le_upd _)),hv σ b us.length⟩
theorem OR.rowU {σ:Sg} {h:Heap} {b n z:Nat} {us:List Value} {el:TypeId} {t:Ty} {l:List (El t)} (hb:h[b]?=some (.cells ⟨us⟩ el (0,0))) (hd:DatL σ.fz t l us) (hn:l.length=n) (hz:szU t=z) (hc:n * szU t≤us.length):OR σ h ⟨b,0,us.length,n,z,false⟩ (.row t l el) :=
  ⟨hn.symm,hz.symm,fun _=>⟨us,(0,0),hb,by show 0+us.length≤us.length;omega,by rw [List.drop_zero];exact hd,by rw [hn];exact hc,.inl rfl⟩,fun h=>by cases h⟩
theorem flatL_app:∀ {a b:List AV},flatL a=true→flatL b=true→flatL (a++b)=true
  | [],_,_,hb=>hb
  | x :: a,b,ha,hb=>by
    simp only [flatL,Bool.and_eq_true] at ha
    simp only [List.cons_append,flatL,Bool.and_eq_true]
    exact ⟨ha.1,flatL_app ha.2 hb⟩
theorem flat_rep {z:List AV} (h:flatL z=true):∀ n,flatL (repE z n)=true
  | 0=>rfl
  | n+1=>flatL_app h (flat_rep h n)
theorem natS_i64 {f:Tv} {x:Operand} {n:Nat} {i:Int} (h:natS f x=some n) (e:i64E f x=some i):i=(n:Int):=by
  unfold natS at h
  unfold i64E at e
  split at h
  · rename_i m hx
    simp only [Option.some.injEq] at h
    subst h
    rw [hx] at e
    simp only [Option.some.injEq] at e
    exact e.symm
  · cases h
theorem nw_late [Byt] {f:Tv} {o:Oper} {k:Nat} {cs:List AV} {T:TypeId} (e:nwM P f o=some (cs,T,k)) {A A':Hp} {c:Bool} {v:AV} (h:opM P f A o=some (c,v,A')) (hc:c=true):LateOk A o cs T k v A':=by
  unfold opM at h
  rw [(nw_not e).2.2 A] at h
  simp only at h
  obtain ⟨d,op,ty,pos,af,gd⟩:=o
  unfold nwM at e
  split at e
  · rename_i T hop
    simp only at hop
    subst hop
    split at e
    case h_2=>cases e
    rename_i z hz
    simp only [Option.some.injEq,Prod.mk.injEq] at e
    obtain ⟨rfl,rfl,rfl⟩:=e
    unfold efM at h
    simp only at h
    have h:=eV_some h
    unfold allocE at h
    rw [hz] at h
    simp only [Option.some.injEq,Prod.mk.injEq] at h
    obtain ⟨rfl,rfl⟩:=h
    exact .cells fun σ b n=>Va.ptr (o:=0) (upd_new σ A.nx _)
  · rename_i T x hop
    simp only at hop
    subst hop
    split at e
    case h_2=>cases e
    rename_i v hv
    simp only [Option.some.injEq,Prod.mk.injEq] at e
    obtain ⟨rfl,rfl,rfl⟩:=e
    unfold efM at h
    simp only at h
    have h:=eV_some h
    unfold boxE at h
    rw [hv] at h
    simp only [Option.some.injEq,Prod.mk.injEq] at h
    obtain ⟨rfl,rfl⟩:=h
    exact .cells fun σ b n=>Va.ptr (o:=0) (upd_new σ A.nx _)
  · rename_i t x y hop
    simp only at hop
    subst hop
    split at e
    case h_2=>cases e
    rename_i el hu
    split at e
    case h_2=>cases e
    rename_i sz by_ z n m hsz hby hz hx hy
    obtain ⟨hb,e⟩:=bif_some e
    simp only [Option.some.injEq,Prod.mk.injEq] at e
    obtain ⟨rfl,rfl,rfl⟩:=e
    simp only [Bool.and_eq_true] at hb
    obtain ⟨hfl,hnm,hzl,hbn,hn6⟩:=hb
    have hnm:=Nat.eq_of_beq_eq_true hnm
    subst hnm
    have hzs:z.cells.size=sz:=by simpa using Nat.eq_of_beq_eq_true hzl
    have hn6:n≤1000000:=ble_le hn6
    unfold efM at h
    simp only at h
    rcases orE_some h with h | h
    · unfold mkU at h
      rw [hu] at h
      simp only at h
      split at h
      case h_2=>cases h
      rename_i sz' by' z' n' m' τ hsz' _ hz' hx' hy' _
      rw [hsz] at hsz'
      rw [hz] at hz'
      injection hsz' with hsz'
      injection hz' with hz'
      subst hsz' hz'
      have:=natS_i64 hx hx'
      subst this
      obtain ⟨hb,h⟩:=bif_some h
      rw [Bool.and_eq_true] at hb
      have hzt:=Nat.eq_of_beq_eq_true hb.1
      split at h
      case h_2=>cases h
      rename_i w A1 c1 hw
      simp only [Option.some.injEq,Prod.mk.injEq] at h
      obtain ⟨rfl,rfl,rfl⟩:=h
      simp only [Bool.and_eq_true] at hc
      intro σ h us b hk hus hbb
      have hus':us=repE z.cells.toList n:=(hus.eq_flat (flat_rep hfl n)).trans ((rep_va (zcells (σ:=σ) (zero_flat hz)) n).eq_flat (flat_rep hfl n)).symm
      subst hus'
      obtain ⟨F,st,hd⟩:=fldF_ok (zcells (σ:=σ) (zero_flat hz)) hk hw hc.1
      have hd':DatL F τ (List.replicate n (Uni.cl τ w)) (repE z.cells.toList n):=rep_dat (by rw [Uni.op_cl];exact hd) n
      have hlen:n * szU τ≤(repE z.cells.toList n).length:=by rw [rep_len,Array.length_toList,hzs,hzt];exact Nat.le_refl _
      exact ⟨⟨σ.pl,F,σ.ex⟩,A1,_,⟨b,0,(repE z.cells.toList n).length,n,szU τ,false⟩,st,rfl,rfl,rfl,OR.rowU hbb hd' (by simp) rfl hlen,.own (upd_new _ _ _) (.inr ⟨rfl,n,rfl,Nat.le_refl _,by simp only [maxLen];omega,hlen⟩)⟩
    · have h:=eV_some h
      unfold mkSE at h
      rw [hu] at h
      simp only [hsz,hby,hz,hx,hy] at h
      obtain ⟨_,h⟩:=bif_some h
      simp only [Option.some.injEq,Prod.mk.injEq] at h
      obtain ⟨rfl,rfl⟩:=h
      exact .cells fun σ b _=>Va.sl (o:=0) (upd_new σ A.nx _) (by unfold BIG;omega)
  · rename_i t len ps hop
    simp only at hop
    subst hop
    split at e
    case h_2=>cases e
    rename_i el hu
    split at e
    case h_2=>cases e
    rename_i k' z vs hk hz hps
    obtain ⟨hb,e⟩:=bif_some e
    split at e
    case h_2=>cases e
    rename_i cs' hcs
    simp only [Option.some.injEq,Prod.mk.injEq] at e
    obtain ⟨rfl,rfl,rfl⟩:=e
    simp only [Bool.and_eq_true] at hb
    unfold efM at h
    simp only at h
    rcases orE_some h with h | h
    · unfold bslU at h
      rw [hu] at h
      simp only at h
      split at h
      case h_2=>cases h
      rename_i k2 z' vs' τ hk' hz' hps' _
      rw [hk] at hk'
      rw [hz] at hz'
      rw [hps] at hps'
      injection hk' with hk'
      injection hz' with hz'
      injection hps' with hps'
      subst hk' hz' hps'
      obtain ⟨hb',h⟩:=bif_some h
      simp only [Bool.and_eq_true] at hb'
      have hzt:=Nat.eq_of_beq_eq_true hb'.1
      rw [hcs] at h
      simp only at h
      split at h
      case h_2=>cases h
      rename_i l A1 c1 hel
      simp only [Option.some.injEq,Prod.mk.injEq] at h
      obtain ⟨rfl,rfl,rfl⟩:=h
      intro σ h us b hk2 hus hbb
      obtain ⟨F,st,hd,hl⟩:=eltF_ok hus hk2 hel hc
      have hlen:us.length=len * szU τ:=by
        have e2:cs'.length=(repE (ofV z).cells.toList len).length:=fill_len _ _ _ _ hcs
        rw [hus.len,e2,rep_len,← (zcells (σ:=σ) (zero_flat hz)).len,← hzt,Nat.eq_of_beq_eq_true hb.1]
      have hl16:len≤maxLen:=by have:len≤16777216:=ble_le hb'.2.2.1;simp only [maxLen];omega
      exact ⟨⟨σ.pl,F,σ.ex⟩,A1,_,⟨b,0,us.length,len,szU τ,false⟩,st,rfl,rfl,rfl,OR.rowU hbb hd hl rfl (by rw [hlen];exact Nat.le_refl _),.own (upd_new _ _ _) (.inr ⟨rfl,len,rfl,Nat.le_refl _,hl16,by rw [hlen];exact Nat.le_refl _⟩)⟩
    · have h:=eV_some h
      unfold bslE at h
      rw [hu] at h
      simp only [hk,hz,hps] at h
      obtain ⟨_,h⟩:=bif_some h
      rw [hcs] at h
      simp only [Option.some.injEq,Prod.mk.injEq] at h
      obtain ⟨rfl,rfl⟩:=h
      exact .cells fun σ b _=>Va.sl (o:=0) (upd_new σ A.nx _) (blt_lt hb.2.1)
  · cases e
theorem oneK_late [Byt] {R : Type} {f : Tv} {A : Hp} {C : CallK R} (hC : COk P C) {m : Nat} {l0 : List Oper} {o : Oper} {κ : Tv → Hp → Option R} {r : R} (e : oneK P C m l0 f A o κ = some r) :
    ∃ f' A',κ f' A'=some r∧OneS P m l0 f A o f' A'∧(o.guard=Option.none→∀ cs T k,nwM P f o=some (cs,T,k)→∃ v,LateOk A o cs T k v A'∧dstM m f o.dst v=some f'):=by
  cases hq:o.guard with
  | some q =>
    obtain ⟨f',A',h1,h2⟩:=oneK_some hC e
    exact ⟨f',A',h1,h2,fun h=>by cases h⟩
  | none =>
    cases hn:nwM P f o with
    | none =>
      obtain ⟨f',A',h1,h2⟩:=oneK_some hC e
      exact ⟨f',A',h1,h2,fun _ _ _ _ h=>by cases h⟩
    | some q =>
      have hg:gateM l0 f o=some true:=by unfold gateM;rw [hq]
      unfold oneK at e
      rw [hg] at e
      simp only [cond_true] at e
      have hl:∀ κ',lupO (R:=R) P f A o κ'=Option.none:=fun κ'=>by
        unfold lupO
        split
        · rename_i hop;unfold nwM at hn;rw [hop] at hn;cases hn
        · rename_i hop;unfold nwM at hn;rw [hop] at hn;cases hn
        · rfl
      unfold doK at e
      rw [(nw_not hn).2.1] at e
      simp only [hl] at e
      split at e
      case h_2=>cases e
      rename_i c v A' ho
      obtain ⟨hc,e⟩:=bif_some e
      obtain ⟨f',h3,h4⟩:=dstK_some e
      exact ⟨f',A',h4,.act v hg (fun σ g h hf hk=>.inl (opM_ok ho hc σ g h hf hk)) h3,fun _ cs T k h=>⟨v,nw_late (hn.trans h) ho hc,h3⟩⟩
end
end Go.RK
namespace Go.RK
open Go
open Go.RK.Uni (Ty El)
open Go.RK.Byt (bT)
variable [Uni]
section
variable {P:Program} {l:List Oper} {n:Env} {Q:Exit→Act→World→Prop}
noncomputable def ZOf (σ:Sg) (Zs:List (Nat × Nat)) (Z:Nat→Nat→Prop):Prop:=∀ i b,Z i b→(∃ β p,(i,β)∈Zs∧σ β=some p∧p.nw=false∧p.b=b)∨∃ us,σ.fz b=some us
omit [Uni] in
theorem ZOf.mono {σ σ':Sg} (hs:Le σ σ') {Zs:List (Nat × Nat)} {Z:Nat→Nat→Prop} (h:ZOf σ Zs Z):ZOf σ' Zs Z:=fun i b hz=>(h i b hz).elim (fun ⟨β,p,h1,h2,h3⟩=>.inl ⟨β,p,h1,hs.pl _ _ h2,h3⟩) fun ⟨us,h1⟩=>.inr ⟨us,hs.fz _ _ h1⟩
theorem wpOp_one {c : Nat} {o : Oper} (ho : l[c]? = some o) {f f' : Tv} {A A' : Hp} (e : OneS P n.n l f A o f' A') {σ : Sg} {g : Fr} {a : Act} {w : World} (hf : FrL σ f g) (hk : HR σ A w.heap) (ha : Rep n a g) {K : Act → World → Prop}
    (hK:∀ σ' g' a' w',Stp σ A w.heap σ' A' w'.heap→FrL σ' f' g'→Rep n a' g'→Same w w'→(∀ (t:Nat) u,o.dst ≠ some t→a.tmps[t]?=some u→a'.tmps[t]?=some u)→K a' w'):wpOp P l.toArray Q c K a w:=by
  have ho':l.toArray[c]?=some o:=by simpa using ho
  have put:∀ (d:Option Nat) (u:Value) (t:Nat) (v:Value),d ≠ some t→a.tmps[t]?=some v→(a.put d u).tmps[t]?=some v:=fun d u t v hd ht=>by
    cases d with
    | none=>exact ht
    | some s =>
      show (a.tmps.setIfInBounds s u)[t]?=some v
      rw [Array.getElem?_setIfInBounds_ne (fun e=>hd (by rw [e]))]
      exact ht
  cases e with
  | act v hgt hdo hdst =>
    have hgo:=(gate_ok hgt hf).1 rfl
    have fin:∀ u w',Same w w'→(∃ σ',Stp σ A w.heap σ' A' w'.heap∧Va σ' v u)→K (a.put o.dst u) w':=fun u w' hs ⟨σ',hst,hv⟩=>by
      rcases dst_some hdst with ⟨hd,rfl⟩ | ⟨t,hd,hb,rfl⟩
      · exact hK σ' g _ w' hst (hf.mono hst.le) (by rw [hd];exact ha) hs (put _ _)
      · exact hK σ' _ _ w' hst ((hf.mono hst.le).set hv t) (by rw [hd];exact ha.put hb _) hs (put _ _)
    unfold wpOp
    simp only [ho',if_pos (goes_wanted ha hgo)]
    refine .inl ?_
    unfold Oper.wp
    rcases hdo σ g w.heap hf hk with hd | ⟨k,us,hrun,hR⟩
    · obtain ⟨u,w',hs,hR,hrun⟩:=hd a.eval w ha.agrees rfl
      have:=fin u w' hs hR
      rcases hrun with hrun | ⟨hrun,rfl⟩ <;> rw [hrun] <;> simp only [Oper.upon] <;> exact this
    · rw [hrun a.eval w ha.agrees]
      simp only [Oper.upon]
      refine (hR w rfl).mono fun e w' ⟨hs,u,he,hv⟩=>?_
      subst he
      exact fin u w' hs hv
  | pass hgt hA hdst =>
    subst hA
    have hst:=(gate_ok hgt hf).2 rfl
    unfold wpOp
    simp only [ho',stops_wanted ha hst]
    rcases dst_some hdst with ⟨hd,rfl⟩ | ⟨t,hd,hb,rfl⟩
    · exact hK σ g _ w (.refl hk) hf (by rw [hd];exact ha) (.refl w) (put _ _)
    · exact hK σ _ _ w (.refl hk) (hf.set (.tuple .nil) t) (by rw [hd];exact ha.put hb _) (.refl w) (put _ _)
theorem Hp.with_pr (A:Hp) (p:List Nat) (σ:Sg) (h:Heap):HR σ { A with pr:=p } h ↔ HR σ A h:=⟨fun k=>⟨k.obj,k.inj,k.dom,k.ltb,k.frz,k.exl,k.gl⟩,fun k=>⟨k.obj,k.inj,k.dom,k.ltb,k.frz,k.exl,k.gl⟩⟩
theorem Stp.less {σ σ':Sg} {A A':Hp} {h h':Heap} {zs:List Nat} (hk:HR σ A h) (s:Stp σ { A with pr:=zs++A.pr } h σ' A' h'):Stp σ A h σ' { A' with pr:=A.pr } h':=by
  refine ⟨s.le,(Hp.with_pr _ _ _ _).2 s.hr,rfl,s.size,fun b hb hw=>s.keep b hb fun ⟨β,o,p,h1,hl,h2,h3,hn,h4⟩=>hw ⟨β,o,p,h1,hl,?_,h3,hn,h4⟩,fun b hb ⟨β,o,p,h1,hl,h2,h3,hn,h4⟩=>?_,s.lv,fun β hβ hp=>s.apr β hβ ?_,s.nx,s.fzn,s.old,fun b hb hw=>s.exk b hb fun ⟨β,o,p,h1,hl,h2,h3,hn,h4⟩=>hw ⟨β,o,p,h1,hl,(by simp only [List.contains_append,Bool.or_eq_false_iff] at h2;exact h2.2),h3,hn,h4⟩⟩
  · simp only [List.contains_append,Bool.or_eq_false_iff] at h2
    exact h2.2
  · obtain ⟨β2,o2,p2,k1,kl,k2,kn,k3⟩:=s.lv b hb ⟨β,o,p,h1,hl,h3,hn,h4⟩
    refine ⟨β2,o2,p2,k1,kl,?_,k2,kn,k3⟩
    cases hc:A.pr.contains β2 with
    | false=>rfl
    | true =>
      exfalso
      have hlt:=hk.dom β2 p2 k2
      have h5:=s.apr β2 hlt (by simp only [List.contains_append,hc,Bool.or_true])
      have h6:A'.t.get β2=some o2:=h5.trans k1
      have hx:σ'.ex p2.b=σ.ex p2.b:=s.exk _ (hk.ltb _ _ k2 kn) fun ⟨β3,o3,p3,j1,jl,j2,j3,jn,j4⟩=>by
        have:=hk.inj β3 β2 o3 o2 p3 p2 j1 k1 jl kl j3 k2 jn kn _ j4 (.inl rfl)
        subst this
        simp only [List.contains_append,hc,Bool.or_true] at j2
        cases j2
      have:=s.hr.inj β β2 o o2 p p2 h1 h6 hl kl h3 (s.le.pl _ _ k2) hn kn b h4 (by unfold Ow at k3 ⊢;rw [hx];exact k3)
      subst this
      simp only at h2
      rw [hc] at h2
      cases h2
  · simp only [List.contains_append,hp,Bool.or_true]
theorem Stp.adopt {σ0 σ:Sg} {A0 A:Hp} {h0 h:Heap} (s:Stp σ0 A0 h0 σ A h) {p:Pl} {o:AO} (hn:p.nw=false) (hb:p.b < h.size) (hl:Off σ A p.b) (h0b:h0.size≤p.b) (ho:OR (RK.upd σ A.nx p) h p o):Stp σ0 A0 h0 (RK.upd σ A.nx p) (A.new o) h:=by
  have k:=s.hr
  have key:∀ β o',(A.new o).t.get β=some o'→(β=A.nx∧o'=o)∨(β ≠ A.nx∧A.t.get β=some o'):=fun β o' e=>by
    simp only [Hp.new] at e
    rw [Tx.get_set] at e
    by_cases hb:β=A.nx
    · rw [if_pos hb] at e;injection e with e;exact .inl ⟨hb,e.symm⟩
    · rw [if_neg hb] at e;exact .inr ⟨hb,e⟩
  have hne:∀ β,β ≠ A.nx→RK.upd σ A.nx p β=σ β:=fun β hb=>upd_ne _ _ hb
  have own1:∀ b o,Ow σ o p b→b=p.b:=fun b o hb=>by
    rcases hb with hb | ⟨_,hb⟩
    · exact hb.symm
    · rw [hl.2.2] at hb;cases hb
  have hlv:∀ b,b ≠ p.b→Lv (RK.upd σ A.nx p) (A.new o) b→Lv σ A b:=fun b hb ⟨β,o',q,e,hlq,hq,hnq,hqb⟩=>by
    rcases key β o' e with ⟨rfl,rfl⟩ | ⟨n1,e1⟩
    · rw [upd_new] at hq;injection hq with hq;subst hq
      rcases hqb with hqb | hqb
      · exact absurd hqb.symm hb
      · have hqb:=hqb.2
        rw [show (RK.upd σ A.nx p).ex p.b=[] from hl.2.2] at hqb;cases hqb
    · exact ⟨β,o',q,e1,hlq,(hne β n1)▸hq,hnq,hqb⟩
  refine ⟨s.le.trans (k.le_upd _),⟨fun β o' e=>?_,fun β β' o1 o2 p1 p2 e1 e2 l1 l2 s1 s2 w1 w2 b hbb hbb'=>?_,fun β q e=>?_,fun β q e hnq=>?_,fun b us e=>?_,k.exl,k.gl⟩,s.pr,s.size,s.keep,fun c hc ⟨β,o',q,e,hlq,hpr,hq,hnq,hqb⟩=>?_,fun c hc hL=>s.lv c hc (hlv c (by omega) hL),fun β hβ hp=>?_,Nat.le_trans s.nx (Nat.le_succ _),s.fzn,fun β hβ=>(upd_ne _ _ (by have:=s.nx;omega)).trans (s.old β hβ),s.exk⟩
  · rcases key β o' e with ⟨rfl,rfl⟩ | ⟨hb',e⟩
    · exact ⟨_,upd_new _ _ _,ho⟩
    · obtain ⟨q,h1,h2⟩:=k.obj β o' e
      exact ⟨q,(hne β hb').trans h1,h2.mono (k.le_upd _)⟩
  · rcases key β o1 e1 with ⟨rfl,rfl⟩ | ⟨n1,f1⟩ <;> rcases key β' o2 e2 with ⟨rfl,rfl⟩ | ⟨n2,f2⟩
    · rfl
    · rw [upd_new] at s1;injection s1 with s1;subst s1
      rw [hne _ n2] at s2
      exact absurd ⟨β',o2,p2,f2,l2,s2,w2,own1 _ _ hbb▸hbb'⟩ hl.1
    · rw [upd_new] at s2;injection s2 with s2;subst s2
      rw [hne _ n1] at s1
      exact absurd ⟨β,o1,p1,f1,l1,s1,w1,own1 _ _ hbb'▸hbb⟩ hl.1
    · rw [hne _ n1] at s1;rw [hne _ n2] at s2
      exact k.inj _ _ _ _ _ _ f1 f2 l1 l2 s1 s2 w1 w2 b hbb hbb'
  · show β < A.nx+1
    by_cases hb':β=A.nx
    · omega
    · rw [hne β hb'] at e;have:=k.dom β q e;omega
  · by_cases hb':β=A.nx
    · subst hb';rw [upd_new] at e;injection e with e;subst e;exact hb
    · rw [hne β hb'] at e;exact k.ltb β q e hnq
  · exact ⟨(k.frz b us e).1, fun hL => (k.frz b us e).2 (hlv b (fun eq => by
      have e:σ.fz b=some us:=e
      rw [eq,hl.2.1] at e;cases e) hL)⟩
  · rcases key β o' e with ⟨rfl,rfl⟩ | ⟨n1,e1⟩
    · rw [upd_new] at hq;injection hq with hq;subst hq
      have:=own1 _ _ hqb
      omega
    · exact s.wr c hc ⟨β,o',q,e1,hlq,hpr,(hne β n1)▸hq,hnq,hqb⟩
  · simp only [Hp.new]
    rw [Tx.get_set,if_neg (by have:=s.nx;omega)]
    exact s.apr β hβ hp
theorem al_spec {m i:Nat} {f:Tv} (h:alOk P m l f i=true):∃ t o q,l[i]?=some o∧o.dst=some t∧o.guard=Option.none∧Nat.blt t m=true∧nwM P f o=some q∧dstOf l i=some t:=by
  unfold alOk at h
  split at h
  · rename_i t op ty pos af hl
    rw [Bool.and_eq_true] at h
    split at h
    · rename_i n hn
      exact ⟨t,_,n,hl,rfl,rfl,h.1,hn,by unfold dstOf;rw [hl]⟩
    · cases h.2
  · cases h
omit [Uni] in
theorem dst_ne {i j t s:Nat} (h:dstNe l i j=true) (hi:dstOf l i=some t) (hj:dstOf l j=some s):t ≠ s:=fun e=>by
  unfold dstNe at h
  rw [hi,hj] at h
  simp only [Bool.not_eq_true'] at h
  rw [beq_tt e] at h
  cases h
theorem look_spec {m c:Nat} {f:Tv} {rs:List Nat} (h:apartE P m l f c rs=true) {i j:Nat} (hi:i∈rs) (hj:j∈rs) {o:Oper} (ho:l[i]?=some o) {t:Nat} (ht:dstOf l j=some t):t ∉ Oper.looksAt l.toArray o:=by
  unfold apartE at h
  rw [Bool.and_eq_true] at h
  have:=List.all_eq_true.1 (List.all_eq_true.1 h.1 i hi) j hj
  unfold lookNe at this
  rw [ho,ht] at this
  simpa using this
theorem apart_spec {m c:Nat} {f:Tv} {rs:List Nat} (h:apartE P m l f c rs=true) {i:Nat} (hi:i∈rs) (hc:i ≠ c):alOk P m l f i=true∧(∀ j∈rs,i ≠ j→dstNe l i j=true)∧∀ j,j < l.length→Region.waitsFor .any l.toArray j i=true→Reach l.toArray j c:=by
  unfold apartE at h
  rw [Bool.and_eq_true] at h
  have:=List.all_eq_true.1 h.2 i hi
  rw [beq_ff hc,Bool.false_or,Bool.and_eq_true,Bool.and_eq_true] at this
  obtain ⟨h1,h2,h3⟩:=this
  refine ⟨h1,fun j hj hne=>?_,fun j hj hw=>?_⟩
  · have:=List.all_eq_true.1 h2 j hj
    rw [beq_ff hne,Bool.false_or] at this
    exact this
  · have:=List.all_eq_true.1 h3 j (List.mem_range.2 hj)
    rw [hw] at this
    exact reach_of (by simpa using this)
theorem cutF_at {c t:Nat}:∀ {rs:List Nat} {f:Tv},(∀ j∈rs,dstOf l j ≠ some t)→(cutF l c rs f).get t=f.get t
  | [],f,_=>rfl
  | j :: r,f,h=>by
    unfold cutF
    rw [cutF_at fun k hk=>h k (by simp [hk])]
    cases Nat.beq j c with
    | true=>rfl
    | false =>
      simp only [cond_false]
      split
      · rename_i s hs
        rw [Tv.get_cut,if_neg (fun e=>h j (by simp) (by rw [hs,e]))]
      · rfl
theorem one_dst {m:Nat} {l0:List Oper} {f f':Tv} {A A':Hp} {o:Oper} (e:OneS P m l0 f A o f' A'):f'=f∨∃ d,o.dst=some d∧∀ s,s ≠ d→f'.get s=f.get s:=by
  have key:∀ {v:AV},dstM m f o.dst v=some f'→f'=f∨∃ d,o.dst=some d∧∀ s,s ≠ d→f'.get s=f.get s:=fun {v} h=>by
    rcases dst_some h with ⟨_,rfl⟩ | ⟨t,hd,_,rfl⟩
    · exact .inl rfl
    · exact .inr ⟨t,hd,fun s hs=>by rw [Tv.get_set,if_neg hs]⟩
  cases e with
  | act v hgt hdo hdst=>exact key hdst
  | pass hgt hA hdst=>exact key hdst
theorem act_ok {c : Nat} {o : Oper} (ho : l[c]? = some o) {L : Array Bool} {rs : List Nat} (hrs : Region.ready .any l.toArray L = rs) (hcr : c ∈ rs) {f f' : Tv} (hap : apartE P n.n l f c rs = true)
    {A A':Hp} {Zs:List (Nat × Nat)} {Z:Nat→Nat→Prop} {zs:List Nat} (hzs:∀ i β,(i,β)∈Zs→reachB l.toArray 4 c i=false→β∈zs) (hlive:zs.all (liveB A)=true)
    (e:OneS P n.n l (cutF l c rs f) { A with pr:=zs++A.pr } o f' A') {σ0:Sg} {A0:Hp} {h0:Heap} {σ:Sg} (hZ:ZOf σ Zs Z) {w0:World}
    (next:∀ σ' g' a' w' Lc' E B,Stp σ0 A0 h0 σ' { A' with pr:=A.pr } w'.heap→FrL σ' f' g'→Rep n a' g'→Lis l.length (L.setIfInBounds c true) Lc' E→Closed l.toArray Lc'→(∀ i,E.contains i=true→i∈Region.ready .any l.toArray (L.setIfInBounds c true)) →
      Erl P l f' σ' { A' with pr:=A.pr } w'.heap a' h0.size E B→ZOf σ' Zs Z→(∀ i b,Z i b→b < w'.heap.size)→Same w0 w'→wpG P l.toArray Q Z (cntU l.length Lc') Lc' a' w') :
    ∀ (N:Nat) (Lc:Array Bool) (E:List Nat) (B:Nat→Nat) (g:Fr) (a:Act) (w:World),cntU l.length Lc=N→E.contains c=false→Lis l.length L Lc E→Closed l.toArray Lc→(∀ i,E.contains i=true→i∈rs) →
      Erl P l f σ A w.heap a h0.size E B→Stp σ0 A0 h0 σ A w.heap→FrL σ (cutF l c rs f) g→Rep n a g→(∀ i b,Z i b→b < w.heap.size)→Same w0 w→wpG P l.toArray Q Z N Lc a w:=by
  have hcu:L.getD c true=false:=(mem_ready.1 (hrs▸hcr)).1
  intro N
  induction N with
  | zero =>
    intro Lc E B g a w hN hEc hL _ _ _ _ _ _ _ _
    exfalso
    have h1:Lc.getD c true=false:=by rw [hL.at_,hcu,hEc];rfl
    have:=cntU_set (n:=l.length) (i:=c) hL.szc (hL.lt hcu) h1
    omega
  | succ N ih =>
    intro Lc E B g a w hN hEc hL hcl hEr hErl hst hf ha hZw hsm
    have hcu':Lc.getD c true=false:=by rw [hL.at_,hcu,hEc];rfl
    have hcrc:c∈Region.ready .any l.toArray Lc:=hL.ready (hrs▸hcr) hEc
    refine ⟨fun h=>(by rw [h] at hcrc;cases hcrc),fun j hj=>?_⟩
    have hju:=(mem_ready.1 hj).1
    have hjl:L.getD j true=false∧E.contains j=false:=by
      have:=hL.at_ j
      rw [hju] at this
      exact Bool.or_eq_false_iff.1 this.symm
    have hcnt:cntU l.length (Lc.setIfInBounds j true)=N:=by
      have:=cntU_set (n:=l.length) (i:=j) hL.szc (hL.lt hjl.1) hju
      omega
    by_cases hjc:j=c
    · subst hjc
      refine wpOp_one ho e hf ((Hp.with_pr _ _ _ _).2 hst.hr) ha fun σ' g' a' w' hs hf' ha' hsm' htm=>⟨fun i b hz hnr=>?_,?_⟩
      · rcases hZ i b hz with ⟨β,p,hm,hp,hpn,hpb⟩ | ⟨us,hus⟩
        case inr=>exact hs.keep b (hZw i b hz) fun hw=>(hst.hr.frz b us hus).2 (show Lv σ { A with pr:=zs++A.pr } b from Lv.wr hw)
        have hβ:β∈zs:=hzs i β hm (by cases h:reachB l.toArray 4 j i with | false=>rfl | true=>exact absurd (reach_of h) hnr)
        have hlv:=List.all_eq_true.1 hlive β hβ
        unfold liveB at hlv
        split at hlv
        · rename_i ob hob
          obtain ⟨q,hq,hor⟩:=hst.hr.obj β ob hob
          rw [hp] at hq
          injection hq with hq
          subst hq
          refine hs.keep b (hZw i b hz) fun hwr=>?_
          cases hlb:ob.live with
          | false =>
            cases ob with
            | frz t l =>
              obtain ⟨us,h5,_⟩:=hor.2.2.1 hpn
              exact (hst.hr.frz _ us h5).2 (hpb▸show Lv σ { A with pr:=zs++A.pr } b from Lv.wr hwr)
            | _=>cases hlb
          | true =>
          obtain ⟨β',o',p',k1,kl,k2,k3,kn,k4⟩:=hwr
          have:=hst.hr.inj β' β o' ob p' p k1 hob kl hlb k3 hp kn hpn b k4 (.inl hpb)
          subst this
          simp only [List.contains_append,Bool.or_eq_false_iff] at k2
          have:=k2.1
          rw [List.contains_iff_mem.2 hβ] at this
          cases this
        · cases hlv
      · have hs2:=Stp.less hst.hr hs
        have:=next σ' g' a' w' (Lc.setIfInBounds j true) E B (hst.trans hs2) hf' ha' (hL.both hcu hEc) (hcl.set hj) (fun i hi=>ready_mono (hrs▸hEr i hi) (fun e=>by subst e;rw [hEc] at hi;cases hi))
          ⟨fun i hi=>by
            obtain ⟨t,oi,k,cs,T,us,q1,⟨qd,qg⟩,qn,q2,q3,q4,q5,q6⟩:=hErl.at_ i hi
            have hij:i ≠ j:=fun e=>by subst e;rw [hEc] at hi;cases hi
            have hdt:dstOf l i=some t:=by unfold dstOf;rw [q1];exact qd
            have hbl:=lt_of_some q4
            refine ⟨t,oi,k,cs,T,us,q1,⟨qd,qg⟩,?_,q2.mono hs2.le,htm t _ (fun ed=>?_) q3,?_,q5.step hs2 hbl,q6⟩
            · -- its operands are as they were
              rw [← qn]
              refine nwM_congr (l:=l) fun s hs=>?_
              have hsj:∀ k∈rs,dstOf l k ≠ some s:=fun k hk hd=>look_spec hap (hEr i hi) hk q1 hd hs
              have h1:=cutF_at (l:=l) (c:=j) (f:=f) hsj
              rcases one_dst e with h2 | ⟨d,hd,h2⟩
              · rw [h2,h1]
              · rw [h2 s (fun e=>hsj j hcr (by unfold dstOf;rw [ho,e];exact hd)),h1]
            · exact dst_ne ((apart_spec hap (hEr i hi) hij).2.1 j hcr hij) hdt (by unfold dstOf;rw [ho];exact ed) rfl
            · rw [q5.keep hs2 hbl];exact q4,hErl.inj⟩
          (hZ.mono hs2.le) (fun i b hz=>Nat.lt_of_lt_of_le (hZw i b hz) hs2.size) (hsm.trans hsm')
        rw [hcnt] at this
        exact this
    · -- one that comes up early
      have hjr:j∈rs:=by
        rw [← hrs]
        obtain ⟨_,oj,hoj,hall⟩:=mem_ready.1 hj
        refine mem_ready.2 ⟨hjl.1,oj,hoj,fun e he hb=>?_⟩
        have h1:=hall e he hb
        cases hE:E.contains e.on with
        | false =>
          have h2:=hL.at_ e.on
          rw [hE,Bool.or_false] at h2
          rcases Nat.lt_or_ge e.on l.length with h' | h'
          · have a1:e.on < L.size:=by rw [hL.sz];exact h'
            have a2:e.on < Lc.size:=by rw [hL.szc];exact h'
            simp [a2] at h1 h2
            simp [a1] at h2 ⊢
            rw [← h2];exact h1
          · have a2:Lc.size≤e.on:=by rw [hL.szc];exact h'
            simp [Array.getElem?_eq_none a2] at h1
        | true =>
          exfalso
          have hne:e.on ≠ c:=fun h=>by rw [h,hEc] at hE;cases hE
          have hw:=(apart_spec hap (hEr _ hE) hne).2.2 j (hL.lt hjl.1) (waits_iff.2 ⟨oj,hoj,e,he,hb,rfl⟩)
          exact ready_reach hcl hj hcu' hw
      obtain ⟨h1,h2,_⟩:=apart_spec hap hjr hjc
      obtain ⟨t,oj,⟨cs,T,k⟩,q1,qd,qg,q2,q3,q4⟩:=al_spec h1
      have hoj:l.toArray[j]?=some oj:=by simpa using q1
      have hgo:goes g l oj=true:=by unfold goes;rw [qg]
      have q3':nwM P (cutF l c rs f) oj=some (cs,T,k):=by
        rw [← q3]
        exact nwM_congr (l:=l) fun s hs=>cutF_at (l:=l) (c:=c) fun i hi hd=>look_spec hap hjr hi q1 hd hs
      obtain ⟨us,hcs,hrun⟩:=nw_ok q3' σ g w.heap hf
      unfold wpOp
      simp only [hoj,if_pos (goes_wanted ha hgo)]
      refine .inl ?_
      unfold Oper.wp
      obtain ⟨u,w',hs,⟨b,hu,hnew1,hnew2,hnew3⟩,hrun⟩:=hrun a.eval w ha.agrees rfl
      subst hu
      have fin:(∀ i b',Z i b'→¬ Reach l.toArray j i→w'.heap[b']?=w.heap[b']?)∧wpG P l.toArray Q Z N (Lc.setIfInBounds j true) (a.put (some t) (nwV oj k b)) w':=by
        refine ⟨fun i b' hz _=>?_,?_⟩
        · exact hnew3.keep _ (hZw i b' hz) nos
        · have hdt : ∀ i, E.contains i = true → ∀ t', dstOf l i = some t' → t' ≠ t := fun i hi t' hd => by
            have hij:i ≠ j:=fun e=>by subst e;rw [hjl.2] at hi;cases hi
            have hic:i ≠ c:=fun e=>by subst e;rw [hEc] at hi;cases hi
            exact dst_ne ((apart_spec hap (hEr i hi) hic).2.1 j hjr hij) hd q4
          refine ih (Lc.setIfInBounds j true) (j :: E) (fun i=>if i=j then b else B i) _ _ w' hcnt ?_ (hL.early hjl.1) (hcl.set hj) ?_ ⟨fun i hi=>?_,fun i i' hi hi' hb=>?_⟩ (hst.trans (.ext hst.hr hnew3)) (hf.beside (cutF_gone q4 hjc hjr)) (ha.put q2 _) (fun i b hz=>Nat.lt_of_lt_of_le (hZw i b hz) hnew3.size) (hsm.trans hs)
          · rw [List.contains_cons,hEc,Bool.or_false]
            exact beq_false_of_ne (fun e=>hjc e.symm)
          · intro i hi
            rw [List.contains_cons,Bool.or_eq_true] at hi
            rcases hi with hi | hi
            · have:=eq_of_beq hi;subst this;exact hjr
            · exact hEr i hi
          · by_cases hij:i=j
            · subst hij
              refine ⟨t,oj,k,cs,T,us,q1,⟨qd,qg⟩,q3,hcs,?_,?_,?_,?_⟩
              · have hts:=ha.put q2 (nwV oj k b)
                rw [if_pos rfl]
                exact hts.at_ t _ (by rw [Fr.get_cons,if_pos rfl])
              · rw [if_pos rfl];exact hnew2
              · rw [if_pos rfl]
                refine ⟨fun ⟨β,o',p,k1,kl,k3,kn,k4⟩=>?_,?_,?_⟩
                · rcases k4 with k4 | k4
                  · have:=hst.hr.ltb β p k3 kn
                    omega
                  · have:=(hst.hr.exl _ _ k4.2).2
                    omega
                · cases ez:σ.fz b with
                  | none=>rfl
                  | some us2 =>
                    obtain ⟨⟨t2,z2,h5⟩,_⟩:=hst.hr.frz b us2 ez
                    have:=lt_of_some h5
                    omega
                · cases ez:σ.ex b with
                  | nil=>rfl
                  | cons c l =>
                    have:=(hst.hr.exl b c (by rw [ez];simp)).1
                    omega
              · rw [if_pos rfl]
                have:=hst.size
                omega
            · have hi' : E.contains i = true := by
                rw [List.contains_cons,Bool.or_eq_true] at hi
                rcases hi with hi | hi
                · exact absurd (eq_of_beq hi) hij
                · exact hi
              obtain ⟨t',oi,k',cs',T',us',r1,⟨rd,rg⟩,rn,r2,r3,r4,r5,r6⟩:=hErl.at_ i hi'
              refine ⟨t',oi,k',cs',T',us',r1,⟨rd,rg⟩,rn,r2,?_,?_,?_,?_⟩
              · rw [if_neg hij]
                show (a.tmps.setIfInBounds t _)[t']?=_
                rw [Array.getElem?_setIfInBounds_ne (hdt i hi' t' (by unfold dstOf;rw [r1];exact rd)).symm]
                exact r3
              · rw [if_neg hij];exact hnew3.obj r4 nos
              · rw [if_neg hij];exact r5
              · rw [if_neg hij];exact r6
          · have out : ∀ i, (j :: E).contains i = true → i ≠ j → E.contains i = true := fun i hi hij => by
              rw [List.contains_cons,Bool.or_eq_true] at hi
              rcases hi with hi | hi
              · exact absurd (eq_of_beq hi) hij
              · exact hi
            have lt:∀ i,E.contains i=true→B i < w.heap.size:=fun i hi=>by
              obtain ⟨t',oi,k',cs',T',us',r1,rd,rn,r2,r3,r4,r5,r6⟩:=hErl.at_ i hi
              exact lt_of_some r4
            by_cases h3:i=j <;> by_cases h4:i'=j
            · rw [h3,h4]
            · exfalso
              simp only [if_pos h3,if_neg h4] at hb
              have:=lt i' (out i' hi' h4)
              omega
            · exfalso
              simp only [if_neg h3,if_pos h4] at hb
              have:=lt i (out i hi h3)
              omega
            · simp only [if_neg h3,if_neg h4] at hb
              exact hErl.inj i i' (out i hi h3) (out i' hi' h4) hb
      have hdo:a.put oj.dst (nwV oj k b)=a.put (some t) (nwV oj k b):=by rw [qd]
      rcases hrun with hrun | ⟨hrun,he⟩
      · rw [hrun];show _∧wpG P l.toArray Q Z N _ (a.put oj.dst _) w';rw [hdo];exact fin
      · exfalso
        have hne:∀ b,nwV oj k b ≠ undef:=fun b=>by unfold nwV;split <;> exact fun e=>by cases e
        exact hne _ he
end
end Go.RK
namespace Go.RK
open Go
open Go.RK.Uni (Ty El)
open Go.RK.Byt (bT)
variable [Uni]
section
variable {P:Program} {l:List Oper} {n:Env} {Q:Exit→Act→World→Prop}
omit [Uni] in
theorem pickR_spec {i:Nat}:∀ {rs:List Nat},pickR P l rs=some i→i∈rs∧∃ o,l[i]?=some o∧isRd P o=true
  | [],h=>by cases h
  | j :: r,h=>by
    unfold pickR at h
    split at h
    · rename_i o ho
      cases hr:isRd P o with
      | true =>
        rw [hr] at h
        simp only [cond_true,Option.some.injEq] at h
        subst h
        exact ⟨by simp,o,ho,hr⟩
      | false =>
        rw [hr] at h
        obtain ⟨h1,h2⟩:=pickR_spec h
        exact ⟨List.mem_cons_of_mem _ h1,h2⟩
    · obtain ⟨h1,h2⟩:=pickR_spec h
      exact ⟨List.mem_cons_of_mem _ h1,h2⟩
theorem read_step {r : Nat} {o : Oper} (ho : l[r]? = some o) (hsel : ∀ o ∈ l, notSel o.op = true) (hQ : ∀ c a w, ¬ Q (.panic c) a w) {L : Array Bool} (hrl : r ∈ Region.ready .any l.toArray L) (hfree : Region.free .any l.toArray L r = true) (hrd : isRd P o = true)
    {f f':Tv} {A:Hp} {v:AV} {h0:Heap} {σ:Sg} {g:Fr} {a:Act} {w:World} {Lc:Array Bool} {E:List Nat} {B:Nat→Nat} {bs:List Nat} {Z Z':Nat→Nat→Prop}
    (hd:dstM n.n f o.dst v=some f') (hval:∃ u,Va σ v u∧YieldsIf P l.toArray (fun w'=>∀ b,((∃ β p,β∈bs∧σ β=some p∧p.nw=false∧p.b=b)∨∃ us,σ.fz b=some us)→w'.heap[b]?=w.heap[b]?) o u a)
    (hZ':∀ i b,Z' i b ↔ Z i b∨(i=r∧((∃ β p,β∈bs∧σ β=some p∧p.nw=false∧p.b=b)∨∃ us,σ.fz b=some us)))
    (hL:Lis l.length L Lc E) (hcl:Closed l.toArray Lc) (hEr:∀ i,E.contains i=true→i∈Region.ready .any l.toArray L) (hErl:Erl P l f σ A w.heap a h0.size E B) (hf:FrL σ f g) (ha:Rep n a g)
    (next:∀ g' a' Lc',Lis l.length (L.setIfInBounds r true) Lc' E→Closed l.toArray Lc'→(∀ i,E.contains i=true→i∈Region.ready .any l.toArray (L.setIfInBounds r true))→Erl P l f' σ A w.heap a' h0.size E B→FrL σ f' g'→Rep n a' g'→wpG P l.toArray Q Z' (cntU l.length Lc') Lc' a' w) :
    wpG P l.toArray Q Z (cntU l.length Lc) Lc a w:=by
  have hru:L.getD r true=false:=(mem_ready.1 hrl).1
  have hrE:E.contains r=false:=by
    cases h:E.contains r with
    | false=>rfl
    | true =>
      obtain ⟨t,oi,k,cs,T,us,q1,_,qn,_⟩:=hErl.at_ r h
      rw [ho] at q1
      injection q1 with q1
      subst q1
      rw [(nw_not qn).1] at hrd
      cases hrd
  have hrc:Lc.getD r true=false:=by rw [hL.at_,hru,hrE];rfl
  obtain ⟨u,hv,hy⟩:=hval
  have hoa:l.toArray[r]?=some o:=by simpa using ho
  have hcnt:=cntU_set (n:=l.length) (i:=r) hL.szc (hL.lt hru) hrc
  rw [hcnt]
  refine wpG.mono (fun i b hz=>(hZ' i b).2 (.inl hz)) ?_
  have hsel':∀ (j:Nat) (o:Oper) cs b,l.toArray[j]?=some o→o.op ≠ .select cs b:=fun j oj cs b hj he=>by
    have:=hsel oj (List.mem_of_getElem? (by simpa using hj))
    rw [he] at this
    cases this
  refine wpG_first hoa hsel' (fun c a w q=>absurd q (hQ _ _ _)) (fun b=>(∃ β p,β∈bs∧σ β=some p∧p.nw=false∧p.b=b)∨∃ us,σ.fz b=some us) (fun b=>w.heap[b]?) (fun b hb=>(hZ' r b).2 (.inr ⟨rfl,hb⟩)) _ Lc a w hcl ?_ (hL.ready hrl hrE) hy (fun _ _=>rfl) ?_
  · intro j oj hj hne hun hno
    refine Region.free_spec hoa hfree j oj hj hne ?_ hno
    have:=hL.at_ j
    rw [hun] at this
    exact (Bool.or_eq_false_iff.1 this.symm).1
  · have hap : ∀ i, E.contains i = true → ∀ oi, l[i]? = some oi → (∀ d, o.dst = some d → d ∉ Oper.looksAt l.toArray oi) ∧ ∀ d, o.dst = some d → oi.dst ≠ some d := fun i hi oi q1 => by
      have hil:=hEr i hi
      have hir:i ≠ r:=fun e=>by subst e;rw [hrE] at hi;cases hi
      have:=Region.free_spec hoa hfree i oi (by simpa using q1) hir (mem_ready.1 hil).1 (fun e he' hb heq=>by
        have h1:=ready_waits hil (waits_iff.2 ⟨oi,by simpa using q1,e,he',hb,rfl⟩)
        rw [heq,listed_false hru] at h1
        cases h1)
      obtain ⟨h1,h2,_⟩:=Oper.apart_spec this
      exact ⟨h1,h2⟩
    have hErl':Erl P l f' σ A w.heap (a.put o.dst u) h0.size E B:=⟨fun i hi=>by
      obtain ⟨t,oi,k,cs,T,us,q1,⟨qd,qg⟩,qn,q2,q3,q4,q5,q6⟩:=hErl.at_ i hi
      obtain ⟨hl1,hl2⟩:=hap i hi oi q1
      refine ⟨t,oi,k,cs,T,us,q1,⟨qd,qg⟩,?_,q2,?_,q4,q5,q6⟩
      · rw [← qn]
        refine nwM_congr (l:=l) fun s hs=>?_
        rcases dst_some hd with ⟨_,rfl⟩ | ⟨d,hdd,_,rfl⟩
        · rfl
        · rw [Tv.get_set,if_neg (fun (e:s=d)=>hl1 d hdd (by rw [← e];exact hs))]
      · cases hdd:o.dst with
        | none=>exact q3
        | some s =>
          show (a.tmps.setIfInBounds s u)[t]?=_
          rw [Array.getElem?_setIfInBounds_ne (fun e=>hl2 s hdd (by rw [qd,e]))]
          exact q3,hErl.inj⟩
    rcases dst_some hd with ⟨hdd,rfl⟩ | ⟨t,hdd,hb,rfl⟩
    · exact next g _ _ (hL.both hru hrE) (hcl.set (hL.ready hrl hrE)) (fun i hi=>ready_mono (hEr i hi) (fun e=>by subst e;rw [hrE] at hi;cases hi)) hErl' hf (by rw [hdd];exact ha)
    · exact next ((t,u) :: g) _ _ (hL.both hru hrE) (hcl.set (hL.ready hrl hrE)) (fun i hi=>ready_mono (hEr i hi) (fun e=>by subst e;rw [hrE] at hi;cases hi)) hErl' (hf.set hv t) (by rw [hdd];exact ha.put hb _)
theorem Erl.same {f f':Tv} {σ:Sg} {A:Hp} {h:Heap} {a:Act} {N0:Nat} {E:List Nat} {B:Nat→Nat} (x:Erl P l f σ A h a N0 E B) (e:∀ s,f'.get s=f.get s):Erl P l f' σ A h a N0 E B:=⟨fun i hi=>by
  obtain ⟨t,o,n,cs,T,us,q1,q2,q3,q4⟩:=x.at_ i hi
  exact ⟨t,o,n,cs,T,us,q1,q2,(nwM_congr (l:=l) fun s _=>e s).trans q3,q4⟩,x.inj⟩
theorem drawK_some [Byt] {R : Type} {C : CallK R} (hC : COk P C) (hsel : ∀ o ∈ l, notSel o.op = true) {m : Nat} {κ : Tv → Hp → Option R} {r : R} :
    ∀ (k:Nat) (L:Array Bool) (Zs:List (Nat × Nat)) (f:Tv) (A:Hp),drawK P C m l k L Zs f A κ=some r→∃ f' A',κ f' A'=some r ∧
    ∀ {n:Env} {Q:Exit→Act→World→Prop} (_:n.n=m) (_:∀ c a w,¬ Q (.panic c) a w) {σ0:Sg} {A0:Hp} {h0:Heap} {w0:World} (_:∀ σ' g' a' w',Stp σ0 A0 h0 σ' A' w'.heap→FrL σ' f' g'→Rep n a' g'→Same w0 w'→Q .normal a' w')
      (σ:Sg) (g:Fr) (a:Act) (w:World) (Lc:Array Bool) (E:List Nat) (B:Nat→Nat) (Z:Nat→Nat→Prop),Stp σ0 A0 h0 σ A w.heap→FrL σ f g→Rep n a g→Lis l.length L Lc E→Closed l.toArray Lc →
      (∀ i,E.contains i=true→i∈Region.ready .any l.toArray L)→Erl P l f σ A w.heap a h0.size E B→ZOf σ Zs Z→(∀ i b,Z i b→b < w.heap.size)→Same w0 w→wpG P l.toArray Q Z (cntU l.length Lc) Lc a w:=by
  intro k
  induction k with
  | zero=>intro L Zs f A e;cases e
  | succ k ih =>
    intro L Zs f A e
    unfold drawK at e
    obtain ⟨rs,hrs'⟩:∃ rs,Region.ready .any l.toArray L=rs:=⟨_,rfl⟩
    rw [hrs'] at e
    cases rs with
    | nil =>
      -- all have come up
      have hrs:=hrs'
      refine ⟨f,A,e,?_⟩
      intro n Q hn hQ σ0 A0 h0 w0 hend σ g a w Lc E B Z hst hf ha hL hcl hEr hErl hZ hZw hsm
      have hE:∀ i,E.contains i=false:=fun i=>by
        cases h:E.contains i with
        | false=>rfl
        | true=>have:=hEr i h;rw [hrs] at this;cases this
      have hrc:Region.ready .any l.toArray Lc=[]:=by
        refine List.eq_nil_iff_forall_not_mem.2 fun i hi=>?_
        obtain ⟨h1,oi,hoi,hall⟩:=mem_ready.1 hi
        have hg:∀ k,Lc.getD k true=L.getD k true:=fun k=>by rw [hL.at_,hE k,Bool.or_false]
        have:i∈Region.ready .any l.toArray L:=mem_ready.2 ⟨by rw [← hg];exact h1,oi,hoi,fun e he hb=>by
          have h2:=hall e he hb
          have h3:=hg e.on
          rcases Nat.lt_or_ge e.on l.length with h' | h'
          · have a1:e.on < L.size:=by rw [hL.sz];exact h'
            have a2:e.on < Lc.size:=by rw [hL.szc];exact h'
            simp [a2] at h2 h3
            simp [a1] at h3 ⊢
            rw [← h3];exact h2
          · have a2:Lc.size≤e.on:=by rw [hL.szc];exact h'
            simp [Array.getElem?_eq_none a2] at h2⟩
        rw [hrs] at this
        cases this
      have hq:=hend σ g a w hst hf ha hsm
      cases hN:cntU l.length Lc with
      | zero=>exact ⟨hrc,hq⟩
      | succ N=>exact ⟨fun _=>hq,fun j hj=>by rw [hrc] at hj;cases hj⟩
    | cons x0 xs0 =>
      simp only at e
      obtain ⟨rs,hrs2⟩:∃ rs,x0 :: xs0=rs:=⟨_,rfl⟩
      rw [hrs2] at e hrs'
      split at e
      · -- one that reads
        rename_i r' hpick
        obtain ⟨hrm,o,ho,hrd⟩:=pickR_spec hpick
        rw [ho] at e
        simp only at e
        have goOn : ∀ {f : Tv} {bs : List Nat} {f2 : Tv} {v : AV}, dstM m f o.dst v = some f2 → Region.free .any l.toArray L r' = true → drawK P C m l k (L.setIfInBounds r' true) (bs.map (fun b => (r', b)) ++ Zs) f2 A κ = some r →
            (∀ {n:Env} (_:n.n=m) (σ:Sg) (g:Fr) (a:Act) (w:World),FrL σ f g→HR σ A w.heap→Rep n a g→∃ u,Va σ v u∧YieldsIf P l.toArray (fun w'=>∀ b,((∃ β p,β∈bs∧σ β=some p∧p.nw=false∧p.b=b)∨∃ us,σ.fz b=some us)→w'.heap[b]?=w.heap[b]?) o u a) →
            ∃ f' A',κ f' A'=some r∧∀ {n:Env} {Q:Exit→Act→World→Prop} (_:n.n=m) (_:∀ c a w,¬ Q (.panic c) a w) {σ0:Sg} {A0:Hp} {h0:Heap} {w0:World} (_:∀ σ' g' a' w',Stp σ0 A0 h0 σ' A' w'.heap→FrL σ' f' g'→Rep n a' g'→Same w0 w'→Q .normal a' w')
              (σ:Sg) (g:Fr) (a:Act) (w:World) (Lc:Array Bool) (E:List Nat) (B:Nat→Nat) (Z:Nat→Nat→Prop),Stp σ0 A0 h0 σ A w.heap→FrL σ f g→Rep n a g→Lis l.length L Lc E→Closed l.toArray Lc →
              (∀ i,E.contains i=true→i∈Region.ready .any l.toArray L)→Erl P l f σ A w.heap a h0.size E B→ZOf σ Zs Z→(∀ i b,Z i b→b < w.heap.size)→Same w0 w→wpG P l.toArray Q Z (cntU l.length Lc) Lc a w:=fun {f bs f2 v} hd hfree he hval=>by
          obtain ⟨f',A',h1,h2⟩:=ih _ _ _ _ he
          refine ⟨f',A',h1,?_⟩
          intro n Q hn hQ σ0 A0 h0 w0 hend σ g a w Lc E B Z hst hf ha hL hcl hEr hErl hZ hZw hsm
          refine read_step (Z':=fun i b=>Z i b∨(i=r'∧((∃ β p,β∈bs∧σ β=some p∧p.nw=false∧p.b=b)∨∃ us,σ.fz b=some us))) ho hsel hQ (hrs'▸hrm) hfree hrd (by rw [hn];exact hd) (hval hn σ g a w hf hst.hr ha) (fun _ _=>Iff.rfl) hL hcl hEr hErl hf ha fun g' a' Lc' q1 q2 q3 q4 q5 q6=>?_
          refine h2 hn hQ hend σ g' a' w Lc' E B _ hst q5 q6 q1 q2 q3 q4 (fun i b hz=>?_) (fun i b hz=>?_) hsm
          · rcases hz with hz | ⟨rfl,⟨β,p,h1,h2,h3⟩ | hus⟩
            · rcases hZ i b hz with ⟨β,p,h1,h2⟩ | hus
              · exact .inl ⟨β,p,List.mem_append_right _ h1,h2⟩
              · exact .inr hus
            · exact .inl ⟨β,p,List.mem_append_left _ (List.mem_map.2 ⟨β,h1,rfl⟩),h2,h3⟩
            · exact .inr hus
          · rcases hz with hz | ⟨rfl,⟨β,p,h1,h2,h3,h4⟩ | ⟨us,hus⟩⟩
            · exact hZw i b hz
            · rw [← h4];exact hst.hr.ltb β p h2 h3
            · obtain ⟨⟨t,z,h5⟩,_⟩:=hst.hr.frz b us hus
              exact lt_of_some h5
        obtain ⟨f0,e,hf0⟩:=gsK_some e
        have back : (∃ f' A', κ f' A' = some r ∧ ∀ {n : Env} {Q : Exit → Act → World → Prop} (_ : n.n = m) (_ : ∀ c a w, ¬ Q (.panic c) a w) {σ0 : Sg} {A0 : Hp} {h0 : Heap} {w0 : World} (_ : ∀ σ' g' a' w', Stp σ0 A0 h0 σ' A' w'.heap → FrL σ' f' g' → Rep n a' g' → Same w0 w' → Q .normal a' w')
              (σ:Sg) (g:Fr) (a:Act) (w:World) (Lc:Array Bool) (E:List Nat) (B:Nat→Nat) (Z:Nat→Nat→Prop),Stp σ0 A0 h0 σ A w.heap→FrL σ f0 g→Rep n a g→Lis l.length L Lc E→Closed l.toArray Lc →
              (∀ i,E.contains i=true→i∈Region.ready .any l.toArray L)→Erl P l f0 σ A w.heap a h0.size E B→ZOf σ Zs Z→(∀ i b,Z i b→b < w.heap.size)→Same w0 w→wpG P l.toArray Q Z (cntU l.length Lc) Lc a w) →
            ∃ f' A',κ f' A'=some r∧∀ {n:Env} {Q:Exit→Act→World→Prop} (_:n.n=m) (_:∀ c a w,¬ Q (.panic c) a w) {σ0:Sg} {A0:Hp} {h0:Heap} {w0:World} (_:∀ σ' g' a' w',Stp σ0 A0 h0 σ' A' w'.heap→FrL σ' f' g'→Rep n a' g'→Same w0 w'→Q .normal a' w')
              (σ:Sg) (g:Fr) (a:Act) (w:World) (Lc:Array Bool) (E:List Nat) (B:Nat→Nat) (Z:Nat→Nat→Prop),Stp σ0 A0 h0 σ A w.heap→FrL σ f g→Rep n a g→Lis l.length L Lc E→Closed l.toArray Lc →
              (∀ i,E.contains i=true→i∈Region.ready .any l.toArray L)→Erl P l f σ A w.heap a h0.size E B→ZOf σ Zs Z→(∀ i b,Z i b→b < w.heap.size)→Same w0 w→wpG P l.toArray Q Z (cntU l.length Lc) Lc a w:=fun hx=>by
          obtain ⟨f',A',h1,h2⟩:=hx
          refine ⟨f',A',h1,?_⟩
          intro n Q hn hQ σ0 A0 h0 w0 hend σ g a w Lc E B Z q1 q2 q3 q4 q5 q6 q7
          exact h2 hn hQ hend σ g a w Lc E B Z q1 (q2.same hf0) q3 q4 q5 q6 (q7.same hf0)
        refine back ?_
        split at e
        case h_2=>cases e
        rename_i g0 hgt
        obtain ⟨hfree,e⟩:=bif_some e
        cases g0 with
        | true =>
          simp only [cond_true] at e
          obtain ⟨v,bs,e,hrd⟩:=rdK_some e
          obtain ⟨f2,hd,e⟩:=dstK_some e
          refine goOn hd hfree e fun {n} hn σ g a w hf hk ha=>?_
          obtain ⟨u,h1,h2⟩:=hrd σ g w.heap hf hk
          refine ⟨u,h1,.inl ⟨goes_wanted ha ((gate_ok hgt hf).1 rfl),fun w' hw'=>h2 w'.heap (fun β p hβ hp hpn=>hw' p.b (.inl ⟨β,p,hβ,hp,hpn,rfl⟩)) (fun b us hus=>?_) a.eval w' ha.agrees rfl⟩⟩
          obtain ⟨⟨t,z,h5⟩,_⟩:=hk.frz b us hus
          exact ⟨t,z,(hw' b (.inr ⟨us,hus⟩)).trans h5⟩
        | false =>
          simp only [cond_false] at e
          obtain ⟨f2,hd,e⟩:=dstK_some e
          exact goOn (bs:=[]) hd hfree (by simpa using e) fun {n} hn σ g a w hf hk ha=>⟨undef,.tuple .nil,.inr ⟨stops_wanted ha ((gate_ok hgt hf).2 rfl),rfl⟩⟩
      · -- one that acts
        split at e
        case h_2=>cases e
        rename_i c hpick
        split at e
        case h_2=>cases e
        rename_i o ho
        obtain ⟨f0,e,hf0⟩:=gsK_some e
        let zs:=(Zs.filter fun z => !reachB l.toArray 4 c z.1).map (·.2)
        change (bif rs.contains c && (apartE P m l f0 c rs && zs.all (liveB A)) then _ else _)=_ at e
        obtain ⟨hb,e⟩:=bif_some e
        simp only [Bool.and_eq_true] at hb
        obtain ⟨hcr,hap,hlive⟩:=hb
        have hcr:c∈rs:=List.contains_iff_mem.1 hcr
        obtain ⟨f2,A2,hk1,hone,hlateO⟩:=oneK_late hC e
        obtain ⟨f',A',hk2,hrest⟩:=ih _ _ _ _ hk1
        refine ⟨f',A',hk2,?_⟩
        intro n Q hn hQ σ0 A0 h0 w0 hend σ g a w Lc E B Z hst hf ha hL hcl hEr hErl hZ hZw hsm
        subst hn
        have hf:=hf.same hf0
        have hErl:=hErl.same hf0
        have hzs:∀ i β,(i,β)∈Zs→reachB l.toArray 4 c i=false→β∈zs:=fun i β hm hr=>List.mem_map.2 ⟨(i,β),List.mem_filter.2 ⟨hm,by simp [hr]⟩,rfl⟩
        cases hEc:E.contains c with
        | false =>
          refine act_ok ho hrs' hcr hap hzs hlive hone hZ (w0:=w0) ?_ _ Lc E B g a w rfl hEc hL hcl (fun i hi=>hrs'▸hEr i hi) hErl hst hf.cutF ha hZw hsm
          intro σ' g' a' w' Lc' E' B' q1 q2 q3 q4 q5 q6 q7 q8 q9 q10
          exact hrest rfl hQ hend σ' g' a' w' Lc' E' B' Z q1 q2 q3 q4 q5 q6 q7 q8 q9 q10
        | true =>
          -- it came up early
          obtain ⟨t,oc,k',cs,T,us,q1,⟨qd,qg⟩,qn,q2,q3,q4,q5,q6⟩:=hErl.at_ c hEc
          rw [ho] at q1
          injection q1 with q1
          subst q1
          have qn':nwM P (cutF l c rs f0) o=some (cs,T,k'):=by
            rw [← qn]
            exact nwM_congr (l:=l) fun s hs=>cutF_at (l:=l) (c:=c) fun i hi hd=>look_spec hap hcr hi ho hd hs
          obtain ⟨v,hlate,hd⟩:=hlateO qg _ _ _ qn'
          obtain ⟨σ1,A1,ob,p,s1,hA2,hpn,hpb,hor,hva⟩:=hlate σ w.heap us (B c) ((Hp.with_pr _ _ _ _).2 hst.hr) q2 q4
          have s1':=Stp.less hst.hr s1
          have hoff:Off σ1 { A1 with pr:=A.pr } p.b:=by rw [hpb];exact q5.step s1' (lt_of_some q4)
          have hst':=(hst.trans s1').adopt (p:=p) (o:=ob) hpn (by rw [hpb];exact lt_of_some q4) hoff (by rw [hpb];exact q6) hor
          have hA2':({ A2 with pr:=A.pr }:Hp)=({ A1 with pr:=A.pr }:Hp).new ob:=by rw [hA2];rfl
          rw [← hA2'] at hst'
          have hle:Le σ (RK.upd σ1 A1.nx p):=s1'.le.trans (s1'.hr.le_upd p)
          have hL':=hL.late hEc
          have hin:∀ i,(E.filter fun k => !Nat.beq k c).contains i=true→E.contains i=true∧i ≠ c:=fun i hi=>by
            have:=List.mem_filter.1 (List.contains_iff_mem.1 hi)
            refine ⟨List.contains_iff_mem.2 this.1,fun e=>?_⟩
            have h2:=this.2
            rw [e] at h2
            simp at h2
          rcases dst_some hd with ⟨hdd,_⟩ | ⟨t',hdd,hbt,rfl⟩
          · rw [qd] at hdd;cases hdd
          rw [qd] at hdd
          injection hdd with hdd
          subst hdd
          refine hrest rfl hQ hend _ ((t,nwV o k' (B c)) :: g) a w Lc (E.filter fun k => !Nat.beq k c) B Z hst' ?_ (ha.with q3) hL' hcl ?_ ⟨?_,?_⟩ (hZ.mono hle) hZw hsm
          · exact ((hf.cutF (l:=l) (c:=c) (rs:=rs)).mono hle).set hva t
          · intro i hi
            obtain ⟨h1,h2⟩:=hin i hi
            exact ready_mono (hEr i h1) h2
          · intro i hi
            obtain ⟨h1,h2⟩:=hin i hi
            obtain ⟨t',oi,k2,cs',T',us',r1,rd,rn,r2,r3,r4,r5,r6⟩:=hErl.at_ i h1
            refine ⟨t',oi,k2,cs',T',us',r1,rd,?_,r2.mono hle,r3,r4,?_,r6⟩
            · rw [← rn]
              refine nwM_congr (l:=l) fun s hs=>?_
              have hsj:∀ k∈rs,dstOf l k ≠ some s:=fun k hk hd=>look_spec hap (hrs'▸hEr i h1) hk r1 hd hs
              rw [Tv.get_set,if_neg (fun e=>hsj c hcr (by unfold dstOf;rw [ho,e];exact qd)),cutF_at hsj]
            · have r5':=r5.step s1' (lt_of_some r4)
              refine ⟨fun ⟨β,o',p2,k1,kl,k2,kn,k3⟩=>?_,r5'.2⟩
              rw [hA2'] at k1
              simp only [Hp.new] at k1
              rw [Tx.get_set] at k1
              by_cases hβ:β=A1.nx
              · subst hβ
                rw [upd_new] at k2
                injection k2 with k2
                subst k2
                rcases k3 with k3 | k3
                · exact h2 (hErl.inj i c h1 hEc (k3.symm.trans hpb))
                · have k3:=k3.2
                  rw [show (RK.upd σ1 A1.nx p).ex p.b=[] from hoff.2.2] at k3;cases k3
              · rw [if_neg hβ] at k1
                rw [upd_ne _ _ hβ] at k2
                exact r5'.1 ⟨β,o',p2,k1,kl,k2,kn,k3⟩
          · intro i j hi hj hb
            exact hErl.inj i j (hin i hi).1 (hin j hj).1 hb
end
end Go.RK
namespace Go.RK
open Go
open Go.RK.Uni (Ty El)
open Go.RK.Byt (bT)
def YieldH (P:Program) (l:Nat) (args:List Value) (h:Heap) (R:Value→Heap→Prop):Prop :=
  ∀ w:World,w.heap=h→∃ fn tmps assign body,(Instr.yield l ⟨args⟩).run P w=.ok (.round l fn tmps assign body) w ∧
    RoundIn (wd Option.none) 0 P l fn tmps assign body w fun e w'=>Same w w'∧∃ v,e=.returned v∧R v w'.heap
theorem YieldH.mono {P:Program} {l:Nat} {args:List Value} {h:Heap} {R R':Value→Heap→Prop} (hy:YieldH P l args h R) (hr:∀ v h',R v h'→R' v h'):YieldH P l args h R':=fun w hw=>by
  obtain ⟨fn,tmps,assign,body,h1,h2⟩:=hy w hw
  exact ⟨fn,tmps,assign,body,h1,h2.mono fun e w' ⟨hs,v,he,hv⟩=>⟨hs,v,he,hr _ _ hv⟩⟩
def WY (P:Program) (n:Env) (l0 l:List Oper) (Q:Post) (f:Fr) (h:Heap):Prop:=∀ a w,Rep n a f→w.heap=h→wpListIn (wd n.ro) 0 P l0.toArray (toAct n Q w) l a w
section
variable {P:Program} {n:Env} {Q:Post} {f:Fr} {h:Heap} {l0 rest:List Oper}
theorem WY.nil {l0:List Oper} (hq:Q .normal f h):WY P n l0 [] Q f h:=fun _ w ha hw=>wpListIn_nil ⟨rfl,.refl w,f,ha,hw▸hq⟩
theorem uponIn_imp {F:Fence} {o:Oper} {a:Act} {K K':Act→World→Prop} {Q Q':Exit→Act→World→Prop} (hK:∀ a w,K a w→K' a w) (hQ:∀ e a w,Q e a w→Q' e a w) {r:Result Next} (h:o.uponIn F 0 P a K Q r):o.uponIn F 0 P a K' Q' r:=by
  cases r with
  | ok x w2 =>
    cases x <;> simp only [Oper.uponIn] at h ⊢ <;> first | exact hK _ _ h | exact h | skip
    · refine ⟨h.1,h.2.mono fun e w3 he=>?_⟩
      cases e with
      | returned v=>exact hK _ _ he
      | panicked c=>exact hQ _ _ _ he
      | outgrown=>obtain ⟨a0,w0,q⟩:=he;exact ⟨a0,w0,hQ _ _ _ q⟩
    · refine ⟨h.1,h.2.mono fun e w3 he=>?_⟩
      cases e with
      | returned v=>exact hK _ _ he
      | panicked c=>exact hQ _ _ _ he
      | outgrown=>obtain ⟨a0,w0,q⟩:=he;exact ⟨a0,w0,hQ _ _ _ q⟩
    · exact ⟨h.1,h.2.mono fun v w3 he=>hK _ _ he⟩
  | halt x w2=>cases x <;> simp only [Oper.uponIn] at h ⊢ <;> first | exact hQ _ _ _ h | exact h
theorem listIn_imp {F:Fence} {ops:Array Oper} {Q Q':Exit→Act→World→Prop} (hQ:∀ e a w,Q e a w→Q' e a w):∀ (l:List Oper) (a:Act) (w:World),wpListIn F 0 P ops Q l a w→wpListIn F 0 P ops Q' l a w
  | [],a,w,h=>hQ _ _ _ h
  | o :: l,a,w,h=>by
    unfold wpListIn at h ⊢
    split
    · rename_i hw
      rw [if_pos hw] at h
      exact ⟨h.1,uponIn_imp (fun a w k=>listIn_imp hQ l a w k) hQ h.2⟩
    · rename_i hw
      rw [if_neg hw] at h
      exact ⟨h.1,listIn_imp hQ l _ _ h.2⟩
theorem WY.run {o : Oper} {R : Value → Heap → Prop} (hok : OkR P f o h R) (hg : goes f l0 o = true)
    (hk:∀ v h' a w,R v h'→Rep n a f→w.heap=h'→wpListIn (wd n.ro) 0 P l0.toArray (toAct n Q w) rest (a.put o.dst v) w) (hro:n.ro=Option.none:=by rfl):WY P n l0 (o :: rest) Q f h:=by
  intro a w ha hw
  unfold wpListIn
  rw [if_pos (goes_wanted ha hg)]
  refine ⟨fun _ _=>trivial,?_⟩
  show o.uponIn (wd n.ro) 0 P a _ _ ((o.semAt n.ro a.eval).run P w)
  rw [semAt_of (.inl hro)]
  obtain ⟨v,w',hs,hR,hrun⟩:=hok a.eval w ha.agrees hw
  have hk':=listIn_imp (fun _ _ _ q=>toAct.trans hs q) _ _ _ (hk v w'.heap a w' hR ha rfl)
  rcases hrun with hrun | ⟨hrun,rfl⟩ <;> rw [hrun] <;> exact hk'
theorem WY.step {o:Oper} {v:Value} {t:Nat} (hok:OkP P f o h v) (hg:goes f l0 o=true) (hd:o.dst=some t) (ht:Nat.blt t n.n=true) (hk:WY P n l0 rest Q ((t,v) :: f) h) (hro:n.ro=Option.none:=by rfl):WY P n l0 (o :: rest) Q f h :=
  .run hok.r hg (by rintro v h' a w ⟨rfl,rfl⟩ ha hw;rw [hd];exact hk _ w (ha.put ht _) hw) hro
theorem WY.pass {o:Oper} {t:Nat} (hg:stops f l0 o=true) (hd:o.dst=some t) (ht:Nat.blt t n.n=true) (hk:WY P n l0 rest Q ((t,undef) :: f) h):WY P n l0 (o :: rest) Q f h:=by
  intro a w ha hw
  unfold wpListIn
  rw [if_neg (by rw [stops_wanted ha hg];exact Bool.false_ne_true),hd]
  exact ⟨fun _ _=>trivial,hk _ w (ha.put ht _) hw⟩
theorem WY.part {l:List Oper} (t:Nat) {b:Bool} (hb:f.get t=some (.bool b)) (h1:b=true→WY P n l0 l Q ((t,.bool true) :: f) h) (h2:b=false→WY P n l0 l Q ((t,.bool false) :: f) h):WY P n l0 l Q f h:=by
  cases b
  · exact fun a w ha hw=>h2 rfl a w (ha.sub_set hb) hw
  · exact fun a w ha hw=>h1 rfl a w (ha.sub_set hb) hw
theorem evals {xs:List Operand} {vs:List Value} {a:Act} (ha:Rep n a f) (hx:xs.map f.ev=vs.map some):Array.map a.eval ⟨xs⟩=⟨vs⟩:=by
  have:xs.map a.eval=vs:=by
    induction xs generalizing vs with
    | nil=>cases vs <;> simp_all
    | cons x xs ih =>
      cases vs with
      | nil=>simp at hx
      | cons v vs =>
        simp only [List.map_cons,List.cons.injEq] at hx ⊢
        exact ⟨ha.agrees _ _ hx.1,ih hx.2⟩
  rw [← this];simp
theorem WY.call {o : Oper} {t : Nat} {k : FuncId} {xs : List Operand} {vs : List Value} {ts : Array TypeId} {R : Value → Heap → Prop} (ho : o.op = .call { callee := .value (.func k), args := ⟨xs⟩, argTypes := ts })
    (hc:∀ (args:Array Value) (w:World),(callFunc k args).run P w=.ok (.enter k args) w)
    (hx:xs.map f.ev=vs.map some) (hR:CallsH P k ⟨vs⟩ h R) (hg:goes f l0 o=true) (hd:o.dst=some t) (ht:Nat.blt t n.n=true) (hk:∀ v h',R v h'→WY P n l0 rest Q ((t,v) :: f) h') (hro:n.ro=Option.none:=by rfl):WY P n l0 (o :: rest) Q f h:=by
  intro a w ha hw
  unfold wpListIn
  rw [if_pos (goes_wanted ha hg)]
  refine ⟨fun _ _=>trivial,?_⟩
  show o.uponIn (wd n.ro) 0 P a _ _ ((o.semAt n.ro a.eval).run P w)
  rw [semAt_of (.inl hro)]
  have hrun:(execOp a.eval o).run P w=.ok (.enter k ⟨vs⟩) w:=by
    simp [execOp,ho,resolve,Deferred.ofValue,invoke,Act.eval,evals ha hx,hc]
  rw [hrun]
  refine ⟨fun e=>(by cases e),(calls_wide (hR w hw)).mono fun e w' ⟨hs,v,he,hv⟩=>?_⟩
  subst he
  rw [hd]
  exact listIn_imp (fun _ _ _ q=>toAct.trans hs q) _ _ _ (hk v _ hv _ w' (ha.put ht _) rfl)
theorem WY.yield {o : Oper} {t s l : Nat} {xs : List Operand} {vs : List Value} {ts : Array TypeId} {R : Value → Heap → Prop} (ho : o.op = .call { callee := .value (.tmp s), args := ⟨xs⟩, argTypes := ts })
    (hf:f.get s=some (.func (.yield l) #[] #[]))
    (hx:xs.map f.ev=vs.map some) (hR:YieldH P l vs h R) (hg:goes f l0 o=true) (hd:o.dst=some t) (ht:Nat.blt t n.n=true) (hk:∀ v h',R v h'→WY P n l0 rest Q ((t,v) :: f) h') (hro:n.ro=Option.none:=by rfl):WY P n l0 (o :: rest) Q f h:=by
  intro a w ha hw
  unfold wpListIn
  rw [if_pos (goes_wanted ha hg)]
  refine ⟨fun _ _=>trivial,?_⟩
  show o.uponIn (wd n.ro) 0 P a _ _ ((o.semAt n.ro a.eval).run P w)
  rw [semAt_of (.inl hro)]
  have hf':a.eval (.tmp s)=.func (.yield l) #[] #[]:=ha.agrees (.tmp s) _ hf
  obtain ⟨fn,tmps,assign,body,hy,hround⟩:=hR w hw
  have hrun:(execOp a.eval o).run P w=.ok (.round l fn tmps assign body) w:=by
    simp [execOp,ho,resolve,hf',Deferred.ofValue,evals ha hx,invoke,hy]
  rw [hrun]
  refine ⟨fun e=>(by cases e),?_⟩
  rw [hro]
  refine hround.mono fun e w' ⟨hs,v,he,hv⟩=>?_
  subst he
  rw [hd]
  have:=listIn_imp (fun _ _ _ q=>toAct.trans hs q) _ _ _ (hk v _ hv _ w' (ha.put ht _) rfl)
  rw [hro] at this
  exact this
end
def SeqH (P:Program) (k:FuncId) (lb:List Value) {α:Type} (enc:α→List Value) (L:List α) (rd:Nat→Prop) (h:Heap):Prop :=
  ∀ (X:Type) (J:Nat→X→Heap→Prop) (Jx:X→Heap→Prop) (own:X→Nat→Prop) (l:Nat) (x0:X),J 0 x0 h→l < h.size→¬ rd l →
    (∀ k x h',J k x h'→∀ b,own x b→b < h'.size∧¬ rd b) →
    (∀ k x h1 h2 (S:Nat→Prop),J k x h1→Ext S h1 h2→(∀ b,S b→b < h1.size→h.size≤b∧¬ own x b)→J k x h2) →
    (∀ k x h1 a,J k x h1→L[k]?=some a→YieldH P l (enc a) h1 fun v h2=>∃ x',Ext (fun b=>own x b∨b=l) h1 h2∧(∀ b,own x' b→own x b∨h1.size≤b)∧((v=.bool true∧J (k+1) x' h2)∨(v=.bool false∧Jx x' h2))) →
    CallsH P k ⟨.func (.yield l) #[] #[] :: lb⟩ h fun _ h'=>∃ x,J L.length x h'∨Jx x h'
def dmark (D:Nat):Deferred:={ target:=.collected D,args:=#[] }
def open_ (h:Heap) (D:Nat):Prop:=h[D]?=some (.deferred (some []))
def toD (m:Nat) (Q:List Nat→Post) (w0:World):Exit→Act→World→Prop:=fun e a w=>calm e=true∧Same w0 w∧∃ Ds f,Rep ⟨m,Ds.map dmark,Option.none⟩ a f∧Q Ds e f w.heap
def WD (P:Program) (m:Nat) (Ds:List Nat) (c:Code) (Q:List Nat→Post) (f:Fr) (h:Heap):Prop:=∀ a w,Rep ⟨m,Ds.map dmark,Option.none⟩ a f→w.heap=h→c.wpIn (wd Option.none) 0 P (toD m Q w) a w
@[reducible] def thenD (K:List Nat→Fr→Heap→Prop) (Q:List Nat→Post):List Nat→Post:=fun Ds=>thenP (K Ds) (Q Ds)
@[reducible] def blockD (id:Nat) (Q:List Nat→Post):List Nat→Post:=fun Ds=>blockP id (Q Ds)
theorem toD.trans {m:Nat} {Q:List Nat→Post} {w0 w1:World} (hs:Same w0 w1) {e:Exit} {a:Act} {w:World} (h:toD m Q w1 e a w):toD m Q w0 e a w:=⟨h.1,hs.trans h.2.1,h.2.2⟩
section
variable {P:Program} {m:Nat} {Ds:List Nat} {Q:List Nat→Post} {f:Fr} {h:Heap}
theorem WD.sub {c:Code} (g:Fr) (hs:SubL g f) (hc:WD P m Ds c Q g h):WD P m Ds c Q f h:=fun a w ha hw=>hc a w (ha.sub hs) hw
theorem WD.seq {x y:Code} (hx:WD P m Ds x (thenD (fun Ds'=>WD P m Ds' y Q) Q) f h):WD P m Ds (.seq x y) Q f h:=by
  intro a w ha hw
  refine wpIn_seq (wpIn_mono (hx a w ha hw) ?_)
  rintro e a' w' ⟨hl,hs,Ds',g,hg,q⟩
  cases e
  case normal=>exact wpIn_mono (q a' w' hg rfl) fun _ _ _ hq=>hq.trans hs
  all_goals exact ⟨hl,hs,Ds',g,hg,q⟩
theorem WD.block {id:Nat} {c:Code} (hc:WD P m Ds c (blockD id Q) f h):WD P m Ds (.block id c) Q f h:=by
  intro a w ha hw
  refine wpIn_block (wpIn_mono (hc a w ha hw) ?_)
  rintro e a' w' ⟨hl,hs,Ds',g,hg,q⟩
  cases e with
  | exit i =>
    simp only [Exit.inBlock,blockP] at q ⊢
    by_cases hi:i=id
    · rw [if_pos hi] at q ⊢;exact ⟨rfl,hs,Ds',g,hg,q⟩
    · rw [if_neg hi] at q ⊢;exact ⟨rfl,hs,Ds',g,hg,q⟩
  | normal=>exact ⟨hl,hs,Ds',g,hg,q⟩
  | goto l=>exact ⟨hl,hs,Ds',g,hg,q⟩
  | ret=>exact ⟨hl,hs,Ds',g,hg,q⟩
  | panic ch=>cases hl
  | outgrown=>cases hl
def zipF:List Nat→List Value→Fr→Fr
  | p :: ps,v :: vs,f=>zipF ps vs ((p,v) :: f)
  | _,_,f=>f
def noP:Post:=fun _ _ _=>False
def rndP {X:Type} (J:X→Heap→Prop) (Jx:Exit→X→Heap→Prop) (own:X→Nat→Prop) (x:X) (h:Heap):Post:=fun e _ h' =>
  ∃ x',Ext (own x) h h'∧(∀ b,own x' b→own x b∨h.size≤b)∧(match e with
    | .normal=>J x' h'
    | .ret=>Jx .ret x' h'
    | .exit i=>Jx (.exit i) x' h'
    | _=>False)
theorem blt_of {d n:Nat} (hd:d < n):Nat.blt d n=true:=by
  have h1:d+1≤n:=hd
  simpa [Nat.blt,Nat.ble_eq] using h1
theorem zip_rep {n : Env} : ∀ (ps : List Nat) (vs : List Value) (a : Act) (f : Fr), Rep n a f → (∀ p ∈ ps, p < n.n) →
    Rep n { a with tmps:=(ps.zip vs).foldl (fun tmps (t,v)=>tmps.setIfInBounds t v) a.tmps } (zipF ps vs f)
  | [],_,a,f,ha,_=>by simpa [zipF] using ha
  | p :: ps,[],a,f,ha,_=>by simpa [zipF] using ha
  | p :: ps,v :: vs,a,f,ha,hp=>by
    have h1:Rep n (a.put (some p) v) ((p,v) :: f):=ha.put (blt_of (hp p (by simp))) v
    exact zip_rep ps vs _ _ h1 fun q hq=>hp q (by simp [hq])
def jumpOf:Exit→Code
  | .ret=>.ret
  | .exit i=>.exit i
  | _=>.skip
theorem WD.rangeA {g : Operand} {ps : List Tmp} {assign body : Code} {k : FuncId} {lb : List Value} {α : Type} {enc : α → List Value} {L : List α}
    (hg:f.ev g=some (.func (.func k) #[] ⟨lb⟩)) (hcf:∀ (args:Array Value) (w:World),(callFunc k args).run P w=.ok (.enter k args) w)
    {rd:Nat→Prop} (hseq:∀ h',Ext No h h'→SeqH P k lb enc L rd h') (hrd:∀ b,rd b→b < h.size) (hlen:∀ a,(enc a).length=ps.length) (hps:ps.all (fun p=>Nat.blt p m)=true)
    {X:Type} (J:Nat→X→Heap→Prop) (Jx:Exit→X→Heap→Prop) (own:X→Nat→Prop) (x0:X) (h0:∀ h',Ext No h h'→J 0 x0 h')
    (hown:∀ k x h',J k x h'→∀ b,own x b→b < h'.size∧¬ rd b) (hown0:∀ b,own x0 b→b < h.size)
    (hst:∀ k x h1 h2 (S:Nat→Prop),J k x h1→Ext S h1 h2→(∀ b,S b→b < h1.size→h.size≤b∧¬ own x b)→J k x h2)
    (hstx:∀ e x h1 h2 (S:Nat→Prop),Jx e x h1→Ext S h1 h2→(∀ b,S b→b < h1.size→h.size≤b∧¬ own x b)→Jx e x h2)
    (hbody:∀ l k x h1 a,L[k]?=some a→J k x h1→l < h1.size→WC P ⟨m,[],some l⟩ assign (thenP (fun f' h'=>Ext No h1 h'∧∀ h2,Ext (fun b=>b=l) h' h2→J k x h2→WC P ⟨m,[],some l⟩ body (rndP (J (k+1)) Jx own x h2) f' h2) noP) (zipF ps (enc a) f) h1)
    (hdone:∀ D x h',J L.length x h'→open_ h' D→h.size≤D→¬ own x D→Q (D :: Ds) .normal f h')
    (hret:∀ D x h',Jx .ret x h'→open_ h' D→h.size≤D→¬ own x D→Q (D :: Ds) .ret f h')
    (hexit:∀ D i x h',Jx (.exit i) x h'→open_ h' D→h.size≤D→¬ own x D→Q (D :: Ds) (.exit i) f h'):WD P m Ds (.rangeFunc g ⟨ps⟩ assign body) Q f h:=by
  intro a w ha hw
  subst hw
  refine wpIn_rangeFunc fun fn _=>?_
  have hlt:∀ p∈ps,p < m:=fun p hp=>blt_lt (List.all_eq_true.1 hps p hp)
  have hev:a.eval g=.func (.func k) #[] ⟨lb⟩:=ha.agrees _ _ hg
  -- the record
  let rec0:Loop:={ state:=.ready,pending:=Option.none,fn,tmps:=a.tmps,params:=⟨ps⟩,assign,body,defers:=w.heap.size }
  let w1:World:=(w.alloc (.deferred (some []))).alloc (.loop rec0)
  have hw1:w1.heap=(w.heap.push (.deferred (some []))).push (.loop rec0):=rfl
  have hx1:Ext No w.heap w1.heap:=(Ext.push No _ _).trans (Ext.push No _ _)
  have hsz1:w1.heap.size=w.heap.size+2:=by rw [hw1];simp
  have hsame1:Same w w1:=⟨rfl,rfl,rfl,trivial⟩
  have hl1:w1.heap[w.heap.size+1]?=some (.loop rec0):=by
    rw [hw1];have:=push_new (w.heap.push (.deferred (some []))) (.loop rec0);simpa using this
  have hD1:open_ w1.heap w.heap.size:=by
    have:=push_new w.heap (.deferred (some []))
    exact (Ext.push No _ _).obj this id
  refine ⟨w.heap.size+1,[dmark w.heap.size],w1,⟨.fn (.func k) ⟨lb⟩,#[.func (.yield (w.heap.size+1)) #[] #[]]⟩,w1,k,⟨.func (.yield (w.heap.size+1)) #[] #[] :: lb⟩,w1,run_enterLoop_outer _ _ _ _ _,?_,fun _ _=>trivial,?_,fun e=>(by cases e),?_⟩
  · show (Deferred.ofValue (a.eval g) (Array.map a.eval #[.const (.func (.yield (w.heap.size+1)) #[] #[])])).run P w1=_
    rw [hev]
    simp [Deferred.ofValue,Act.eval]
  · show (callFunc k (#[Value.func (.yield (w.heap.size+1)) #[] #[]]++(⟨lb⟩:Array Value))).run P w1=_
    rw [show (#[Value.func (.yield (w.heap.size+1)) #[] #[]]++(⟨lb⟩:Array Value))=⟨.func (.yield (w.heap.size+1)) #[] #[] :: lb⟩ by simp]
    exact hcf _ _
  -- what the rounds keep
  generalize hl:w.heap.size+1=l at *
  generalize hD:w.heap.size=D at *
  have hDle:D≤D:=Nat.le_refl _
  have hlle:D≤l:=by omega
  let J':Nat→X→Heap→Prop:=fun k x h'=>J k x h'∧h'[l]?=some (.loop rec0)∧open_ h' D∧¬ own x l∧¬ own x D
  let Jx':X→Heap→Prop:=fun x h'=>∃ e,(e=.ret∨∃ i,e=.exit i)∧Jx e x h'∧h'[l]?=some (.loop { rec0 with state:=.done,pending:=some (jumpOf e) })∧open_ h' D∧¬ own x l∧¬ own x D
  have hc:=hseq w1.heap hx1 X J' Jx' own l x0
    ⟨h0 _ hx1,hl1,hD1,fun e=>by have:=hown0 _ e;omega,fun e=>by have:=hown0 _ e;omega⟩ (by omega) (fun e=>by have:=hrd _ e;omega)
    (fun k x h' hJ=>hown k x h' hJ.1)
    (fun k x h1 h2 S ⟨hJ,q1,q2,q3,q4⟩ hx hS=>⟨hst k x h1 h2 S hJ hx (fun b hb hlt=>⟨by have:=(hS b hb hlt).1;omega,(hS b hb hlt).2⟩),hx.obj q1 (fun e=>by have:=(hS _ e (lt_of_some q1)).1;omega),hx.obj q2 (fun e=>by have:=(hS _ e (lt_of_some q2)).1;omega),q3,q4⟩)
    ?_
  · refine (calls_wide (hc w1 rfl)).mono ?_
    rintro e w3 ⟨hs3,v,rfl,x,hx⟩
    show ∃ jump w₄,_
    rcases hx with ⟨hJ,q1,q2,q3,q4⟩ | ⟨e,he,hJ,q1,q2,q3,q4⟩
    · refine ⟨_,_,run_endLoop q1 (by simp [rec0]),?_⟩
      have hx4:Ext (fun b=>b=l) w3.heap (w3.putObj l (.loop { rec0 with state:=.exhausted })).heap:=.set _ _ _ rfl
      refine ⟨rfl,hsame1.trans (hs3.trans ⟨rfl,rfl,rfl,trivial⟩),D :: Ds,f,⟨ha.size,by simp [ha.defers],ha.at_⟩,?_⟩
      exact hdone D x _ (hst _ x _ _ _ hJ hx4 (fun b hb _=>by subst hb;exact ⟨hlle,q3⟩)) (hx4.obj q2 (by omega)) hDle q4
    · refine ⟨_,_,run_endLoop q1 (by simp),?_⟩
      have hx4:Ext (fun b=>b=l) w3.heap (w3.putObj l (.loop { rec0 with state:=.exhausted,pending:=some (jumpOf e) })).heap:=.set _ _ _ rfl
      have hJ4:=hstx e x _ _ _ hJ hx4 (fun b hb _=>by subst hb;exact ⟨hlle,q3⟩)
      have hD4:open_ (w3.putObj l (.loop { rec0 with state:=.exhausted,pending:=some (jumpOf e) })).heap D:=hx4.obj q2 (by omega)
      have hs4:Same w (w3.putObj l (.loop { rec0 with state:=.exhausted,pending:=some (jumpOf e) })):=hsame1.trans (hs3.trans ⟨rfl,rfl,rfl,trivial⟩)
      rcases he with rfl | ⟨i,rfl⟩
      · exact wpIn_ret ⟨rfl,hs4,D :: Ds,f,⟨ha.size,by simp [ha.defers],ha.at_⟩,hret D x _ hJ4 hD4 hDle q4⟩
      · exact wpIn_exit ⟨rfl,hs4,D :: Ds,f,⟨ha.size,by simp [ha.defers],ha.at_⟩,hexit D i x _ hJ4 hD4 hDle q4⟩
  · rintro k x h1 y ⟨hJ,q1,q2,q3,q4⟩ hy wA hwA
    subst hwA
    refine ⟨fn,_,assign,body,run_yield q1 (by simp [rec0,hlen]),?_⟩
    refine roundIn_of_wpIn trivial ?_
    have hrep:Rep ⟨m,[],some l⟩ { tmps:=((⟨ps⟩:Array Tmp).zip ⟨enc y⟩).foldl (fun tmps (t,v)=>tmps.setIfInBounds t v) a.tmps,defers:=[] } (zipF ps (enc y) f):=by
      have:=zip_rep (n:=⟨m,[],some l⟩) ps (enc y) { a with defers:=[] } f ⟨ha.size,rfl,ha.at_⟩ hlt
      simpa using this
    refine wpIn_mono (hbody l k x wA.heap y hy hJ (lt_of_some q1) _ _ hrep rfl) ?_
    rintro e a1 w2 ⟨hcalm,hs2,f',hf',hq⟩
    cases e with
    | normal =>
      obtain ⟨hx0,hq⟩:=hq
      have q1':=hx0.obj q1 nos
      have q2':open_ w2.heap D:=hx0.obj q2 nos
      refine ⟨_,run_beginRound q1' rfl,?_⟩
      have hxb:Ext (fun b=>b=l) w2.heap (w2.putObj l (.loop { rec0 with state:=.busy })).heap:=.set _ _ _ rfl
      have hJ2:J k x (w2.putObj l (.loop { rec0 with state:=.busy })).heap:=hst k x _ _ _ (hst k x _ _ No hJ hx0 (fun _ e=>e.elim)) hxb (fun b hb _=>by subst hb;exact ⟨hlle,q3⟩)
      have hlb:(w2.putObj l (.loop { rec0 with state:=.busy })).heap[l]?=some (.loop { rec0 with state:=.busy }):=set_new q1'
      have hDb:open_ (w2.putObj l (.loop { rec0 with state:=.busy })).heap D:=hxb.obj q2' (by omega)
      have hxA:Ext (fun b=>own x b∨b=l) wA.heap (w2.putObj l (.loop { rec0 with state:=.busy })).heap:=(hx0.mono fun _ _ e=>e.elim).trans (hxb.mono fun b _ e=>.inr e)
      refine wpIn_mono (hq _ hxb hJ2 a1 (w2.putObj l (.loop { rec0 with state:=.busy })) hf' rfl) ?_
      rintro e a3 w3 ⟨hcalm3,hs3,f3,hf3,x',hx3,ho3,hq3⟩
      have hl3:w3.heap[l]?=some (.loop { rec0 with state:=.busy }):=hx3.obj hlb q3
      have hD3:open_ w3.heap D:=hx3.obj hDb q4
      have hltl:=lt_of_some hlb
      have hltD:=lt_of_some hDb
      have hno:∀ c,(c=l∨c=D)→¬ own x' c:=fun c hc e=>by
        rcases ho3 c e with e1 | e1
        · rcases hc with rfl | rfl
          · exact q3 e1
          · exact q4 e1
        · rcases hc with rfl | rfl <;> omega
      have hsame:∀ o,Same wA (w3.putObj l o):=fun o=>hs2.trans ((⟨rfl,rfl,rfl,trivial⟩:Same w2 (w2.putObj l (.loop { rec0 with state:=.busy }))).trans (hs3.trans ⟨rfl,rfl,rfl,trivial⟩))
      have hfin:∀ o,Ext (fun b=>own x b∨b=l) wA.heap (w3.putObj l o).heap:=fun o =>
        (hxA.trans (hx3.mono fun b _ e=>.inl e)).trans ((Ext.set w3.heap l o rfl:Ext (fun b=>b=l) _ _).mono fun b _ e=>.inr e)
      have hset:∀ o,Ext (fun b=>b=l) w3.heap (w3.putObj l o).heap:=fun o=>.set _ _ _ rfl
      have hszA:wA.heap.size≤(w2.putObj l (.loop { rec0 with state:=.busy })).heap.size:=hxA.size
      have hown3:∀ b,own x' b→own x b∨wA.heap.size≤b:=fun b hb=>(ho3 b hb).imp id (fun h=>Nat.le_trans hszA h)
      cases e with
      | normal =>
        refine ⟨_,_,run_endRound Option.none hl3,hsame _,_,rfl,x',hfin _,hown3,.inl ⟨rfl,?_,?_,(hset _).obj hD3 (by omega),hno _ (.inl rfl),hno _ (.inr rfl)⟩⟩
        · exact hst _ x' _ _ _ hq3 (hset _) (fun b hb _=>by subst hb;exact ⟨hlle,hno _ (.inl rfl)⟩)
        · exact set_new hl3
      | ret =>
        refine ⟨_,_,run_endRound (some .ret) hl3,hsame _,_,rfl,x',hfin _,hown3,.inr ⟨rfl,.ret,.inl rfl,?_,?_,(hset _).obj hD3 (by omega),hno _ (.inl rfl),hno _ (.inr rfl)⟩⟩
        · exact hstx _ x' _ _ _ hq3 (hset _) (fun b hb _=>by subst hb;exact ⟨hlle,hno _ (.inl rfl)⟩)
        · exact set_new hl3
      | exit i =>
        refine ⟨_,_,run_endRound (some (.exit i)) hl3,hsame _,_,rfl,x',hfin _,hown3,.inr ⟨rfl,.exit i,.inr ⟨i,rfl⟩,?_,?_,(hset _).obj hD3 (by omega),hno _ (.inl rfl),hno _ (.inr rfl)⟩⟩
        · exact hstx _ x' _ _ _ hq3 (hset _) (fun b hb _=>by subst hb;exact ⟨hlle,hno _ (.inl rfl)⟩)
        · exact set_new hl3
      | goto t=>exact hq3.elim
      | panic c=>exact hq3.elim
      | outgrown=>exact hq3.elim
    | ret=>exact hq.elim
    | exit i=>exact hq.elim
    | goto t=>exact hq.elim
    | panic c=>cases hcalm
    | outgrown=>cases hcalm
theorem WD.range {g : Operand} {ps : List Tmp} {assign body : Code} {k : FuncId} {lb : List Value} {α : Type} {enc : α → List Value} {L : List α}
    (hg:f.ev g=some (.func (.func k) #[] ⟨lb⟩)) (hcf:∀ (args:Array Value) (w:World),(callFunc k args).run P w=.ok (.enter k args) w)
    {rd:Nat→Prop} (hseq:∀ h',Ext No h h'→SeqH P k lb enc L rd h') (hrd:∀ b,rd b→b < h.size) (hlen:∀ a,(enc a).length=ps.length) (hps:ps.all (fun p=>Nat.blt p m)=true)
    {X:Type} (J:Nat→X→Heap→Prop) (Jx:Exit→X→Heap→Prop) (own:X→Nat→Prop) (x0:X) (h0:∀ h',Ext No h h'→J 0 x0 h')
    (hown:∀ k x h',J k x h'→∀ b,own x b→b < h'.size∧¬ rd b) (hown0:∀ b,own x0 b→b < h.size)
    (hst:∀ k x h1 h2 (S:Nat→Prop),J k x h1→Ext S h1 h2→(∀ b,S b→b < h1.size→h.size≤b∧¬ own x b)→J k x h2)
    (hstx:∀ e x h1 h2 (S:Nat→Prop),Jx e x h1→Ext S h1 h2→(∀ b,S b→b < h1.size→h.size≤b∧¬ own x b)→Jx e x h2)
    (hbody:∀ l k x h1 a,L[k]?=some a→J k x h1→WC P ⟨m,[],some l⟩ assign (thenP (fun f' h'=>h'=h1∧∀ h2,J k x h2→WC P ⟨m,[],some l⟩ body (rndP (J (k+1)) Jx own x h2) f' h2) noP) (zipF ps (enc a) f) h1)
    (hdone:∀ D x h',J L.length x h'→open_ h' D→h.size≤D→¬ own x D→Q (D :: Ds) .normal f h')
    (hret:∀ D x h',Jx .ret x h'→open_ h' D→h.size≤D→¬ own x D→Q (D :: Ds) .ret f h')
    (hexit:∀ D i x h',Jx (.exit i) x h'→open_ h' D→h.size≤D→¬ own x D→Q (D :: Ds) (.exit i) f h'):WD P m Ds (.rangeFunc g ⟨ps⟩ assign body) Q f h :=
  .rangeA hg hcf hseq hrd hlen hps J Jx own x0 h0 hown hown0 hst hstx (fun l k x h1 a hL hJ _=>(hbody l k x h1 a hL hJ).mono fun e f' h' q=>by
    cases e with
    | normal=>exact ⟨by rw [q.1];exact .refl _ _,fun h2 _=>q.2 h2⟩
    | ret=>exact q
    | exit i=>exact q
    | goto t=>exact q
    | panic c=>exact q
    | outgrown=>exact q) hdone hret hexit
def shutAll:List Nat→Heap→Heap
  | [],h=>h
  | D :: Ds,h=>shutAll Ds (h.setIfInBounds D (.deferred Option.none))
def retD (P:Program) (fn:Func) (R:Value→Heap→Prop):List Nat→Post:=fun Ds e f h =>
  (e=.ret∨e=.normal)∧(∀ D∈Ds,open_ h D)∧Ds.Nodup∧∃ vs,ResL P (shutAll Ds h) f fn.results.toList vs∧R (tup vs) (shutAll Ds h)
theorem leaves_marks {fn : Func} {tmps : Array Value} {R : Ending → World → Prop} : ∀ (Ds : List Nat) (w : World), (∀ D ∈ Ds, open_ w.heap D) → Ds.Nodup →
    (∀ w',Same w w'→w'.heap=shutAll Ds w.heap→LeavesIn (wd Option.none) 0 P fn tmps R [] .returning w')→LeavesInM (wd Option.none) 0 P fn tmps R (Ds.map dmark) .returning w
  | [],w,_,_,h=>h w (.refl w) rfl
  | D :: Ds,w,ho,hn,h=>by
    obtain ⟨hn1,hn2⟩:=List.nodup_cons.1 hn
    refine ⟨(fun e=>by cases e),.inl ⟨D,_,rfl,run_takeDeferred (ho D (by simp)),?_⟩⟩
    refine leaves_marks Ds _ (fun D' hD'=>?_) hn2 (fun w' hs hw'=>h w' ((⟨rfl,rfl,rfl,trivial⟩:Same w (w.putObj D (.deferred Option.none))).trans hs) hw')
    exact set_old (fun e=>hn1 (e▸hD')) (ho D' (by simp [hD']))
theorem callsD {k : FuncId} {fn : Func} {c : Code} {args : List Value} {R : Value → Heap → Prop} (f0 : Fr) (hf : P.funcs[k]? = some fn) (hb : fn.body = some c) (hn : fn.ntmps = m) (hsz : Nat.ble args.length m = true) (ha : ArgL f0 args)
    (hc:WD P m [] c (retD P fn R) f0 h):CallsH P k ⟨args⟩ h R:=by
  intro w hw
  refine callsIn_wide (n:=0) |>.1 (callsIn_of_wp_marks hf hb trivial ?_)
  have hle:args.length≤m:=by simpa [Nat.ble_eq] using hsz
  refine wpIn_mono (hc _ w (rep_enter hn hle ha) hw) ?_
  rintro e a w' ⟨hl,hs,Ds,g,hg,he,ho,hnd,vs,hr,hR⟩
  have key:LeavesInM (wd Option.none) 0 P fn a.tmps (fun e w''=>Same w w''∧∃ v,e=.returned v∧R v w''.heap) a.defers .returning w':=by
    rw [hg.defers]
    refine leaves_marks Ds w' ho hnd fun w2 hs2 hw2=>⟨tup vs,?_,hs.trans hs2,_,rfl,hw2▸hR⟩
    exact run_results (P:=P) (n:=⟨m,Ds.map dmark,Option.none⟩) (h:=shutAll Ds w'.heap) hg hw2 hr
  rcases he with rfl | rfl <;> exact key
end
end Go.RK
namespace Go.RK
open Go
open Go.RK.Uni (Ty El)
open Go.RK.Byt (bT)
section
variable {P:Program} {m:Nat} {ro:Option Nat} {Ds:List Nat} {Q:List Nat→Post} {f:Fr} {h:Heap}
noncomputable def toE (m:Nat) (ro:Option Nat) (Q:List Nat→Post) (w0:World):Exit→Act→World→Prop:=fun e a w=>calm e=true∧Same w0 w∧∃ Ds f,Rep ⟨m,Ds.map dmark,ro⟩ a f∧Q Ds e f w.heap
noncomputable def WE (P:Program) (m:Nat) (ro:Option Nat) (Ds:List Nat) (c:Code) (Q:List Nat→Post) (f:Fr) (h:Heap):Prop:=∀ a w,Rep ⟨m,Ds.map dmark,ro⟩ a f→w.heap=h→c.wpIn (wd ro) 0 P (toE m ro Q w) a w
theorem toE.trans {w0 w1:World} (hs:Same w0 w1) {e:Exit} {a:Act} {w:World} (h:toE m ro Q w1 e a w):toE m ro Q w0 e a w:=⟨h.1,hs.trans h.2.1,h.2.2⟩
theorem WE.of {c:Code} (hc:WC P ⟨m,Ds.map dmark,ro⟩ c (Q Ds) f h):WE P m ro Ds c Q f h:=fun a w ha hw =>
  wpIn_mono (hc a w ha hw) fun _ _ _ ⟨hl,hs,g,hg,q⟩=>⟨hl,hs,Ds,g,hg,q⟩
theorem WE.mono {c:Code} {Q':List Nat→Post} (hc:WE P m ro Ds c Q f h) (hq:∀ Ds e f h,Q Ds e f h→Q' Ds e f h):WE P m ro Ds c Q' f h:=fun a w ha hw =>
  wpIn_mono (hc a w ha hw) fun _ _ _ ⟨hl,hs,Ds',g,hg,q⟩=>⟨hl,hs,Ds',g,hg,hq _ _ _ _ q⟩
theorem WE.seq {x y:Code} (hx:WE P m ro Ds x (thenD (fun Ds'=>WE P m ro Ds' y Q) Q) f h):WE P m ro Ds (.seq x y) Q f h:=by
  intro a w ha hw
  refine wpIn_seq (wpIn_mono (hx a w ha hw) ?_)
  rintro e a' w' ⟨hl,hs,Ds',g,hg,q⟩
  cases e
  case normal=>exact wpIn_mono (q a' w' hg rfl) fun _ _ _ hq=>hq.trans hs
  all_goals exact ⟨hl,hs,Ds',g,hg,q⟩
theorem WE.block {id:Nat} {c:Code} (hc:WE P m ro Ds c (blockD id Q) f h):WE P m ro Ds (.block id c) Q f h:=by
  intro a w ha hw
  refine wpIn_block (wpIn_mono (hc a w ha hw) ?_)
  rintro e a' w' ⟨hl,hs,Ds',g,hg,q⟩
  cases e with
  | exit i =>
    simp only [Exit.inBlock,blockP] at q ⊢
    by_cases hi:i=id
    · rw [if_pos hi] at q ⊢;exact ⟨rfl,hs,Ds',g,hg,q⟩
    · rw [if_neg hi] at q ⊢;exact ⟨rfl,hs,Ds',g,hg,q⟩
  | normal=>exact ⟨hl,hs,Ds',g,hg,q⟩
  | goto l=>exact ⟨hl,hs,Ds',g,hg,q⟩
  | ret=>exact ⟨hl,hs,Ds',g,hg,q⟩
  | panic ch=>cases hl
  | outgrown=>cases hl
theorem WE.cond_t {c:Operand} {x y:Code} (hc:f.ev c=some (.bool true)) (hx:WE P m ro Ds x Q f h):WE P m ro Ds (.cond c x y) Q f h:=fun a w ha hw =>
  wpIn_cond_split (ha.agrees _ _ hc) (fun _=>hx a w ha hw) (fun e=>by cases e)
theorem WE.cond_f {c:Operand} {x y:Code} (hc:f.ev c=some (.bool false)) (hy:WE P m ro Ds y Q f h):WE P m ro Ds (.cond c x y) Q f h:=fun a w ha hw =>
  wpIn_cond_split (ha.agrees _ _ hc) (fun e=>by cases e) (fun _=>hy a w ha hw)
noncomputable def LR (P:Program) (m:Nat) (ro:Option Nat) (c:Code) (Q:List Nat→Post):Nat→List Nat→Fr→Heap→Prop
  | 0,_,_,_=>False
  | k+1,Ds,f,h=>WE P m ro Ds c (thenD (LR P m ro c Q k) Q) f h
theorem LR.rounds {c:Code} {w0:World}:∀ {k:Nat} {Ds:List Nat} {f:Fr} {a:Act} {w:World},Same w0 w→LR P m ro c Q k Ds f w.heap→Rep ⟨m,Ds.map dmark,ro⟩ a f→Code.roundsIn (wd ro) 0 P c (toE m ro Q w0) k a w
  | 0,_,_,_,_,_,h,_=>h.elim
  | k+1,Ds,f,a,w,hs0,h,ha=>by
    rw [roundsIn_succ]
    refine wpIn_mono (h a w ha rfl) ?_
    rintro e a' w' ⟨hl,hs,Ds',g,hg,q⟩
    cases e
    case normal=>exact LR.rounds (hs0.trans hs) q hg
    all_goals exact ⟨hl,hs0.trans hs,Ds',g,hg,q⟩
theorem WE.loop {c:Code} (k:Nat) (hl:LR P m ro c Q k Ds f h):WE P m ro Ds (.loop c) Q f h:=fun a w ha hw=>by
  subst hw
  exact wpIn_loop_rounds k (LR.rounds (.refl w) hl ha)
theorem WE.scope {c:Code} (hc:WE P m Option.none Ds c (fun Ds=>scopeP (Q Ds)) f h):WE P m Option.none Ds (.scope c) Q f h:=fun a w ha hw =>
  wpIn_wide.2 (wp_scope_straight (Go.wp_mono (wpIn_wide.1 (hc a w ha hw)) fun e _ _ ⟨hl,hs,Ds',g,hg,q⟩=>by
    cases e <;> first | exact ⟨hl,hs,Ds',g,hg,q⟩ | exact q.elim))
end
variable [Uni]
noncomputable def DsOk (N0:Nat) (σ:Sg) (A:Hp) (h:Heap) (Ds:List Nat):Prop:=Ds.Nodup∧∀ D∈Ds,open_ h D∧Off σ A D∧N0≤D
theorem DsOk.step {N0:Nat} {σ σ':Sg} {A A':Hp} {h h':Heap} {Ds:List Nat} (d:DsOk N0 σ A h Ds) (s:Stp σ A h σ' A' h'):DsOk N0 σ' A' h' Ds :=
  ⟨d.1,fun D hD=>by
    obtain ⟨h1,h2,h3⟩:=d.2 D hD
    have hlt:=lt_of_some h1
    exact ⟨(h2.keep s hlt).trans h1,h2.step s hlt,h3⟩⟩
noncomputable def exitOf:Ou→Exit
  | .normal=>.normal
  | .ret=>.ret
  | .exit i=>.exit i
noncomputable def PoE (N0:Nat) (σ:Sg) (A:Hp) (h:Heap) (o:Ou) (f':Tv) (A':Hp):List Nat→Post:=fun Ds' e g' h'=>e=exitOf o∧∃ σ',Stp σ A h σ' A' h'∧FrL σ' f' g'∧DsOk N0 σ' A' h' Ds'
theorem PoE.from {N0:Nat} {σ0 σ:Sg} {A0 A:Hp} {h0 h:Heap} {o:Ou} {f':Tv} {A':Hp} (s:Stp σ0 A0 h0 σ A h) {Ds:List Nat} {e:Exit} {g':Fr} {h':Heap} (q:PoE N0 σ A h o f' A' Ds e g' h'):PoE N0 σ0 A0 h0 o f' A' Ds e g' h' :=
  let ⟨h1,σ',h2,h3,h4⟩:=q;⟨h1,σ',s.trans h2,h3,h4⟩
noncomputable def bodyB (P:Program) (k:Nat):Bool:=match P.funcs[k]? with
  | some fn=>fn.body.isSome
  | Option.none=>false
noncomputable def EnOk (P:Program):Prop:=∀ k,bodyB P k=true→∀ (args:Array Value) (w:World),(callFunc k args).run P w=.ok (.enter k args) w
def WOk (P:Program) (m:Nat) (c:Code) (f:Tv) (A:Hp) (o:Ou) (f':Tv) (A':Hp):Prop:=∀ (σ:Sg) (g:Fr) (h:Heap) (N0:Nat) (Ds:List Nat),FrL σ f g→HR σ A h→DsOk N0 σ A h Ds→N0≤h.size→WE P m Option.none Ds c (PoE N0 σ A h o f' A') g h
section
variable {R:Type}
def BSound (P:Program) (m:Nat) (F:Tv→Hp→(Ou→Tv→Hp→Option R)→Option R) (id:Nat) (b:Code):Prop:=∀ f A κ r,F f A κ=some r→∃ o f' A',κ o f' A'=some r∧WOk P m (.block id b) f A o f' A'
def BlkOk (P:Program) (m:Nat) (B:BlkK R):Code→Prop
  | .seq a b=>BlkOk P m B a∧BlkOk P m B b
  | .cond _ a b=>BlkOk P m B a∧BlkOk P m B b
  | .block id b=>match B id with
    | some F=>BSound P m F id b
    | Option.none=>BlkOk P m B b
  | .loop b=>BlkOk P m B b
  | .scope b=>BlkOk P m B b
  | _=>True
def ExK (P:Program) (m:Nat) (B:BlkK R) (ex:ExecK R):Prop:=∀ c,BlkOk P m B c→∀ f A κ r,ex c f A κ=some r→∃ o f' A',κ o f' A'=some r∧WOk P m c f A o f' A'
theorem BlkOk.none (P:Program) (m:Nat):∀ c,BlkOk P m (fun _=>Option.none:BlkK R) c
  | .seq a b=>⟨BlkOk.none P m a,BlkOk.none P m b⟩
  | .cond _ a b=>⟨BlkOk.none P m a,BlkOk.none P m b⟩
  | .block _ b=>BlkOk.none P m b
  | .loop b=>BlkOk.none P m b
  | .scope b=>BlkOk.none P m b
  | .skip | .ret | .exit _ | .label _ | .goto _ | .region _ _ _ | .rangeFunc _ _ _ _ | .refuse _=>trivial
end
section
variable {P:Program} {m:Nat}
theorem ld_var {f : Tv} {A : Hp} {t : TypeId} {x : Operand} {v : AV} {bs : List Nat} (e : ldE P f A t x = some (v, bs)) {σ : Sg} {g : Fr} {h : Heap} (hf : FrL σ f g) (hk : HR σ A h) :
    ∃ u a,g.ev x=some (.pointer (some a))∧Va σ v u∧∀ w:World,w.heap=h→(loadVar t a).run P w=.ok u w:=by
  unfold ldE at e
  split at e
  case h_2=>cases e
  rename_i b o hx
  obtain ⟨u,h1,h2⟩:=hf.ev hx
  obtain ⟨p,h3,rfl⟩:=va_ptr h2
  have hev:evE f x=some (.pointer (some ⟨b,o,Option.none⟩)):=hx
  obtain ⟨u,hv,hok⟩:=ld_ok (P:=P) (f:=f) (A:=A) (d:=Option.none) (ty:=0) (pos := "") (af:=#[]) (gd:=Option.none) (t:=t) (x:=x) (v:=v) (bs:=bs) (by unfold ldE;rw [hev];exact e) σ g h hf hk
  refine ⟨u,_,h1,hv,fun w hw=>?_⟩
  have hr:=hok h (fun _ _ _ _ _=>rfl) (fun b us e=>(hk.frz b us e).1) (fun y=>match g.ev y with | some u=>u | Option.none=>undef) w (fun y u hy=>by simp only [hy]) hw
  simp only [execOp,h1,Instr.loadAt,Instr.sureAddr,Sem.run_bind,Sem.run_pure,Result.andThen_ok] at hr
  cases hl:(loadVar t ⟨p.b,p.o+o,Option.none⟩).run P w with
  | ok u' w' =>
    rw [hl] at hr
    simp only [Result.andThen_ok,Result.ok.injEq,Next.value.injEq] at hr
    obtain ⟨rfl,rfl⟩:=hr
    rfl
  | halt q w'=>rw [hl] at hr;cases hr
noncomputable def allF (tmps:Array Value):Fr:=tmps.toList.zipIdx.map fun p=>(p.2,p.1)
omit [Uni] in
theorem allF_get (tmps:Array Value) (t:Nat):(allF tmps).get t=tmps[t]?:=by
  have key:∀ (l:List Value) (k t:Nat),Fr.get ((l.zipIdx k).map fun p=>(p.2,p.1)) t=if k≤t then l[t - k]? else Option.none:=fun l=>by
    induction l with
    | nil=>intro k t;simp [Fr.get]
    | cons v l ih =>
      intro k t
      rw [List.zipIdx_cons,List.map_cons,Fr.get_cons,ih]
      by_cases e:k=t
      · subst e;simp
      · rw [if_neg e]
        by_cases h1:k≤t
        · rw [if_pos (by omega),if_pos h1]
          have:t - k=(t - (k+1))+1:=by omega
          rw [this]
          simp
        · rw [if_neg (by omega),if_neg h1]
  unfold allF
  rw [key]
  simp
theorem argsM_get:∀ (vs:List AV) (i:Nat) (f:Tv) (t:Nat),(argsM vs i f).get t=if i≤t∧t < i+vs.length then vs[t - i]? else f.get t
  | [],i,f,t=>by
    rw [if_neg (by simp only [List.length_nil];omega)];rfl
  | v :: vs,i,f,t=>by
    show (argsM vs (i+1) (f.set i v)).get t=_
    rw [argsM_get vs (i+1),Tv.get_set]
    simp only [List.length_cons]
    by_cases h1:t=i
    · subst h1
      rw [if_neg (by omega),if_pos rfl,if_pos (by omega)]
      simp
    · by_cases h2:i+1≤t∧t < i+1+vs.length
      · rw [if_pos h2,if_pos (by omega)]
        have:t - i=(t - (i+1))+1:=by omega
        rw [this]
        simp
      · rw [if_neg h2,if_neg h1,if_neg (by omega)]
theorem argsM_fr {σ:Sg} {vs:List AV} {us:List Value} (h:VaL σ vs us):FrL σ (argsM vs 0 .leaf) (allF ⟨us⟩):=fun t v e=>by
  rw [argsM_get] at e
  by_cases h1:0≤t∧t < 0+vs.length
  · rw [if_pos h1] at e
    obtain ⟨u,h2,h3⟩:=h.get _ _ e
    exact ⟨u,by rw [allF_get];simpa using h2,h3⟩
  · rw [if_neg h1] at e;rw [Tv.get_leaf] at e;cases e
omit [Uni] in
theorem argL_of {us:List Value}:∀ {f:Fr},(∀ p∈f,us[p.1]?=some p.2)→ArgL f us
  | [],_=>trivial
  | p :: f,h=>⟨h p (by simp),argL_of fun q hq=>h q (by simp [hq])⟩
omit [Uni] in
theorem allF_arg (us:List Value):ArgL (allF ⟨us⟩) us:=argL_of fun p hp=>by
  unfold allF at hp
  obtain ⟨q,hq,rfl⟩:=List.mem_map.1 hp
  obtain ⟨_,h2,h3⟩:=List.mem_zipIdx hq
  have h2':q.2 < us.length:=by simpa using h2
  show us[q.2]?=some q.1
  rw [List.getElem?_eq_getElem h2']
  congr 1
  simpa using h3.symm
omit [Uni] in
theorem shut_ext:∀ (Ds:List Nat) (h:Heap),Ext (fun b=>b∈Ds) h (shutAll Ds h)
  | [],h=>.refl _ _
  | D :: Ds,h=>by
    show Ext _ h (shutAll Ds (h.setIfInBounds D (.deferred Option.none)))
    have h1:Ext (fun b=>b=D) h (h.setIfInBounds D (.deferred Option.none)):=.set _ _ _ rfl
    have h2:=shut_ext Ds (h.setIfInBounds D (.deferred Option.none))
    exact (h1.mono fun b _ e=>by subst e;simp).trans (h2.mono fun b _ e=>by simp [e])
theorem Stp.shut {σ σ':Sg} {A A':Hp} {h h':Heap} {Ds:List Nat} (s:Stp σ A h σ' A' h') (d:DsOk h.size σ' A' h' Ds):Stp σ A h σ' A' (shutAll Ds h'):=by
  have x:=shut_ext Ds h'
  have hk:HR σ' A' (shutAll Ds h'):=⟨fun β o e=>s.hr.objk x e fun p hp hn hl b hob hD=>(d.2 _ hD).2.1.1 ⟨β,o,p,e,hl,hp,hn,hob⟩,s.hr.inj,s.hr.dom,fun β p e hn=>Nat.lt_of_lt_of_le (s.hr.ltb β p e hn) x.size,fun b us e=>⟨by
    obtain ⟨⟨t,z,h1⟩,_⟩:=s.hr.frz b us e
    exact ⟨t,z,x.obj h1 fun hD=>by rw [(d.2 _ hD).2.1.2.1] at e;cases e⟩,(s.hr.frz b us e).2⟩,fun b c m=>⟨Nat.lt_of_lt_of_le (s.hr.exl b c m).1 x.size,Nat.lt_of_lt_of_le (s.hr.exl b c m).2 x.size⟩,s.hr.gl⟩
  exact ⟨s.le,hk,s.pr,Nat.le_trans s.size x.size,fun b hb hw=>(x.keep b (Nat.lt_of_lt_of_le hb s.size) (fun hD=>by have:=(d.2 _ hD).2.2;omega)).trans (s.keep b hb hw),s.wr,s.lv,s.apr,s.nx,s.fzn,s.old,s.exk⟩
theorem res_ok {f:Tv} {A:Hp} {σ:Sg} {g:Fr} {h:Heap} (hf:FrL σ f g) (hk:HR σ A h):∀ {rs:List ResultVar} {vs:List AV},resM P f A rs=some vs→∃ us,ResL P h g rs us∧VaL σ vs us
  | [],vs,e=>by simp only [resM,Option.some.injEq] at e;subst e;exact ⟨[],trivial,.nil⟩
  | .tmp t :: r,vs,e=>by
    unfold resM at e
    split at e
    case h_2=>cases e
    rename_i v hv
    split at e
    case h_2=>cases e
    rename_i ws hws
    simp only [Option.some.injEq] at e
    subst e
    obtain ⟨u,h1,h2⟩:=hf _ _ hv
    obtain ⟨us,h3,h4⟩:=res_ok hf hk hws
    exact ⟨u :: us,⟨h1,h3⟩,.cons h2 h4⟩
  | .cell t T :: r,vs,e=>by
    unfold resM at e
    split at e
    case h_2=>cases e
    rename_i v bs hv
    split at e
    case h_2=>cases e
    rename_i ws hws
    simp only [Option.some.injEq] at e
    subst e
    obtain ⟨u,a,h1,h2,h5⟩:=ld_var hv hf hk
    obtain ⟨us,h3,h4⟩:=res_ok hf hk hws
    exact ⟨u :: us,⟨⟨a,h1,h5⟩,h3⟩,.cons h2 h4⟩
theorem tup_va {σ:Sg} {vs:List AV} {us:List Value} (h:VaL σ vs us):Va σ (tupA vs) (tup us):=by
  cases h with
  | nil=>exact .tuple .nil
  | cons h t =>
    cases t with
    | nil=>exact h
    | cons h2 t2=>exact .tuple (.cons h (.cons h2 t2))
section
variable [Byt] {R:Type}
theorem bodyK_ok {k:Nat} {fn:Func} {c:Code} (hfn:P.funcs[k]?=some fn) (hc:fn.body=some c) (hEn:EnOk P) {B:BlkK R} {ex:Nat→ExecK R} (hB:BlkOk P fn.ntmps B c) (hE:ExK P fn.ntmps B (ex fn.ntmps)) {vs:List AV} {A:Hp} {κ:AV→Hp→Option R} {r:R} (e:bodyK P ex k vs A κ=some r):∃ v A',κ v A'=some r∧CallOk P k vs A v A':=by
  unfold bodyK at e
  rw [hfn] at e
  simp only [hc] at e
  obtain ⟨hb,e⟩:=bif_some e
  obtain ⟨o,f1,A1,h1,h2⟩:=hE c hB _ _ _ _ e
  have key:(o=.normal∨o=.ret)∧∃ ws,resM P f1 A1 fn.results.toList=some ws∧κ (tupA ws) A1=some r:=by
    cases o with
    | normal =>
      simp only [resK] at h1
      split at h1
      · rename_i ws hws;exact ⟨.inl rfl,ws,hws,h1⟩
      · cases h1
    | ret =>
      simp only [resK] at h1
      split at h1
      · rename_i ws hws;exact ⟨.inr rfl,ws,hws,h1⟩
      · cases h1
    | exit i=>cases h1
  obtain ⟨ho,ws,hws,hκ⟩:=key
  refine ⟨tupA ws,A1,hκ,fun σ us h hv hk=>.inr ⟨fun w=>hEn k (by unfold bodyB;rw [hfn];simp only [hc];rfl) _ w,?_⟩⟩
  refine callsD (m:=fn.ntmps) (allF ⟨us⟩) hfn hc rfl (by rw [hv.len];exact hb) (allF_arg us) ?_
  have hw:=h2 σ (allF ⟨us⟩) h h.size [] (argsM_fr hv) hk ⟨List.nodup_nil,fun _ hD=>by cases hD⟩ (Nat.le_refl _)
  intro a w ha hw'
  refine wpIn_mono (hw a w ha hw') ?_
  rintro e a' w' ⟨hl,hs,Ds,g,hg,he,σ',hst,hf,hd⟩
  refine ⟨hl,hs,Ds,g,hg,?_,fun D hD=>(hd.2 D hD).1,hd.1,?_⟩
  · subst he;rcases ho with rfl | rfl
    · exact .inr rfl
    · exact .inl rfl
  · have hst':=Stp.shut hst hd
    obtain ⟨us',h1,h2⟩:=res_ok hf hst'.hr hws
    exact ⟨us',h1,σ',hst',tup_va h2⟩
def NOkK (P:Program) (N:NatK R):Prop:=∀ k vs A F κ r,N k vs A=some F→F κ=some r→∃ v A',κ v A'=some r∧CallOk P k vs A v A'
theorem bodyK_cok (hEn:EnOk P) {ex:Nat→ExecK R} (hE:∀ m,ExK P m (fun _=>Option.none) (ex m)):COk P (bodyK P ex):=fun k vs A κ r e=>by
  have e0:=e
  unfold bodyK at e
  split at e
  case h_2=>cases e
  rename_i fn hfn
  split at e
  case h_2=>cases e
  rename_i c hc
  exact bodyK_ok hfn hc hEn (BlkOk.none P _ c) (hE _) e0
theorem callK_ok {N:NatK R} (hN:NOkK P N) (hEn:EnOk P) {ex:Nat→ExecK R} (hE:∀ m,ExK P m (fun _=>Option.none) (ex m)):COk P (callK P N ex):=fun k vs A κ r e=>by
  unfold callK at e
  split at e
  · rename_i F hF
    exact hN k vs A F κ r hF e
  · exact bodyK_cok hEn hE k vs A κ r e
theorem WC.drawK {n : Env} {C : CallK R} (hC : COk P C) (hm : P.follows .mixedOrders = true) {l : List Oper} (hsel : ∀ o ∈ l, notSel o.op = true) {f : Tv} {A : Hp} {κ : Tv → Hp → Option R} {r : R}
    (e:RK.drawK P C m l (Nat.succ l.length) (Array.replicate l.length false) [] f A κ=some r):∃ f' A',κ f' A'=some r ∧
    ∀ {n:Env} {Q:Post} {id:Nat} {σ:Sg} {g:Fr} {h:Heap},n.n=m→(n.ro=Option.none∨noDef l=true)→FrL σ f g→HR σ A h→(∀ σ' g' h',Stp σ A h σ' A' h'→FrL σ' f' g'→Q .normal g' h')→WC P n (.region id l.toArray true) Q g h:=by
  obtain ⟨f',A',h1,h2⟩:=drawK_some hC hsel _ _ _ _ _ e
  refine ⟨f',A',h1,?_⟩
  intro n Q id σ g h hn hd hf hk hQ a w ha hw
  subst hw
  refine wpIn_mono (any_in (Q:=noPanic (toAct n Q w)) (by simpa using hd) (fun ⟨_,_,hh⟩=>toAct.shut ⟨_,_,hh⟩) hm ?_) noPanic_imp
  have hcnt:cntU l.length (Array.replicate l.length false)=l.length:=by
    unfold cntU
    have:(List.range l.length).countP (fun k => !(Array.replicate l.length false).getD k true)=(List.range l.length).length:=by
      rw [List.countP_eq_length]
      intro k hk
      have hlt:=List.mem_range.1 hk
      simp [hlt]
    rw [this,List.length_range]
  have key:=h2 (n:=n) (Q:=noPanic (toAct n Q w)) hn (fun c a w q=>q) (σ0:=σ) (A0:=A) (h0:=w.heap) (w0:=w)
    (fun σ' g' a' w' hs hf' ha' hsm=>⟨rfl,hsm,g',ha',hQ σ' g' w'.heap hs hf'⟩) σ g a { w with drawn:=w.drawn+1 } (Array.replicate l.length false) [] (fun _=>0) (fun _ _=>False) (.refl hk) hf ha
    ⟨by simp,by simp,fun k=>by simp,fun i hi=>by simp at hi⟩ (fun j i hj _=>by
      rcases Nat.lt_or_ge j l.length with h' | h'
      · simp [h'] at hj
      · simp [Array.getElem?_eq_none (show (Array.replicate l.length false).size≤j by simpa using h')] at hj) (fun i hi=>by simp at hi) ⟨fun i hi=>by simp at hi,fun i j hi=>by simp at hi⟩ (fun i b hz=>hz.elim) (fun i b hz=>hz.elim)
    ⟨rfl,rfl,rfl,trivial⟩
  rw [hcnt] at key
  exact key.any
theorem stepK_ok {C:CallK R} (hC:COk P C) (hm:P.follows .mixedOrders=true) {B:BlkK R} {ih:ExecK R} (hI:ExK P m B ih) {c:Code} (hB:BlkOk P m B c) (hc:∀ b,c ≠ .loop b) {f:Tv} {A:Hp} {κ:Ou→Tv→Hp→Option R} {r:R} (e:stepK P C B m ih c f A κ=some r):∃ o f' A',κ o f' A'=some r∧WOk P m c f A o f' A':=by
  unfold stepK at e
  split at e
  · exact ⟨_,f,A,e,fun σ g h N0 Ds hf hk hd _=>.of (.skip ⟨rfl,σ,.refl hk,hf,hd⟩)⟩
  · exact ⟨_,f,A,e,fun σ g h N0 Ds hf hk hd _=>.of (.label ⟨rfl,σ,.refl hk,hf,hd⟩)⟩
  · exact ⟨_,f,A,e,fun σ g h N0 Ds hf hk hd _=>.of (.ret ⟨rfl,σ,.refl hk,hf,hd⟩)⟩
  · exact ⟨_,f,A,e,fun σ g h N0 Ds hf hk hd _=>.of (.exit ⟨rfl,σ,.refl hk,hf,hd⟩)⟩
  · -- a region in its order
    rename_i id l
    obtain ⟨f1,A1,h1,h2⟩:=regK_some hC l e
    exact ⟨_,f1,A1,h1,fun σ g h N0 Ds hf hk hd _=>.of (WC.region (l:=l) (h2 (n:=⟨m,Ds.map dmark,Option.none⟩) rfl hf hk fun σ' g' h' hs hf'=>⟨rfl,σ',hs,hf',hd.step hs⟩) (.inl rfl))⟩
  · -- a region that draws
    rename_i id l
    obtain ⟨hb,e⟩:=bif_some e
    obtain ⟨f1,A1,h1,h2⟩:=WC.drawK (n:=⟨m,[],Option.none⟩) hC hm (fun o ho=>List.all_eq_true.1 hb o ho) e
    exact ⟨_,f1,A1,h1,fun σ g h N0 Ds hf hk hd _=>.of (h2 (n:=⟨m,Ds.map dmark,Option.none⟩) rfl (.inl rfl) hf hk fun σ' g' h' hs hf'=>⟨rfl,σ',hs,hf',hd.step hs⟩)⟩
  · -- one behind the other
    rename_i a b
    obtain ⟨o1,f1,A1,h1,h2⟩:=hI a hB.1 _ _ _ _ e
    cases o1 with
    | normal =>
      obtain ⟨o,f',A',h3,h4⟩:=hI b hB.2 _ _ _ _ h1
      refine ⟨o,f',A',h3,fun σ g h N0 Ds hf hk hd hN0=>.seq ((h2 σ g h N0 Ds hf hk hd hN0).mono fun Ds1 e1 g1 h1' ⟨he,σ1,hs1,hf1,hd1⟩=>?_)⟩
      subst he
      exact (h4 σ1 g1 h1' N0 Ds1 hf1 hs1.hr hd1 (Nat.le_trans hN0 hs1.size)).mono fun _ _ _ _ q=>q.from hs1
    | ret=>exact ⟨.ret,f1,A1,h1,fun σ g h N0 Ds hf hk hd hN0=>.seq ((h2 σ g h N0 Ds hf hk hd hN0).mono fun Ds1 e1 g1 h1' ⟨he,q⟩=>by subst he;exact ⟨rfl,q⟩)⟩
    | exit i=>exact ⟨.exit i,f1,A1,h1,fun σ g h N0 Ds hf hk hd hN0=>.seq ((h2 σ g h N0 Ds hf hk hd hN0).mono fun Ds1 e1 g1 h1' ⟨he,q⟩=>by subst he;exact ⟨rfl,q⟩)⟩
  · -- a condition
    rename_i x a b
    split at e
    case h_2=>cases e
    rename_i t hx
    cases t with
    | true =>
      obtain ⟨o,f',A',h1,h2⟩:=hI a hB.1 _ _ _ _ e
      refine ⟨o,f',A',h1,fun σ g h N0 Ds hf hk hd hN0=>?_⟩
      obtain ⟨u,k1,k2⟩:=hf.ev hx
      rw [va_bool k2] at k1
      exact .cond_t k1 (h2 σ g h N0 Ds (fun s v e=>hf s v ((cdS_get hx s).symm.trans e)) hk hd hN0)
    | false =>
      obtain ⟨o,f',A',h1,h2⟩:=hI b hB.2 _ _ _ _ e
      refine ⟨o,f',A',h1,fun σ g h N0 Ds hf hk hd hN0=>?_⟩
      obtain ⟨u,k1,k2⟩:=hf.ev hx
      rw [va_bool k2] at k1
      exact .cond_f k1 (h2 σ g h N0 Ds (fun s v e=>hf s v ((cdS_get hx s).symm.trans e)) hk hd hN0)
  · -- a block
    rename_i id b
    unfold BlkOk at hB
    cases hF:B id with
    | some F =>
      rw [hF] at e hB
      exact hB f A κ r e
    | none =>
      rw [hF] at e hB
      simp only at e hB
      obtain ⟨o,f',A',h1,h2⟩:=hI b hB _ _ _ _ e
      cases o with
      | normal=>exact ⟨.normal,f',A',h1,fun σ g h N0 Ds hf hk hd hN0=>.block ((h2 σ g h N0 Ds hf hk hd hN0).mono fun Ds1 e1 g1 h1' ⟨he,q⟩=>by subst he;exact ⟨rfl,q⟩)⟩
      | ret=>exact ⟨.ret,f',A',h1,fun σ g h N0 Ds hf hk hd hN0=>.block ((h2 σ g h N0 Ds hf hk hd hN0).mono fun Ds1 e1 g1 h1' ⟨he,q⟩=>by subst he;exact ⟨rfl,q⟩)⟩
      | exit i =>
        refine ⟨_,f',A',h1,fun σ g h N0 Ds hf hk hd hN0=>.block ((h2 σ g h N0 Ds hf hk hd hN0).mono fun Ds1 e1 g1 h1' ⟨he,q⟩=>?_)⟩
        subst he
        show blockP id _ (.exit i) g1 h1'
        cases hi:Nat.beq i id with
        | true =>
          have:=Nat.eq_of_beq_eq_true hi
          subst this
          exact blockP_hit ⟨rfl,q⟩
        | false=>exact blockP_miss hi ⟨rfl,q⟩
  · exact absurd rfl (hc _)
  · -- a scope
    rename_i b
    obtain ⟨o,f',A',h1,h2⟩:=hI b hB _ _ _ _ e
    refine ⟨o,f',A',h1,fun σ g h N0 Ds hf hk hd hN0=>.scope ((h2 σ g h N0 Ds hf hk hd hN0).mono fun Ds1 e1 g1 h1' ⟨he,q⟩=>?_)⟩
    subst he
    cases o with
    | normal=>exact ⟨rfl,q⟩
    | ret=>exact ⟨rfl,q⟩
    | exit i=>exact ⟨rfl,q⟩
  · cases e
theorem fam_ok (hm : P.follows .mixedOrders = true) {B : BlkK R} {ex : Nat → ExecK R} {C : Nat → CallK R} (h0 : ∀ c f A κ, ex 0 c f A κ = Option.none) (hs : ∀ n, ex (n + 1) = stepK P (C n) B m (ex n)) :
    ∀ n,(∀ j,j < n→COk P (C j))→ExK P m B (ex n):=by
  have loop : ∀ (k : Nat), (∀ j, j < k → ExK P m B (ex j)) → ∀ (b : Code), BlkOk P m B b → ∀ (f : Tv) (A : Hp) (κ : Ou → Tv → Hp → Option R) (r : R), ex k (.loop b) f A κ = some r → ∃ o f' A', κ o f' A' = some r ∧
      ∀ (σ0:Sg) (A0:Hp) (h0:Heap) (N0:Nat) (σ:Sg) (g:Fr) (h:Heap) (Ds:List Nat),N0≤h0.size→Stp σ0 A0 h0 σ A h→FrL σ f g→DsOk N0 σ A h Ds→LR P m Option.none b (PoE N0 σ0 A0 h0 o f' A') k Ds g h:=by
    intro k
    induction k with
    | zero=>intro _ b _ f A κ r e;rw [h0] at e;cases e
    | succ k ihk =>
      intro hj b hb f A κ r e
      rw [hs] at e
      simp only [stepK] at e
      obtain ⟨o1,f1,A1,h1,h2⟩:=hj k (Nat.lt_succ_self _) b hb _ _ _ _ e
      cases o1 with
      | normal =>
        obtain ⟨o,f',A',h3,h4⟩:=ihk (fun j hjk=>hj j (by omega)) b hb f1 A1 κ r h1
        refine ⟨o,f',A',h3,fun σ0 A0 h0 N0 σ g h Ds hN0 hst hf hd=>?_⟩
        refine (h2 σ g h N0 Ds hf hst.hr hd (Nat.le_trans hN0 hst.size)).mono fun Ds1 e1 g1 h1' ⟨he,σ1,hs1,hf1,hd1⟩=>?_
        subst he
        exact h4 σ0 A0 h0 N0 σ1 g1 h1' Ds1 hN0 (hst.trans hs1) hf1 hd1
      | ret =>
        refine ⟨.ret,f1,A1,h1,fun σ0 A0 h0 N0 σ g h Ds hN0 hst hf hd=>?_⟩
        refine (h2 σ g h N0 Ds hf hst.hr hd (Nat.le_trans hN0 hst.size)).mono fun Ds1 e1 g1 h1' q=>?_
        obtain ⟨rfl,q2⟩:=PoE.from hst q
        exact ⟨rfl,q2⟩
      | exit i =>
        refine ⟨.exit i,f1,A1,h1,fun σ0 A0 h0 N0 σ g h Ds hN0 hst hf hd=>?_⟩
        refine (h2 σ g h N0 Ds hf hst.hr hd (Nat.le_trans hN0 hst.size)).mono fun Ds1 e1 g1 h1' q=>?_
        obtain ⟨rfl,q2⟩:=PoE.from hst q
        exact ⟨rfl,q2⟩
  intro n
  induction n using Nat.strongRecOn with
  | _ n ih =>
    intro hC
    cases n with
    | zero=>intro c _ f A κ r e;rw [h0] at e;cases e
    | succ n =>
      have hall:∀ j,j < n+1→ExK P m B (ex j):=fun j hj=>ih j hj fun i hi=>hC i (by omega)
      intro c hB f A κ r e
      by_cases hl:∃ b,c=.loop b
      · obtain ⟨b,rfl⟩:=hl
        obtain ⟨o,f',A',h1,h2⟩:=loop (n+1) hall b hB f A κ r e
        exact ⟨o,f',A',h1,fun σ g h N0 Ds hf hk hd hN0=>.loop (n+1) (h2 σ A h N0 σ g h Ds hN0 (.refl hk) hf hd)⟩
      · rw [hs] at e
        exact stepK_ok (hC n (Nat.lt_succ_self _)) hm (hall n (Nat.lt_succ_self _)) hB (fun b h=>hl ⟨b,h⟩) e
theorem execK_ok (hm:P.follows .mixedOrders=true) (hEn:EnOk P) {N:NatK R} (hN:NOkK P N):∀ n m,ExK P m (fun _=>Option.none) (execK P N n m):=by
  intro n
  induction n using Nat.strongRecOn with
  | _ n ih =>
    intro m
    refine fam_ok (ex:=fun n=>execK P N n m) (C:=fun n=>callK P N (execK P N n)) hm (fun _ _ _ _=>rfl) (fun _=>rfl) n fun j hj=>callK_ok hN hEn (ih j hj)
theorem execB_ok (hm:P.follows .mixedOrders=true) (hEn:EnOk P) {N:NatK R} (hN:NOkK P N) {B:BlkK R} (n m:Nat):ExK P m B (execB P N B n m) :=
  fam_ok (ex:=fun n=>execB P N B n m) (C:=fun n=>callK P N (execK P N n)) hm (fun _ _ _ _=>rfl) (fun _=>rfl) n fun j _=>callK_ok hN hEn (execK_ok hm hEn hN j)
theorem runB_ok (hm:P.follows .mixedOrders=true) (hEn:EnOk P) {N:NatK R} (hN:NOkK P N) {B:BlkK R} {k:Nat} {fn:Func} {c:Code} (hfn:P.funcs[k]?=some fn) (hc:fn.body=some c) (hB:BlkOk P fn.ntmps B c) (n:Nat) {vs:List AV} {A:Hp} {κ:AV→Hp→Option R} {r:R} (e:runB P N B n k vs A κ=some r):∃ v A',κ v A'=some r∧CallOk P k vs A v A' :=
  bodyK_ok hfn hc hEn hB (execB_ok hm hEn hN n _) e
end
end
end Go.RK
namespace Go.RK
open Go
open Go.RK.Uni (Ty El)
open Go.RK.Byt (bT)
variable [Uni]
noncomputable def mpO {α β:Type} (f:α→β):Option α→Option β
  | some a=>some (f a)
  | Option.none=>Option.none
omit [Uni] in
theorem om {α β:Type} {x:Option α} {f:α→β} {r:β} (e:mpO f x=some r):∃ a,x=some a∧r=f a:=by
  cases x with
  | none=>cases e
  | some a=>injection e with e;exact ⟨a,rfl,e.symm⟩
section
variable (ι:Nat→Option Nat) (A:Hp)
mutual
noncomputable def renV:AV→Option AV
  | .pointer (some ⟨b,o,s⟩)=>mpO (fun c=>(.pointer (some ⟨c,o,s⟩))) (ι b)
  | .slice (some ⟨b,o,Option.none⟩) l k=>mpO (fun c=>(.slice (some ⟨c,o,Option.none⟩) l k)) (ι b)
  | .map (some b)=>mpO (fun c=>(.map (some c))) (ι b)
  | .func fn xs ys=>match fn with
    | .yield _=>Option.none
    | fn=>match renA xs with
      | some a=>mpO (fun b=>(.func fn a b)) (renA ys)
      | Option.none=>Option.none
  | .iface t v=>mpO (fun w=>(.iface t w)) (renV v)
  | .agg xs=>mpO (fun a=>(.agg a)) (renA xs)
  | .tuple xs=>mpO (fun a=>(.tuple a)) (renA xs)
  | .own b=>match A.t.get b with
    | some (.frz t l)=>some (.row t l)
    | _=>mpO (fun c=>(.own c)) (ι b)
  | .win b o n cap=>mpO (fun c=>(.win c o n cap)) (ι b)
  | v=>some v
noncomputable def renA:Array AV→Option (Array AV)
  | ⟨l⟩=>mpO (fun l'=>⟨l'⟩) (renL l)
noncomputable def renL:List AV→Option (List AV)
  | []=>some []
  | v :: l=>match renV v with
    | some w=>mpO (fun l'=>w :: l') (renL l)
    | Option.none=>Option.none
end
noncomputable def renE:List EnA→Option (List EnA)
  | []=>some []
  | e :: l=>match renV ι A e.val with
    | some w=>mpO (fun l'=>⟨e.key,w,e.born⟩ :: l') (renE l)
    | Option.none=>Option.none
noncomputable def renO:AO→Option AO
  | .cells cs e opn=>mpO (fun cs'=>.cells cs' e opn) (renL ι A cs)
  | .row t l e=>some (.row t l e)
  | .map es c=>mpO (fun es'=>.map es' c) (renE ι A es)
  | .mapT k t ag l=>some (.mapT k t ag l)
  | .mapP k t el l Option.none=>some (.mapP k t el l Option.none)
  | _=>Option.none
end
theorem OR.frz_row {σ:Sg} {h:Heap} {p:Pl} {t:Ty} {l:List (El t)} (k:OR σ h p (.frz t l)) {u:Value} (hu:OwnV p u):DatV σ.fz (.row t) l u:=by
  obtain ⟨h1,h2,h3,h4⟩:=k
  rcases hu with ⟨hn,hl,a,rfl⟩ | ⟨hn,c,rfl,hc,hm,hz⟩
  · have:l=[]:=List.eq_nil_of_length_eq_zero (by rw [← h1];exact h4 hn)
    subst this
    cases a with
    | none=>exact .row0
    | some a=>exact .rowE (Nat.zero_le _)
  · obtain ⟨us,h5,h6,h7⟩:=h3 hn
    rw [h1]
    exact .row h5 (h1▸hc) hm (by rw [← h2];omega) h7
theorem renL_len {ι:Nat→Option Nat} {A:Hp}:∀ {vs vs':List AV},renL ι A vs=some vs'→vs'.length=vs.length
  | [],_,e=>by simp only [renL,Option.some.injEq] at e;subst e;rfl
  | v :: l,_,e=>by
    simp only [renL] at e
    split at e
    case h_2=>cases e
    obtain ⟨l',h1,rfl⟩:=om e
    simp [renL_len h1]
section
variable {ι:Nat→Option Nat} {A:Hp} {σ σ2:Sg} {h:Heap}
mutual
theorem Va.ren (hk:HR σ A h) (H:∀ β γ p,ι β=some γ→σ β=some p→σ2 γ=some p) (hz:∀ b us,σ.fz b=some us→σ2.fz b=some us):∀ {v:AV} {u:Value},Va σ v u→∀ {v':AV},renV ι A v=some v'→Va σ2 v' u
  | _,_,.bool b,_,e=>by simp only [renV,Option.some.injEq] at e;subst e;exact .bool b
  | _,_,.byte b,_,e=>by simp only [renV,Option.some.injEq] at e;subst e;exact .byte b
  | _,_,.int k n,_,e=>by simp only [renV,Option.some.injEq] at e;subst e;exact .int k n
  | _,_,.string s,_,e=>by simp only [renV,Option.some.injEq] at e;subst e;exact .string s
  | _,_,.ptr0,_,e=>by simp only [renV,Option.some.injEq] at e;subst e;exact .ptr0
  | _,_,.ptr hp,_,e=>by simp only [renV] at e;obtain ⟨c,h1,rfl⟩:=om e;exact .ptr (H _ _ _ h1 hp)
  | _,_,.ptrE hp,_,e=>by simp only [renV] at e;obtain ⟨c,h1,rfl⟩:=om e;exact .ptrE (H _ _ _ h1 hp)
  | _,_,.sl0 hc,_,e=>by simp only [renV,Option.some.injEq] at e;subst e;exact .sl0 hc
  | _,_,.slE hc,_,e=>by simp only [renV,Option.some.injEq] at e;subst e;exact .slE hc
  | _,_,.sl hp hc,_,e=>by simp only [renV] at e;obtain ⟨c,h1,rfl⟩:=om e;exact .sl (H _ _ _ h1 hp) hc
  | _,_,.slB hp hn hl hm,_,e=>by simp only [renV] at e;obtain ⟨c,h1,rfl⟩:=om e;exact .slB (H _ _ _ h1 hp) hn hl hm
  | _,_,.nul,_,e=>by simp only [renV,Option.some.injEq] at e;subst e;exact .nul
  | _,_,.map0,_,e=>by simp only [renV,Option.some.injEq] at e;subst e;exact .map0
  | _,_,.map hp,_,e=>by simp only [renV] at e;obtain ⟨c,h1,rfl⟩:=om e;exact .map (H _ _ _ h1 hp)
  | _,_,.func (fn:=fn) hf hx hy,_,e=>by
    simp only [renV] at e
    cases fn with
    | yield l=>exact absurd rfl (hf l)
    | _ =>
      simp only [renA] at e
      split at e
      case h_2=>cases e
      rename_i a ha
      obtain ⟨xs',h1,rfl⟩:=om ha
      obtain ⟨b,hb,rfl⟩:=om e
      obtain ⟨ys',h2,rfl⟩:=om hb
      exact .func hf (VaL.ren hk H hz hx h1) (VaL.ren hk H hz hy h2)
  | _,_,.yield _,_,e=>by simp only [renV] at e;cases e
  | _,_,.nilFunc,_,e=>by simp only [renV,Option.some.injEq] at e;subst e;exact .nilFunc
  | _,_,.iface hv,_,e=>by simp only [renV] at e;obtain ⟨c,h1,rfl⟩:=om e;exact .iface (Va.ren hk H hz hv h1)
  | _,_,.nilIface,_,e=>by simp only [renV,Option.some.injEq] at e;subst e;exact .nilIface
  | _,_,.agg hx,_,e=>by simp only [renV,renA] at e;obtain ⟨c,h1,rfl⟩:=om e;obtain ⟨l,h2,rfl⟩:=om h1;exact .agg (VaL.ren hk H hz hx h2)
  | _,_,.tuple hx,_,e=>by simp only [renV,renA] at e;obtain ⟨c,h1,rfl⟩:=om e;obtain ⟨l,h2,rfl⟩:=om h1;exact .tuple (VaL.ren hk H hz hx h2)
  | _,_,.own hp ho,_,e=>by
    simp only [renV] at e
    split at e
    · rename_i t l hg
      simp only [Option.some.injEq] at e
      subst e
      obtain ⟨q,h1,h2⟩:=hk.obj _ _ hg
      rw [hp] at h1
      injection h1 with h1
      subst h1
      exact .row ((h2.frz_row ho).mono hz)
    · obtain ⟨c,h1,rfl⟩:=om e
      exact .own (H _ _ _ h1 hp) ho
  | _,_,.win hp ho,_,e=>by simp only [renV] at e;obtain ⟨c,h1,rfl⟩:=om e;exact .win (H _ _ _ h1 hp) ho
  | _,_,.row hd,_,e=>by simp only [renV,Option.some.injEq] at e;subst e;exact .row (hd.mono hz)
  | _,_,.eptr hb hd,_,e=>by simp only [renV,Option.some.injEq] at e;subst e;exact .eptr (hz _ _ hb) (hd.mono hz)
theorem VaL.ren (hk:HR σ A h) (H:∀ β γ p,ι β=some γ→σ β=some p→σ2 γ=some p) (hz:∀ b us,σ.fz b=some us→σ2.fz b=some us):∀ {vs:List AV} {us:List Value},VaL σ vs us→∀ {vs':List AV},renL ι A vs=some vs'→VaL σ2 vs' us
  | _,_,.nil,_,e=>by simp only [renL,Option.some.injEq] at e;subst e;exact .nil
  | _,_,.cons hv ht,_,e=>by
    simp only [renL] at e
    split at e
    case h_2=>cases e
    rename_i w hw
    obtain ⟨l,h1,rfl⟩:=om e
    exact .cons (Va.ren hk H hz hv hw) (VaL.ren hk H hz ht h1)
end
theorem EnL.ren (hk:HR σ A h) (H:∀ β γ p,ι β=some γ→σ β=some p→σ2 γ=some p) (hz:∀ b us,σ.fz b=some us→σ2.fz b=some us):∀ {es:List EnA} {xs:List MapEntry},EnL σ es xs→∀ {es':List EnA},renE ι A es=some es'→EnL σ2 es' xs
  | _,_,.nil,_,e=>by simp only [renE,Option.some.injEq] at e;subst e;exact .nil
  | _,_,.cons he ht,_,e=>by
    simp only [renE] at e
    split at e
    case h_2=>cases e
    rename_i w hw
    obtain ⟨l,h1,rfl⟩:=om e
    exact .cons ⟨he.1,he.2.1,he.2.2.1.ren hk H hz hw,he.2.2.2⟩ (EnL.ren hk H hz ht h1)
theorem OR.ren (hk:HR σ A h) (H:∀ β γ p,ι β=some γ→σ β=some p→σ2 γ=some p) (hz:∀ b us,σ.fz b=some us→σ2.fz b=some us) {p:Pl} (hx:σ2.ex p.b=σ.ex p.b):∀ {o:AO} {o':AO},renO ι A o=some o'→OR σ h p o→OR σ2 h p o'
  | .cells cs e opn,_,eq,⟨hn,us,z,h1,h2,h3,h4⟩=>by
    simp only [renO] at eq
    obtain ⟨cs',h5,rfl⟩:=om eq
    have hl:=renL_len h5
    exact ⟨hn,us,z,h1,h2,by rw [hl];exact h3.ren hk H hz h5,by rw [hl];exact h4⟩
  | .row t l e,_,eq,⟨h1,h2,h3,h4⟩=>by
    simp only [renO,Option.some.injEq] at eq
    subst eq
    exact ⟨h1,h2,fun e=>let ⟨us,z,a,b,c,d⟩:=h3 e;⟨us,z,a,b,c.mono hz,d⟩,h4⟩
  | .frz t l,_,eq,_=>by simp only [renO] at eq;cases eq
  | .map es c,_,eq,⟨hn,xs,h1,h2⟩=>by
    simp only [renO] at eq
    obtain ⟨es',h5,rfl⟩:=om eq
    exact ⟨hn,xs,h1,h2.ren hk H hz h5⟩
  | .mapT k t ag l,_,eq,⟨hn,es,h1,h2⟩=>by
    simp only [renO,Option.some.injEq] at eq
    subst eq
    exact ⟨hn,es,h1,h2.mono hz⟩
  | .mapP k t el l w,_,eq,⟨hn,es,v,h1,h2,h3,h4⟩=>by
    cases w with
    | some q=>simp only [renO] at eq;cases eq
    | none =>
      simp only [renO,Option.some.injEq] at eq
      subst eq
      exact ⟨hn,es,v,h1,h2,by rw [hx];exact h3.mono hz,by rw [hx];exact h4⟩
  | .iter ..,_,eq,_=>by simp only [renO] at eq;cases eq
  | .loop ..,_,eq,_=>by simp only [renO] at eq;cases eq
end
theorem renO_live {ι:Nat→Option Nat} {A:Hp} {o o':AO} (e:renO ι A o=some o'):o.live=true∧o'.live=true:=by
  cases o with
  | cells cs el opn=>simp only [renO] at e;obtain ⟨c,_,rfl⟩:=om e;exact ⟨rfl,rfl⟩
  | row t l el=>simp only [renO,Option.some.injEq] at e;subst e;exact ⟨rfl,rfl⟩
  | frz t l=>simp only [renO] at e;cases e
  | map es c=>simp only [renO] at e;obtain ⟨c,_,rfl⟩:=om e;exact ⟨rfl,rfl⟩
  | mapT k t ag l=>simp only [renO,Option.some.injEq] at e;subst e;exact ⟨rfl,rfl⟩
  | mapP k t el l w=>cases w with
    | none=>simp only [renO,Option.some.injEq] at e;subst e;exact ⟨rfl,rfl⟩
    | some q=>simp only [renO] at e;cases e
  | iter m s n t=>simp only [renO] at e;cases e
  | loop a b c d f g i=>simp only [renO] at e;cases e
theorem renO_mp {ι:Nat→Option Nat} {A:Hp} {o o':AO} (e:renO ι A o=some o'):o'.isMP=o.isMP:=by
  cases o with
  | cells cs el opn=>simp only [renO] at e;obtain ⟨c,_,rfl⟩:=om e;rfl
  | row t l el=>simp only [renO,Option.some.injEq] at e;subst e;rfl
  | frz t l=>simp only [renO] at e;cases e
  | map es c=>simp only [renO] at e;obtain ⟨c,_,rfl⟩:=om e;rfl
  | mapT k t ag l=>simp only [renO,Option.some.injEq] at e;subst e;rfl
  | mapP k t el l w=>cases w with
    | none=>simp only [renO,Option.some.injEq] at e;subst e;rfl
    | some q=>simp only [renO] at e;cases e
  | iter m s n t=>simp only [renO] at e;cases e
  | loop a b c d f g i=>simp only [renO] at e;cases e
structure Rn (ι:Nat→Option Nat) (A A2:Hp):Prop where
  obj:∀ γ o',A2.t.get γ=some o'→∃ β o,A.t.get β=some o∧ι β=some γ∧renO ι A o=some o'
theorem HR.ren {ι:Nat→Option Nat} {A A2:Hp} {σ σ2:Sg} {h:Heap} (hk:HR σ A h) (R:Rn ι A A2) (H:∀ β γ p,ι β=some γ→σ β=some p→σ2 γ=some p) (hz:σ2.fz=σ.fz) (hzx:σ2.ex=σ.ex) (hd:∀ γ p,σ2 γ=some p→γ < A2.nx∧∃ β,σ β=some p):HR σ2 A2 h∧∀ b,Lv σ2 A2 b→Lv σ A b:=by
  have hz':∀ b us,σ.fz b=some us→σ2.fz b=some us:=fun b us e=>by rw [hz];exact e
  have pull:∀ γ o' p,A2.t.get γ=some o'→σ2 γ=some p→∃ β o,A.t.get β=some o∧ι β=some γ∧o.live=true∧σ β=some p∧o'.isMP=o.isMP:=fun γ o' p e hp=>by
    obtain ⟨β,o,h1,h2,h3⟩:=R.obj γ o' e
    obtain ⟨q,h4,_⟩:=hk.obj β o h1
    have:=H _ _ _ h2 h4
    rw [hp] at this
    injection this with this
    subst this
    exact ⟨β,o,h1,h2,(renO_live h3).1,h4,renO_mp h3⟩
  have hlv:∀ b,Lv σ2 A2 b→Lv σ A b:=fun b ⟨γ,o',p,e,_,hp,hn,hb⟩=>by
    obtain ⟨β,o,h1,_,h3,h4,h5⟩:=pull γ o' p e hp
    exact ⟨β,o,p,h1,h3,h4,hn,by unfold Ow at hb ⊢;rw [← hzx,← h5];exact hb⟩
  refine ⟨⟨fun γ o' e=>?_,fun γ γ' o1 o2 p1 p2 e1 e2 _ _ s1 s2 w1 w2 b hb hb'=>?_,fun γ p e=>(hd γ p e).1,fun γ p e hn=>?_,fun b us e=>?_,by rw [hzx];exact hk.exl,fun b us e=>let ⟨u,h1,h2⟩:=hk.gl b us e;⟨u,hz' b u h1,h2⟩⟩,hlv⟩
  · obtain ⟨β,o,h1,h2,h3⟩:=R.obj γ o' e
    obtain ⟨p,h4,h5⟩:=hk.obj β o h1
    exact ⟨p,H _ _ _ h2 h4,h5.ren hk H hz' (by rw [hzx]) h3⟩
  · obtain ⟨β,o,h1,h2,h3,h4,h5⟩:=pull γ o1 p1 e1 s1
    obtain ⟨β',o',h1',h2',h3',h4',h5'⟩:=pull γ' o2 p2 e2 s2
    have:=hk.inj _ _ _ _ _ _ h1 h1' h3 h3' h4 h4' w1 w2 b (by unfold Ow at hb ⊢;rw [← hzx,← h5];exact hb) (by unfold Ow at hb' ⊢;rw [← hzx,← h5'];exact hb')
    subst this
    rw [h2] at h2'
    injection h2'
  · obtain ⟨_,β,hβ⟩:=hd γ p e
    exact hk.ltb β p hβ hn
  · rw [hz] at e
    exact ⟨(hk.frz b us e).1,fun hL=>(hk.frz b us e).2 (hlv b hL)⟩
end Go.RK
