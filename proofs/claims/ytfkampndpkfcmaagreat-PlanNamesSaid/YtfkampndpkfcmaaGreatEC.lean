import Derived.Test.YtfkampndpkfcmaaGreatEB
set_option linter.unusedVariables false
namespace Go.Eng
open Go
inductive CS where
 | int (k:IntKind)
 | bool
 | str
 | frz (t:Ty)
 | sub (id:Nat)
 | ptr (id off:Nat)
 | sl (id:Nat)
 | func (f:Nat) (caps:List (Nat×Nat))
 | nilp
 | ifp (t id off:Nat)
 | ifd (t:Nat) (ag:Bool) (ty:Ty)
inductive VS0 where
 | c (x:CS)
 | agg (l:List CS)
inductive VS where
 | c (x:CS)
 | agg (l:List CS)
 | tup (l:List VS0)
inductive SS where
 | gone
 | box (l:List CS)
 | row (t:Ty)
 | fro (t:Ty)
 | nest (t:Ty)
 | mp (k v:Ty)
def hl:List Ty→Type
 | []=>Unit
 | a::l=>a.den×hl l
def tp:List Ty→Type
 | []=>Unit
 | [a]=>a.den
 | a::b::l=>a.den×tp (b::l)
def toT:(l:List Ty)→hl l→tp l
 | [],_=>()
 | [_],h=>h.1
 | _::b::l,h=>(h.1,toT (b::l) h.2)
def ofT:(l:List Ty)→tp l→hl l
 | [],_=>()
 | [_],v=>(v,())
 | _::b::l,v=>(v.1,ofT (b::l) v.2)
theorem ofT_toT:(l:List Ty)→(h:hl l)→ofT l (toT l h)=h
 | [],_=>rfl
 | [_],_=>rfl
 | _::b::l,h=>by
  show (h.1,ofT (b::l) (toT (b::l) h.2))=h
  rw [ofT_toT (b::l) h.2]
  rfl
@[reducible] def CS.ls (acc:List Ty):CS→List Ty
 | .int k=>.int k::acc
 | .bool=>.bool::acc
 | .str=>.str::acc
 | .frz t=>.slice t::acc
 | .sub _=>.int .i64 :: .int .i64::acc
 | .ifd _ _ ty=>ty::acc
 | _=>acc
def CS.enc {acc:List Ty}:(c:CS)→hl (c.ls acc)→Cell×hl acc
 | .int k,h=>(.int k h.1,h.2)
 | .bool,h=>(.bool h.1,h.2)
 | .str,h=>(.str h.1,h.2)
 | .frz t,h=>(.frz t h.1,h.2)
 | .sub i,h=>(.sub i h.1 h.2.1,h.2.2)
 | .ptr i o,h=>(.ptr i o,h)
 | .sl i,h=>(.sl i,h)
 | .func f c,h=>(.func f c,h)
 | .nilp,h=>(.nilp,h)
 | .ifp t i o,h=>(.ifp t i o,h)
 | .ifd t ag ty,h=>(.ifd t ag ty h.1,h.2)
def CS.dec {acc:List Ty}:(c:CS)→Cell→hl acc→Option (hl (c.ls acc))
 | .int k,.int k' n,h=>if k'=k then some (n,h) else none
 | .bool,.bool b,h=>some (b,h)
 | .str,.str b,h=>some (b,h)
 | .frz t,.frz t' xs,h=>if e:t'=t then some (e ▸ xs,h) else none
 | .sub i,.sub i' a b,h=>if i'=i then some (a,b,h) else none
 | .ptr i o,.ptr i' o',h=>if i'=i∧o'=o then some h else none
 | .sl i,.sl i',h=>if i'=i then some h else none
 | .func f c,.func f' c',h=>if f'=f∧c'=c then some h else none
 | .nilp,.nilp,h=>some h
 | .ifp t i o,.ifp t' i' o',h=>if t'=t∧i'=i∧o'=o then some h else none
 | .ifd t ag ty,.ifd t' ag' ty' x,h=>if t'=t∧ag'=ag then if e:ty'=ty then some (e ▸ x,h) else none else none
 | _,_,_=>none
theorem CS.dec_ok {acc:List Ty} {c:CS} {x:Cell} {h:hl acc} {y:hl (c.ls acc)} (e:c.dec x h=some y):c.enc y=(x,h):=by
 unfold CS.dec at e
 split at e
 ·split at e
  ·rename_i k; subst k; cases e; rfl
  ·cases e
 ·cases e; rfl
 ·cases e; rfl
 ·split at e
  ·rename_i k; subst k; cases e; rfl
  ·cases e
 ·split at e
  ·rename_i k; subst k; cases e; rfl
  ·cases e
 ·split at e
  ·rename_i k; obtain ⟨k1,k2⟩:=k; subst k1 k2; cases e; rfl
  ·cases e
 ·split at e
  ·rename_i k; subst k; cases e; rfl
  ·cases e
 ·split at e
  ·rename_i k; obtain ⟨k1,k2⟩:=k; subst k1 k2; cases e; rfl
  ·cases e
 ·cases e; rfl
 ·split at e
  ·rename_i k; obtain ⟨k1,k2,k3⟩:=k; subst k1 k2 k3; cases e; rfl
  ·cases e
 ·split at e
  ·split at e
   ·rename_i k k2; obtain ⟨k1,k3⟩:=k; subst k1 k3; subst k2; cases e; rfl
   ·cases e
  ·cases e
 ·cases e
@[reducible] def cls (acc:List Ty):List CS→List Ty
 | []=>acc
 | c::l=>c.ls (cls acc l)
def cenc {acc:List Ty}:(l:List CS)→hl (cls acc l)→List Cell×hl acc
 | [],h=>([],h)
 | c::l,h=>((CS.enc (acc:=cls acc l) c h).1::(cenc l (CS.enc (acc:=cls acc l) c h).2).1,(cenc l (CS.enc (acc:=cls acc l) c h).2).2)
def cdec {acc:List Ty}:(l:List CS)→List Cell→hl acc→Option (hl (cls acc l))
 | [],[],h=>some h
 | c::l,x::xs,h=>match cdec l xs h with | some h'=>c.dec x h' | none=>none
 | _,_,_=>none
theorem cdec_ok {acc:List Ty} {l:List CS} {xs:List Cell} {h:hl acc} {y:hl (cls acc l)} (e:cdec l xs h=some y):cenc l y=(xs,h):=by
 induction l generalizing xs with
 | nil=>
  cases xs with
  | nil=>cases e; rfl
  | cons=>cases e
 | cons c l ih=>
  cases xs with
  | nil=>cases e
  | cons x xs=>
   unfold cdec at e
   split at e
   ·rename_i h' e1
    have e2:=CS.dec_ok e
    have e3:=ih e1
    unfold cenc
    rw [e2,e3]
   ·cases e
@[reducible] def VS0.ls (acc:List Ty):VS0→List Ty
 | .c x=>x.ls acc
 | .agg l=>cls acc l
def VS0.enc {acc:List Ty}:(s:VS0)→hl (s.ls acc)→AV0×hl acc
 | .c x,h=>(.c (x.enc h).1,(x.enc h).2)
 | .agg l,h=>(.agg (cenc l h).1,(cenc l h).2)
def VS0.dec {acc:List Ty}:(s:VS0)→AV0→hl acc→Option (hl (s.ls acc))
 | .c x,.c y,h=>x.dec y h
 | .agg l,.agg ys,h=>cdec l ys h
 | _,_,_=>none
theorem VS0.dec_ok {acc:List Ty} {c:VS0} {x:AV0} {h:hl acc} {y:hl (c.ls acc)} (e:c.dec x h=some y):c.enc y=(x,h):=by
 unfold VS0.dec at e
 split at e
 ·rename_i x _
  have:=CS.dec_ok e
  show ((AV0.c (x.enc _).1,(x.enc _).2):AV0×hl acc)=_
  rw [this]
 ·rename_i x _
  have:=cdec_ok e
  show ((AV0.agg (cenc x _).1,(cenc x _).2):AV0×hl acc)=_
  rw [this]
 ·cases e
@[reducible] def vls0 (acc:List Ty):List VS0→List Ty
 | []=>acc
 | c::l=>c.ls (vls0 acc l)
def venc0 {acc:List Ty}:(l:List VS0)→hl (vls0 acc l)→List AV0×hl acc
 | [],h=>([],h)
 | c::l,h=>((VS0.enc (acc:=vls0 acc l) c h).1::(venc0 l (VS0.enc (acc:=vls0 acc l) c h).2).1,(venc0 l (VS0.enc (acc:=vls0 acc l) c h).2).2)
def vdec0 {acc:List Ty}:(l:List VS0)→List AV0→hl acc→Option (hl (vls0 acc l))
 | [],[],h=>some h
 | c::l,x::xs,h=>match vdec0 l xs h with | some h'=>c.dec x h' | none=>none
 | _,_,_=>none
theorem vdec0_ok {acc:List Ty} {l:List VS0} {xs:List AV0} {h:hl acc} {y:hl (vls0 acc l)} (e:vdec0 l xs h=some y):venc0 l y=(xs,h):=by
 induction l generalizing xs with
 | nil=>
  cases xs with
  | nil=>cases e; rfl
  | cons=>cases e
 | cons c l ih=>
  cases xs with
  | nil=>cases e
  | cons x xs=>
   unfold vdec0 at e
   split at e
   ·rename_i h' e1
    have e2:=VS0.dec_ok e
    have e3:=ih e1
    unfold venc0
    rw [e2,e3]
   ·cases e
@[reducible] def VS.ls (acc:List Ty):VS→List Ty
 | .c x=>x.ls acc
 | .agg l=>cls acc l
 | .tup l=>vls0 acc l
def VS.enc {acc:List Ty}:(s:VS)→hl (s.ls acc)→AV×hl acc
 | .c x,h=>(.c (x.enc h).1,(x.enc h).2)
 | .agg l,h=>(.agg (cenc l h).1,(cenc l h).2)
 | .tup l,h=>(.tup (venc0 l h).1,(venc0 l h).2)
def VS.dec {acc:List Ty}:(s:VS)→AV→hl acc→Option (hl (s.ls acc))
 | .c x,.c y,h=>x.dec y h
 | .agg l,.agg ys,h=>cdec l ys h
 | .tup l,.tup ys,h=>vdec0 l ys h
 | _,_,_=>none
theorem VS.dec_ok {acc:List Ty} {c:VS} {x:AV} {h:hl acc} {y:hl (c.ls acc)} (e:c.dec x h=some y):c.enc y=(x,h):=by
 unfold VS.dec at e
 split at e
 ·rename_i x _
  have:=CS.dec_ok e
  show ((AV.c (x.enc _).1,(x.enc _).2):AV×hl acc)=_
  rw [this]
 ·rename_i x _
  have:=cdec_ok e
  show ((AV.agg (cenc x _).1,(cenc x _).2):AV×hl acc)=_
  rw [this]
 ·rename_i x _
  have:=vdec0_ok e
  show ((AV.tup (venc0 x _).1,(venc0 x _).2):AV×hl acc)=_
  rw [this]
 ·cases e
@[reducible] def vls (acc:List Ty):List VS→List Ty
 | []=>acc
 | c::l=>c.ls (vls acc l)
def venc {acc:List Ty}:(l:List VS)→hl (vls acc l)→List AV×hl acc
 | [],h=>([],h)
 | c::l,h=>((VS.enc (acc:=vls acc l) c h).1::(venc l (VS.enc (acc:=vls acc l) c h).2).1,(venc l (VS.enc (acc:=vls acc l) c h).2).2)
def vdec {acc:List Ty}:(l:List VS)→List AV→hl acc→Option (hl (vls acc l))
 | [],[],h=>some h
 | c::l,x::xs,h=>match vdec l xs h with | some h'=>c.dec x h' | none=>none
 | _,_,_=>none
theorem vdec_ok {acc:List Ty} {l:List VS} {xs:List AV} {h:hl acc} {y:hl (vls acc l)} (e:vdec l xs h=some y):venc l y=(xs,h):=by
 induction l generalizing xs with
 | nil=>
  cases xs with
  | nil=>cases e; rfl
  | cons=>cases e
 | cons c l ih=>
  cases xs with
  | nil=>cases e
  | cons x xs=>
   unfold vdec at e
   split at e
   ·rename_i h' e1
    have e2:=VS.dec_ok e
    have e3:=ih e1
    unfold venc
    rw [e2,e3]
   ·cases e
@[reducible] def SS.ls (acc:List Ty):SS→List Ty
 | .box l=>cls acc l
 | .row t=>.slice t::acc
 | .fro t=>.slice t::acc
 | .nest t=>.slice t::acc
 | .mp k v=>.slice (.pair k (.pair v (.int .i64))) :: .int .i64::acc
 | _=>acc
def SS.enc {acc:List Ty}:(s:SS)→hl (s.ls acc)→Slot×hl acc
 | .gone,h=>(.gone,h)
 | .box l,h=>(.box (cenc l h).1,(cenc l h).2)
 | .row t,h=>(.row t h.1,h.2)
 | .fro t,h=>(.fro t h.1,h.2)
 | .nest t,h=>(.nest t h.1 none,h.2)
 | .mp k v,h=>(.mp k v h.1 h.2.1,h.2.2)
def SS.dec {acc:List Ty}:(s:SS)→Slot→hl acc→Option (hl (s.ls acc))
 | .gone,.gone,h=>some h
 | .box l,.box xs,h=>cdec l xs h
 | .row t,.row t' xs,h=>if e:t'=t then some (e ▸ xs,h) else none
 | .fro t,.fro t' xs,h=>if e:t'=t then some (e ▸ xs,h) else none
 | .nest t,.nest t' xs none,h=>if e:t'=t then some (e ▸ xs,h) else none
 | .mp k v,.mp k' v' xs c,h=>if e:k'=k then if f:v'=v then some (e ▸ f ▸ xs,c,h) else none else none
 | _,_,_=>none
theorem SS.dec_ok {acc:List Ty} {c:SS} {x:Slot} {h:hl acc} {y:hl (c.ls acc)} (e:c.dec x h=some y):c.enc y=(x,h):=by
 unfold SS.dec at e
 split at e
 ·cases e; rfl
 ·rename_i x _
  have:=cdec_ok e
  show ((Slot.box (cenc x _).1,(cenc x _).2):Slot×hl acc)=_
  rw [this]
 ·split at e
  ·rename_i k; subst k; cases e; rfl
  ·cases e
 ·split at e
  ·rename_i k; subst k; cases e; rfl
  ·cases e
 ·split at e
  ·rename_i k; subst k; cases e; rfl
  ·cases e
 ·split at e
  ·split at e
   ·rename_i k k2; subst k; subst k2; cases e; rfl
   ·cases e
  ·cases e
 ·cases e
@[reducible] def sls (acc:List Ty):List SS→List Ty
 | []=>acc
 | c::l=>c.ls (sls acc l)
def senc {acc:List Ty}:(l:List SS)→hl (sls acc l)→List Slot×hl acc
 | [],h=>([],h)
 | c::l,h=>((SS.enc (acc:=sls acc l) c h).1::(senc l (SS.enc (acc:=sls acc l) c h).2).1,(senc l (SS.enc (acc:=sls acc l) c h).2).2)
def sdec {acc:List Ty}:(l:List SS)→List Slot→hl acc→Option (hl (sls acc l))
 | [],[],h=>some h
 | c::l,x::xs,h=>match sdec l xs h with | some h'=>c.dec x h' | none=>none
 | _,_,_=>none
theorem sdec_ok {acc:List Ty} {l:List SS} {xs:List Slot} {h:hl acc} {y:hl (sls acc l)} (e:sdec l xs h=some y):senc l y=(xs,h):=by
 induction l generalizing xs with
 | nil=>
  cases xs with
  | nil=>cases e; rfl
  | cons=>cases e
 | cons c l ih=>
  cases xs with
  | nil=>cases e
  | cons x xs=>
   unfold sdec at e
   split at e
   ·rename_i h' e1
    have e2:=SS.dec_ok e
    have e3:=ih e1
    unfold senc
    rw [e2,e3]
   ·cases e
structure AS where
 vs:List VS
 ss:List SS
structure OS where
 v:VS
 ss:List SS
@[reducible] def AS.ls (s:AS):List Ty:=vls (sls [] s.ss) s.vs
@[reducible] def OS.ls (s:OS):List Ty:=s.v.ls (sls [] s.ss)
def AS.args (s:AS) (v:tp s.ls):List AV:=(venc (acc:=sls [] s.ss) s.vs (ofT s.ls v)).1
def AS.slots (s:AS) (v:tp s.ls):List Slot:=(senc (acc:=[]) s.ss (venc (acc:=sls [] s.ss) s.vs (ofT s.ls v)).2).1
def AS.dec (s:AS) (args:List AV) (ss:List Slot):Option (tp s.ls):=
 match sdec (acc:=[]) s.ss ss () with
 | some h=>match vdec s.vs args h with
  | some y=>some (toT s.ls y)
  | none=>none
 | none=>none
def OS.enc (s:OS) (v:tp s.ls):Out:=((s.v.enc (acc:=sls [] s.ss) (ofT s.ls v)).1,(senc (acc:=[]) s.ss (s.v.enc (acc:=sls [] s.ss) (ofT s.ls v)).2).1)
def OS.dec (s:OS) (o:Out):Option (tp s.ls):=
 match sdec (acc:=[]) s.ss o.2 () with
 | some h=>match s.v.dec o.1 h with
  | some y=>some (toT s.ls y)
  | none=>none
 | none=>none
theorem AS.dec_ok {s:AS} {args:List AV} {ss:List Slot} {v:tp s.ls} (e:s.dec args ss=some v):s.args v=args∧s.slots v=ss:=by
 unfold AS.dec at e
 split at e
 ·rename_i h e1
  split at e
  ·rename_i y e2
   cases e
   unfold AS.args AS.slots
   rw [ofT_toT,vdec_ok e2]
   exact ⟨rfl,by rw [sdec_ok e1]⟩
  ·cases e
 ·cases e
theorem OS.dec_ok (s:OS) (o:Out) (v:tp s.ls) (e:s.dec o=some v):o=s.enc v:=by
 unfold OS.dec at e
 split at e
 ·rename_i h e1
  split at e
  ·rename_i y e2
   cases e
   unfold OS.enc
   rw [ofT_toT,VS.dec_ok e2,sdec_ok e1]
  ·cases e
 ·cases e
noncomputable def specS (s:AS) (o:OS) (f:tp s.ls→Option (tp o.ls)) (args:List AV) (ss:List Slot):Option Ans:=
 match s.dec args ss with
 | some v=>some ⟨tp o.ls,f v,o.enc⟩
 | none=>none
theorem specS_ok {P:Program} {cs:Nat→Ctx} {g:FuncId} {fn:Func} {s:AS} {o:OS} {f:Nat→tp s.ls→Option (tp o.ls)} (hC:∀ n,CtxOk P (cs n)) (hfn:P.funcs[g]? = some fn)
  (hn:(fn.name == "runtime.NumGoroutine")=false) (hb:fn.body.isNone=false) (hf:∀ k v,f k v=runFn cs k fn (s.args v) (s.slots v) o.dec) (k:Nat):SpecOk P g (specS s o (f k)):=by
 intro args ss ans x h hx X σ w vals hp
 unfold specS at h
 split at h
 ·rename_i v e
  cases h
  obtain ⟨e1,e2⟩:=AS.dec_ok e
  subst e1 e2
  exact spec_of hC hfn hn hb (OS.dec_ok o) (hf k v).symm hx hp
 ·cases h
end Go.Eng
namespace Go.Eng
open Go
def Y {α:Type} (o:Option α) (Q:α→Prop):Prop:=∃ r,o=some r∧Q r
variable {α β:Type} {Q:α→Prop}
theorem Y.some {r:α} (h:Q r):Y (Option.some r) Q:=⟨r,rfl,h⟩
theorem Y.of {d D:Option α} (h:∀ {r},d=Option.some r→D=Option.some r) (k:Y d Q):Y D Q:=by
 obtain ⟨r,hr,hq⟩:=k
 exact ⟨r,h hr,hq⟩
theorem Y.pos {c:Bool} {a b:Option α} (hc:c=true) (h:Y a Q):Y (br c a b) Q:=by rw [br_pos hc]; exact h
theorem Y.neg {c:Bool} {a b:Option α} (hc:c=false) (h:Y b Q):Y (br c a b) Q:=by rw [br_neg hc]; exact h
theorem Y.bif {c:Bool} {a b:Option α} (h:c=true→Y a Q) (k:c=false→Y b Q):Y (br c a b) Q:=by
 cases c with
 | true=>exact h rfl
 | false=>exact k rfl
theorem Y.pd {p:Prop} [Decidable p] {a b:Option α} (hc:p) (h:Y a Q):Y (br (decide p) a b) Q:=Y.pos (by simpa using hc) h
theorem Y.nd {p:Prop} [Decidable p] {a b:Option α} (hc:¬ p) (h:Y b Q):Y (br (decide p) a b) Q:=Y.neg (by simpa using hc) h
theorem Y.ite {p:Prop} [Decidable p] {a b:Option α} (h:p→Y a Q) (k:¬ p→Y b Q):Y (br (decide p) a b) Q:=by
 by_cases hc:p
 ·exact Y.pd hc (h hc)
 ·exact Y.nd hc (k hc)
theorem Y.np {p:Prop} [Decidable p] {a b:Option α} (hc:p) (h:Y b Q):Y (br (!decide p) a b) Q:=Y.neg (by simpa using hc) h
theorem Y.nn {p:Prop} [Decidable p] {a b:Option α} (hc:¬ p) (h:Y a Q):Y (br (!decide p) a b) Q:=Y.pos (by simpa using hc) h
theorem Y.nite {p:Prop} [Decidable p] {a b:Option α} (h:¬ p→Y a Q) (k:p→Y b Q):Y (br (!decide p) a b) Q:=by
 by_cases hc:p
 ·exact Y.np hc (k hc)
 ·exact Y.nn hc (h hc)
theorem Y.np' {p:Prop} [Decidable p] {a b:Option α} (hc:¬ p) (h:Y a Q):Y (br (!decide p) a b) Q:=Y.nn hc h
theorem Y.bnd {o:Option β} {k:β→Option α} (P:β→Prop) (h:Y o P) (g:∀ x,P x→Y (k x) Q):Y (bnd o k) Q:=by
 obtain ⟨x,rfl,hx⟩:=h
 exact g x hx
theorem Y.bE {o:Option β} {k:β→Option α} {x:β} (h:o=Option.some x) (g:Y (k x) Q):Y (Eng.bnd o k) Q:=by
 subst h
 exact g
theorem Y.both {x y:Option α} {r:α} (h:x=Option.some r) (k:y=Option.some r) (q:Q r):Y (Eng.both x y) Q:=⟨r,both_iff.mpr ⟨h,k⟩,q⟩
theorem Y.mono {o:Option α} {P:α→Prop} (h:Y o P) (k:∀ r,P r→Q r):Y o Q:=by
 obtain ⟨r,hr,hp⟩:=h
 exact ⟨r,hr,k r hp⟩
theorem Y.is {o:Option α} {a:α} (h:Y o (fun r=>r=a)):o=Option.some a:=by
 obtain ⟨r,hr,rfl⟩:=h
 exact hr
theorem Y.ev {o:Option α} {a:α} (h:o=Option.some a) (q:Q a):Y o Q:=⟨a,h,q⟩
theorem Y.eq {o p:Option α} (h:o=p) (k:Y p Q):Y o Q:=by rw [h]; exact k
theorem wr_i64 (n:Int):wrap .i64 n=(n + 9223372036854775808) % 18446744073709551616 - 9223372036854775808:=by
 simp only [wrap,IntKind.wrap,IntKind.signed,IntKind.bits,Bool.true_and,decide_eq_true_eq,Int.reducePow,Nat.reduceSub,ge_iff_le]
 split <;> omega
theorem wr_i32 (n:Int):wrap .i32 n=(n + 2147483648) % 4294967296 - 2147483648:=by
 simp only [wrap,IntKind.wrap,IntKind.signed,IntKind.bits,Bool.true_and,decide_eq_true_eq,Int.reducePow,Nat.reduceSub,ge_iff_le]
 split <;> omega
theorem wr_u8 (n:Int):wrap .u8 n=n % 256:=by
 simp [wrap,IntKind.wrap,IntKind.signed,IntKind.bits]
theorem wr_u16 (n:Int):wrap .u16 n=n % 65536:=by
 simp [wrap,IntKind.wrap,IntKind.signed,IntKind.bits]
theorem wr_u32 (n:Int):wrap .u32 n=n % 4294967296:=by
 simp [wrap,IntKind.wrap,IntKind.signed,IntKind.bits]
theorem wr_u64 (n:Int):wrap .u64 n=n % 18446744073709551616:=by
 simp [wrap,IntKind.wrap,IntKind.signed,IntKind.bits]
theorem w64 {x:Int} (h0:-9223372036854775808≤x) (h1:x≤9223372036854775807):wrap .i64 x=x:=by
 rw [wr_i64]
 omega
theorem w64_range (x:Int):-9223372036854775808≤wrap .i64 x∧wrap .i64 x≤9223372036854775807:=by
 rw [wr_i64]
 omega
theorem wf64 {x:Int}:(Lit.int .i64 x).wf=true↔-9223372036854775808≤x∧x≤9223372036854775807:=by
 simp [Lit.wf,IntKind.min,IntKind.max,IntKind.signed,IntKind.bits]
theorem wfu8 {x:Int}:(Lit.int .u8 x).wf=true↔0≤x∧x≤255:=by
 simp [Lit.wf,IntKind.min,IntKind.max,IntKind.signed,IntKind.bits]
theorem rd_nat {t:Ty} (l:List t.den) (i:Nat) (h:i < l.length):rd t l (i:Int)=l[i]:=by
 unfold rd
 rw [List.getD_eq_getElem?_getD,show ((i:Int).toNat)=i by omega,List.getElem?_eq_getElem h]
 rfl
theorem rd_drop {t:Ty} (l:List t.den) (i:Nat) (h:i < l.length):l.drop i=rd t l (i:Int)::l.drop (i + 1):=by
 rw [List.drop_eq_getElem_cons h,rd_nat l i h]
theorem rd_mem {t:Ty} (l:List t.den) (i:Int) (h0:0≤i) (h:i < l.length):rd t l i ∈ l:=by
 obtain ⟨n,rfl⟩:∃ n:Nat,i=n:=⟨i.toNat,by omega⟩
 rw [rd_nat l n (by omega)]
 exact List.getElem_mem _
theorem tmod_neg_add {x n:Int} (hn:1≤n) (h:Int.tmod x n < 0):Int.tmod x n + n=x % n:=by
 have h1:Int.tmod x n=x % n - (if 0≤x∨n ∣ x then 0 else Int.natAbs n:Nat):=Int.tmod_eq_emod
 have h2:=Int.emod_nonneg x (b:=n) (by omega)
 have h3:(n.natAbs:Int)=n:=by omega
 rw [h1] at h ⊢
 split at h
 ·exact absurd h (by omega)
 ·rename_i h4
  rw [if_neg h4]
  omega
theorem tmod_of_nonneg {x n:Int} (hn:1≤n) (h:¬ Int.tmod x n < 0):Int.tmod x n=x % n:=by
 have h1:Int.tmod x n=x % n - (if 0≤x∨n ∣ x then 0 else Int.natAbs n:Nat):=Int.tmod_eq_emod
 have h2:=Int.emod_lt_of_pos x (b:=n) (by omega)
 have h3:(n.natAbs:Int)=n:=by omega
 rw [h1] at h ⊢
 split at h
 ·rename_i h4
  rw [if_pos h4]
  omega
 ·exact absurd (by omega) h
end Go.Eng
