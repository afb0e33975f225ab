import PyProof.Rows.All
import Wide.All
import OpenK.AllK
import Wide.FinOn
import Lean
import PySem.Challenge.RW_xw0255_01
set_option maxRecDepth 100000
set_option Elab.async false
set_option linter.all false
set_option genInjectivity false
set_option genSizeOf false
namespace Mine
local macro_rules | `(tactic| omega)=>`(tactic| first | lia | omega (splitDisjunctions:=true))
section
open PySem PySem.Calls PyProof.Rows PySem.W Builtin
noncomputable def iZ:Code→Bool
 | .builtin n _=>!Bytes.decodersThatHold.contains n
 | _=>true
noncomputable def vZ(Γ:Ctx):Prop:=∀ x∈Γ.below,iZ x.1=true
noncomputable def t5(Γ:Ctx):Prop:=iZ Γ.code=true∧vZ Γ
noncomputable def aT{α:Type}(M:Model)(A:Around)(t:Sem α)(Q:α→Shared→Prop)(E:Value→Shared→Prop)(s:Shared):Prop :=
 ∀ Γ p,Γ.In A→t5 Γ→Sem.wp M Γ t (fun a _ s'=>Q a s') (fun e _ s'=>E e s') p s
noncomputable def bO(M:Model)(A:Around)(c:Code)(R:Result→Shared→Prop)(s:Shared):Prop :=
 ∀ Γ p,Γ.code=c→Γ.Below A→vZ Γ→wpCode M Γ R p s
section
variable{α β:Type}{M:Model}{A:Around}{E E':Value→Shared→Prop}{s:Shared}{R R':Result→Shared→Prop}
theorem am{t:Sem α}{Q:α→Shared→Prop}(h:wpAny M A t Q E s):aT M A t Q E s:=fun Γ p hΓ _=>h Γ p hΓ
theorem ut{c:Code}(h:codeAny M A c R s):bO M A c R s:=fun Γ p hc hΓ _=>h Γ p hc hΓ
theorem af{a:α}{Q:α→Shared→Prop}(h:Q a s):aT M A (pure a) Q E s:=fun _ _ _ _=>h
theorem bz{t:Sem α}{Q Q':α→Shared→Prop}(h:aT M A t Q E s)(hQ:∀ a s,Q a s→Q' a s)(hE:∀ e s,E e s→E' e s):aT M A t Q' E' s :=
 fun Γ p hΓ c=>Sem.wp_mono M Γ t (fun a _ s=>hQ a s) (fun e _ s=>hE e s) p s (h Γ p hΓ c)
theorem ab{m:Sem α}{f:α→Sem β}{Q:β→Shared→Prop}(h:aT M A m (fun a s'=>aT M A (f a) Q E s') E s):aT M A (m >>= f) Q E s :=
 fun Γ p hΓ c=>(Sem.wp_bind' ..).symm▸Sem.wp_mono M Γ m (fun a p' s' h'=>h' Γ p' hΓ c) (fun _ _ _ h'=>h') p s (h Γ p hΓ c)
theorem ai{m:Sem α}{f:α→Sem β}{Q:β→Shared→Prop}(h:wpAny M A m (fun a s'=>aT M A (f a) Q E s') E s):aT M A (m >>= f) Q E s:=ab (am h)
theorem cn{m:Sem α}{f:α→Sem β}{a:α}{Q:β→Shared→Prop}(e:m=pure a)(h:aT M A (f a) Q E s):aT M A (m >>= f) Q E s:=e▸ab (af h)
theorem b9{f:α→Sem β}{a:α}{Q:β→Shared→Prop}(h:aT M A (f a) Q E s):aT M A (pure a >>= f) Q E s:=ab (af h)
theorem bh{m:Sem α}{k:Value→Sem Unit}{Q:α→Shared→Prop}(h:aT M A m Q (fun e s'=>aT M A (k e) (fun _ s''=>E e s'') E s') s):aT M A (m.onRaise k) Q E s:=fun Γ p hΓ c =>
 (Sem.wp_onRaise ..).symm▸Sem.wp_mono M Γ m (fun _ _ _ h'=>h') (fun e p' s' h'=>h' Γ p' hΓ c) p s (h Γ p hΓ c)
theorem lz{m:Sem α}{Q:Except Value α→Shared→Prop}(h:aT M A m (fun a=>Q (.ok a)) (fun e=>Q (.error e)) s):aT M A m.attempt Q E s:=fun Γ p hΓ c=>(Sem.wp_attempt ..).symm▸h Γ p hΓ c
theorem aO{vs:List Value}{m:Sem α}{Q:α→Shared→Prop}(h:aT M A m Q E s):aT M A (holding vs m) Q E s:=fun Γ p hΓ c=>(Sem.wp_holding ..).symm▸h Γ p hΓ c
theorem ay{vs:List Value}{m:Sem α}{f:α→Sem β}{Q:β→Shared→Prop}(h:aT M A m (fun a s'=>aT M A (f a) Q E s') E s):aT M A (holding vs m >>= f) Q E s:=ab (aO h)
theorem zj{vs:List Value}{m:Sem α}{Q:α→Shared→Prop}(h:aT M A m Q E s):aT M A (m.keep vs) Q E s:=fun Γ p hΓ c=>(Sem.wp_keep ..).symm▸h Γ p hΓ c
theorem dq{vs:List Value}{m:Sem Value}{Q:Value→Shared→Prop}(h:aT M A m Q E s):aT M A (operate vs m) Q E s:=fun Γ p hΓ c=>(Sem.wp_operate ..).symm▸h Γ p hΓ c
theorem ao{pos:Pos}{f:Unit→Sem α}{Q:α→Shared→Prop}(h:aT M A (f ()) Q E s):aT M A (standAt pos >>= f) Q E s:=ai (wpAny_standAt h)
theorem ah{t t':Sem α}{Q:α→Shared→Prop}(e:t=t')(h:aT M A t' Q E s):aT M A t Q E s:=e▸h
theorem mr{c:Bool}{a b:Sem α}{Q:α→Shared→Prop}(hc:c=true)(h:aT M A a Q E s):aT M A (if c=true then a else b) Q E s:=by subst hc;exact h
theorem cH{c:Bool}{a b:Sem α}{Q:α→Shared→Prop}(hc:c=false)(h:aT M A b Q E s):aT M A (if c=true then a else b) Q E s:=by subst hc;exact h
theorem dS{c:Code}(h:bO M A c R s)(hR:∀ r s,R r s→R' r s):bO M A c R' s:=fun Γ p hc hΓ d=>wpCode_mono hR (h Γ p hc hΓ d)
theorem t5.enter{Γ:Ctx}(h:t5 Γ)(c:Code)(hd:Option Value)(p:Pos):vZ (Γ.enter c hd p):=fun x hx=>(List.mem_cons.mp hx).elim (fun e=>e▸h.1) (h.2 x)
theorem wW{c:Code}{h:Option Value}{Q:Flow→Shared→Prop}(hc:bO M (A.mark h) c (fun r s'=>match r with | .ok f=>Q f s' | .error e=>E e s') s)(hnb:h≠some byPass:=by intro x;cases x):aT M A (run c h) Q E s :=
 fun Γ p hΓ d=>(Sem.wp_run ..).symm▸hc _ p rfl (hΓ.enter c h p hnb) (d.enter c h p)
theorem js{c:Code}{Q:Value→Shared→Prop}(hc:bO M A c (fun r s'=>match r with | .ok (.ret v)=>Q v s' | .ok _=>False | .error e=>E e s') s):aT M A (runValue c) Q E s :=
 fun Γ p hΓ d=>(Sem.wp_runValue ..).symm▸hc _ p rfl (hΓ.enter c none p (by intro x;cases x)) (d.enter c none p)
theorem dh{f:Value}{pos:List Value}{kw:List (Str×Value)}{Q:Value→Shared→Prop}(hc:bO M A (.call f ⟨pos,kw⟩) (fun r s'=>match r with | .ok (.ret v)=>Q v s' | .ok _=>False | .error e=>E e s') s) :
 aT M A (call f pos kw) Q E s:=js hc
theorem aG{c:Code}(hn:iZ c=true)(h:aT M (A.under c) (M.den c) (fun fin s'=>match fin with | .done f=>R (.ok f) s' | .again c'=>c'.quiet=true∧bO M A c' R s') (fun e s'=>R (.error e) s') s) :
 bO M A c R s:=fun Γ p hc hΓ d=>by
 rw [wpCode_iff_wp,hc]
 refine Sem.wp_mono M Γ _ (fun fin p' s' h'=>?_) (fun _ _ _ h'=>h') p s (h Γ p (hc▸hΓ.in) ⟨hc▸hn,d⟩)
 cases fin with
 | done f=>exact h'
 | again c'=>exact ⟨h'.1,h'.2 (Γ.goto c') p' rfl (hΓ.goto c') d⟩
theorem zg{c:Code}(h:c.guards=[]):c.isGuard=false:=by
 cases e:c.isGuard with
 | false=>rfl
 | true=>rw [Code.guards,e] at h;cases h
theorem yu{l:List (Code×Pos)}(h:guardsOf l=[]):∀ x∈l,x.1.isGuard=false:=fun x hx=>by
 cases e:x.1.isGuard with
 | false=>rfl
 | true =>
  have m:x.1∈guardsOf l:=List.mem_filter.mpr ⟨List.mem_map.mpr ⟨x,hx,rfl⟩,e⟩
  rw [h] at m;cases m
theorem tY{id k:String}(h:guardIds.contains id=false)(hk:guardIds.contains k=true):¬ id=k:=fun e=>by rw [e,hk] at h;cases h
theorem je{c:Prop}[Decidable c]{t:c→Bool}{e:¬c→Bool}(h:¬c)(he:∀ h,e h=false):dite c t e=false:=(dif_neg h).trans (he h)
theorem BX{a:Addr}:∃ f:Code×Pos→Bool,Bytes.exported (.ref a)=(stack >>= fun st=>pure (st.any f))∧∀ x,x.1.isGuard=false→iZ x.1=true→¬ f x=true:=by
 refine ⟨_,rfl,fun x g d=>ne_true_of_eq_false ?_⟩
 obtain ⟨c,p⟩:=x
 cases c with
 | builtin id args =>
  obtain ⟨pos,kw⟩:=args
  have g:guardIds.contains id=false:=g
  have d':Bytes.decodersThatHold.contains id=false:=(Bool.not_eq_true' _).mp d
  delta Bytes.exported.match_1
  refine je (tY g (by decide +kernel)) fun _=>je (tY g (by decide +kernel)) fun _=>je (tY g (by decide +kernel)) fun _=>je (tY g (by decide +kernel)) fun _=>je (tY g (by decide +kernel)) fun _=>?_
  cases pos with
  | nil=>rfl
  | cons v r=>show (_&&_)=false;rw [d'];exact Bool.and_false _
 | _=>rfl
theorem um{a:Addr}{Q:Bool→Shared→Prop}(hg:A.guards=some [])(h:Q false s):aT M A (Bytes.exported (.ref a)) Q E s:=(BX (a:=a)).elim fun f w=>by
 rw [w.1]
 intro Γ p hΓ d
 rw [Sem.wp_bind']
 show Sem.wp M Γ (Sem.stack _) _ _ p s
 rw [Sem.wp_stack]
 have g:=hΓ.2.2.2.1 _ hg
 have q:((Γ.code,p) :: Γ.below).any f=false:=List.any_eq_false.mpr fun x hx=>(List.mem_cons.mp hx).elim
  (fun e=>w.2 x (e▸zg (List.append_eq_nil_iff.mp g).1) (e▸d.1)) fun m=>w.2 x (yu (List.append_eq_nil_iff.mp g).2 x m) (d.2 x m)
 show Q (((Γ.code,p) :: Γ.below).any f) s
 rw [q];exact h
end
end
section
open PySem PySem.Calls PyProof.Rows PySem.W
inductive B where
 | len | abs | min | max | sum | isinst | bytes | bytearray | int | list | tuple | range | enum
noncomputable def B.val:B→Value
 | .len=>.builtin "len" | .abs=>.builtin "abs" | .min=>.builtin "min" | .max=>.builtin "max" | .sum=>.builtin "sum"
 | .isinst=>.builtin "isinstance" | .bytes=>.type "bytes" | .bytearray=>.type "bytearray" | .int=>.type "int"
 | .list=>.type "list" | .tuple=>.type "tuple" | .range=>.type "range" | .enum=>.type "enumerate"
abbrev ae:=List UInt8
inductive V where
 | none
 | bool (b:Bool)
 | int (i:Int)
 | bytes (b:ae)
 | str (s:Nat)
 | tup (vs:List V)
 | ref (i:Nat)
 | fn (i:Nat)
 | cls (i:Nat)
 | blt (b:B)
inductive O where
 | list (vs:List V)
 | bar (b:ae)
 | attrs (es:List (Nat×V))
 | idict (es:List (Int×V))
 | sdict (es:List (Nat×V))
 | inst (c d:Nat)
structure Rt where
 prog:Program
 w:World
 K:Frag
 h₀:Heap
 mg:Str→Option Value
 mb:Str→Option Value
 fa:Nat→Addr
 ca:Nat→Addr
 nm:Nat→Str
 nn:Nat
 nc:Nat
abbrev Rt.M(R:Rt):Model:=model R.prog R.w
abbrev Fq(xs:Array Value)(n:Nat):PySem.Obj:={ cls:=.type "tuple",data:=.seq xs n }
abbrev dE(xs:Array Value)(n:Nat)(sl:Array (Option Value)):PySem.Obj:={ cls:=.type "tuple",data:=.seq xs n,slots:=sl }
abbrev bb(xs:Array Value)(n:Nat):PySem.Obj:={ cls:=.type "list",data:=.seq xs n }
abbrev aJ(b:ae):PySem.Obj:={ cls:=.type "bytearray",data:=.bytearray b.toArray 0 }
abbrev fU(es:List DictEntry)(n:Nat):PySem.Obj:={ cls:=.type "dict",data:=.dict es.toArray n }
mutual
inductive aq(R:Rt)(h:Heap)(ρ:List Addr):V→Value→Prop
 | none:aq R h ρ .none .none
 | bool (b):aq R h ρ (.bool b) (.bool b)
 | int (i t):aq R h ρ (.int i) (.int i t)
 | bytes (b t):aq R h ρ (.bytes b) (.bytes b.toArray t)
 | str (s t):s < R.nn→aq R h ρ (.str s) (.str (R.nm s) t)
 | tup {vs:List V} {xs:List Value} {a:Addr} {n:Nat} {sl:Array (Option Value)}:h.get? a=some (dE xs.toArray n sl)→VRels R h ρ vs xs→aq R h ρ (.tup vs) (.ref a)
 | ref {i:Nat} {a:Addr}:ρ[i]? = some a→aq R h ρ (.ref i) (.ref a)
 | fn (i):aq R h ρ (.fn i) (.ref (R.fa i))
 | cls (i):aq R h ρ (.cls i) (.ref (R.ca i))
 | blt (b) {v:Value}:v=b.val→aq R h ρ (.blt b) v
inductive VRels(R:Rt)(h:Heap)(ρ:List Addr):List V→List Value→Prop
 | nil:VRels R h ρ [] []
 | cons {v:V} {x:Value} {vs:List V} {xs:List Value}:aq R h ρ v x→VRels R h ρ vs xs→VRels R h ρ (v :: vs) (x :: xs)
end
noncomputable def dO(h h':Heap):Prop:=∀ a xs n sl,h.get? a=some (dE xs n sl)→∃ sl',h'.get? a=some (dE xs n sl')
noncomputable def yH(ρ ρ':List Addr):Prop:=∀ (i:Nat) (a:Addr),ρ[i]? = some a→ρ'[i]? = some a
noncomputable def Keeps(h h':Heap):Prop:=∀ b o,h.get? b=some o→h'.get? b=some o
theorem yH.refl(ρ:List Addr):yH ρ ρ:=fun _ _ e=>e
theorem Keeps.refl(h:Heap):Keeps h h:=fun _ _ e=>e
theorem Keeps.push(h:Heap)(o:PySem.Obj):Keeps h (h.push o):=fun _ _ e=>Heap.get?_push_of_some _ e
theorem Keeps.trans{h h' h'':Heap}(x:Keeps h h')(y:Keeps h' h''):Keeps h h'':=fun b o e=>y b o (x b o e)
section
variable{R:Rt}{h h' h'':Heap}{ρ ρ' ρ'' own:List Addr}
theorem aq.mono(ht:dO h h')(hp:yH ρ ρ'){v:V}{x:Value}(r:aq R h ρ v x):aq R h' ρ' v x :=
 aq.rec (motive_1:=fun v x _=>aq R h' ρ' v x) (motive_2:=fun vs xs _=>VRels R h' ρ' vs xs) .none .bool .int .bytes .str (fun e _ r=>(ht _ _ _ _ e).elim fun _ e'=>.tup e' r) (fun e=>.ref (hp _ _ e)) .fn .cls .blt .nil (fun _ _ a b=>.cons a b) r
theorem VRels.mono(ht:dO h h')(hp:yH ρ ρ'){v:List V}{x:List Value}(r:VRels R h ρ v x):VRels R h' ρ' v x :=
 VRels.rec (motive_1:=fun v x _=>aq R h' ρ' v x) (motive_2:=fun vs xs _=>VRels R h' ρ' vs xs) .none .bool .int .bytes .str (fun e _ r=>(ht _ _ _ _ e).elim fun _ e'=>.tup e' r) (fun e=>.ref (hp _ _ e)) .fn .cls .blt .nil (fun _ _ a b=>.cons a b) r
theorem VRels.ind{P:List V→List Value→Prop}(h0:P [] [])(h1:∀ v x vs xs,aq R h ρ v x→VRels R h ρ vs xs→P vs xs→P (v :: vs) (x :: xs)){vs:List V}{xs:List Value}(r:VRels R h ρ vs xs):P vs xs :=
 VRels.rec (motive_1:=fun _ _ _=>True) (motive_2:=fun vs xs _=>P vs xs) trivial (fun _=>trivial) (fun _ _=>trivial) (fun _ _=>trivial) (fun _ _ _=>trivial) (fun _ _ _=>trivial) (fun _=>trivial) (fun _=>trivial) (fun _=>trivial) (fun _ _ _=>trivial) h0 (fun a b _ q=>h1 _ _ _ _ a b q) r
section
variable{P:Value→Prop}{x:Value}
@[elab_as_elim] theorem aq.none'(r:aq R h ρ .none x)(k:P .none):P x:=by cases r;exact k
@[elab_as_elim] theorem aq.bool'{b:Bool}(r:aq R h ρ (.bool b) x)(k:P (.bool b)):P x:=by cases r;exact k
@[elab_as_elim] theorem aq.int'{i:Int}(r:aq R h ρ (.int i) x)(k:∀ t,P (.int i t)):P x:=by cases r;exact k _
@[elab_as_elim] theorem aq.bytes'{b:ae}(r:aq R h ρ (.bytes b) x)(k:∀ t,P (.bytes b.toArray t)):P x:=by cases r;exact k _
@[elab_as_elim] theorem aq.str'{i:Nat}(r:aq R h ρ (.str i) x)(k:∀ t,i < R.nn→P (.str (R.nm i) t)):P x:=by cases r;exact k _ ‹_›
@[elab_as_elim] theorem aq.tup'{vs:List V}(r:aq R h ρ (.tup vs) x)(k:∀ a xs n sl,h.get? a=some (dE xs.toArray n sl)→VRels R h ρ vs xs→P (.ref a)):P x:=by cases r;exact k _ _ _ _ ‹_› ‹_›
@[elab_as_elim] theorem aq.ref'{i:Nat}(r:aq R h ρ (.ref i) x)(k:∀ a,ρ[i]? = some a→P (.ref a)):P x:=by cases r;exact k _ ‹_›
@[elab_as_elim] theorem aq.fn'{i:Nat}(r:aq R h ρ (.fn i) x)(k:P (.ref (R.fa i))):P x:=by cases r;exact k
@[elab_as_elim] theorem aq.cls'{i:Nat}(r:aq R h ρ (.cls i) x)(k:P (.ref (R.ca i))):P x:=by cases r;exact k
@[elab_as_elim] theorem aq.blt'{b:B}(r:aq R h ρ (.blt b) x)(k:P b.val):P x:=by cases r;subst_vars;exact k
end
section
variable{P:List Value→Prop}{xs:List Value}
@[elab_as_elim] theorem VRels.nil'(r:VRels R h ρ [] xs)(k:P []):P xs:=by cases r;exact k
@[elab_as_elim] theorem VRels.cons'{v:V}{vs:List V}(r:VRels R h ρ (v :: vs) xs)(k:∀ x xs,aq R h ρ v x→VRels R h ρ vs xs→P (x :: xs)):P xs:=by cases r;exact k _ _ ‹_› ‹_›
@[elab_as_elim] theorem VRels.one'{v:V}(r:VRels R h ρ [v] xs)(k:∀ x,aq R h ρ v x→P [x]):P xs:=r.cons' fun x _ a b=>b.nil' (P:=fun xs=>P (x :: xs)) (k x a)
@[elab_as_elim] theorem VRels.two'{v w:V}(r:VRels R h ρ [v,w] xs)(k:∀ x y,aq R h ρ v x→aq R h ρ w y→P [x,y]):P xs:=r.cons' fun x _ a b=>b.one' (P:=fun xs=>P (x :: xs)) fun y c=>k x y a c
end
theorem VRels.length{vs:List V}{xs:List Value}(r:VRels R h ρ vs xs):vs.length=xs.length:=r.ind (P:=fun vs xs=>vs.length=xs.length) rfl fun _ _ _ _ _ _ q=>congrArg (·+1) q
theorem VRels.get{vs:List V}{xs:List Value}(r:VRels R h ρ vs xs):∀ {i:Nat} {v:V},vs[i]? = some v→∃ x,xs[i]? = some x∧aq R h ρ v x :=
 r.ind (P:=fun vs xs=>∀ {i:Nat} {v:V},vs[i]? = some v→∃ x,xs[i]? = some x∧aq R h ρ v x) (fun e=>nomatch e) fun v x vs xs a _ q i w=>match i with
  | 0=>fun e=>⟨x,rfl,Option.some.inj e▸a⟩
  | _+1=>fun e=>q e
theorem VRels.append{vs us:List V}{xs ys:List Value}(r:VRels R h ρ vs xs)(q:VRels R h ρ us ys):VRels R h ρ (vs++us) (xs++ys) :=
 r.ind (P:=fun vs xs=>VRels R h ρ (vs++us) (xs++ys)) q fun _ _ _ _ a _ q=>.cons a q
theorem VRels.drop(i:Nat):∀ {vs:List V} {xs:List Value},VRels R h ρ vs xs→VRels R h ρ (vs.drop i) (xs.drop i):=by
 induction i with
 | zero=>exact fun r=>r
 | succ i ih=>exact fun r=>r.ind (P:=fun vs xs=>VRels R h ρ (vs.drop (i+1)) (xs.drop (i+1))) .nil fun _ _ _ _ _ b _=>ih b
theorem VRels.take(i:Nat):∀ {vs:List V} {xs:List Value},VRels R h ρ vs xs→VRels R h ρ (vs.take i) (xs.take i):=by
 induction i with
 | zero=>exact fun _=>.nil
 | succ i ih=>exact fun r=>r.ind (P:=fun vs xs=>VRels R h ρ (vs.take (i+1)) (xs.take (i+1))) .nil fun _ _ _ _ a b _=>.cons a (ih b)
theorem VRels.reverse{vs:List V}{xs:List Value}(r:VRels R h ρ vs xs):VRels R h ρ vs.reverse xs.reverse :=
 r.ind (P:=fun vs xs=>VRels R h ρ vs.reverse xs.reverse) .nil fun v x vs xs a _ q=>List.reverse_cons (as:=vs)▸List.reverse_cons (as:=xs)▸q.append (.cons a .nil)
theorem VRels.replicate{vs:List V}{xs:List Value}(r:VRels R h ρ vs xs)(n:Nat):VRels R h ρ (List.replicate n vs).flatten (List.replicate n xs).flatten:=by
 induction n with
 | zero=>exact .nil
 | succ n ih=>exact r.append ih
inductive dj(R:Rt)(h:Heap)(ρ:List Addr):List (Nat×V)→List DictEntry→Prop
 | nil:dj R h ρ [] []
 | cons {k:Nat} {v:V} {hs:Int} {t:Tok} {x:Value} {es:List (Nat×V)} {ds:List DictEntry}:k < R.nn→aq R h ρ v x→dj R h ρ es ds→dj R h ρ ((k,v) :: es) (⟨hs,.str (R.nm k) t,x⟩ :: ds)
inductive oz(R:Rt)(h:Heap)(ρ:List Addr):Option V→Option Value→Prop
 | some {v:V} {x:Value}:aq R h ρ v x→oz R h ρ (Option.some v) (Option.some x)
 | none:oz R h ρ Option.none Option.none
noncomputable def qP(R:Rt)(h:Heap)(ρ:List Addr){α β:Type}[BEq α](g:α→β)(ok:α→Prop)(f:β→Option Value)(es:List (α×V)):Prop :=
 ∀ k,ok k→oz R h ρ (es.lookup k) (f (g k))
theorem dj.mono(ht:dO h h')(hp:yH ρ ρ'){es ds}(r:dj R h ρ es ds):dj R h' ρ' es ds :=
 dj.rec (motive:=fun es ds _=>dj R h' ρ' es ds) .nil (fun a b _ q=>.cons a (b.mono ht hp) q) r
theorem oz.mono(ht:dO h h')(hp:yH ρ ρ'){v x}(r:oz R h ρ v x):oz R h' ρ' v x:=oz.rec (motive:=fun v x _=>oz R h' ρ' v x) (fun q=>.some (q.mono ht hp)) .none r
@[elab_as_elim] theorem oz.some'{v:V}{y:Option Value}{P:Option Value→Prop}(r:oz R h ρ (Option.some v) y)(k:∀ x,aq R h ρ v x→P (Option.some x)):P y:=by cases r;exact k _ ‹_›
theorem oz.isSome{v y}(r:oz R h ρ v y):y.isSome=v.isSome:=oz.rec (motive:=fun v y _=>y.isSome=v.isSome) (fun _=>rfl) rfl r
inductive bR(R:Rt)(h:Heap)(ρ:List Addr)(a:Addr):O→Prop
 | list {vs xs n} (e:h.get? a=some (bb xs n)) (q:VRels R h ρ vs xs.toList):bR R h ρ a (.list vs)
 | bar {b} (e:h.get? a=some (aJ b)):bR R h ρ a (.bar b)
 | attrs {es ds n} (e:h.get? a=some (fU ds n)) (q:dj R h ρ es ds) (z:(es.map (·.1)).Nodup):bR R h ρ a (.attrs es)
 | idict {es kvs} (e:h.DictOf (intKind R.prog R.w) a kvs) (l:kvs.length≤es.length) (q:qP R h ρ (fun k:Int=>k) (fun _=>True) (valueAt kvs) es):bR R h ρ a (.idict es)
 | sdict {es kvs} (e:h.DictOf (PySem.strKind R.prog R.w) a kvs) (l:kvs.length≤es.length) (q:qP R h ρ R.nm (fun k=>k < R.nn) (valueAt kvs) es):bR R h ρ a (.sdict es)
 | inst {c d dx} (h0:0 < c) (h1:c < R.nc) (e:ρ[d]? = some dx) (q:h.get? a=some { cls:=.ref (R.ca c),dict:=some dx,data:=.plain }):bR R h ρ a (.inst c d)
structure St(R:Rt)(σ:List O)(ρ:List Addr)(h:Heap):Prop where
 len:ρ.length=σ.length
 nodup:ρ.Nodup
 base:Keeps R.h₀ h
 old:∀ a∈ρ,R.h₀.get? a=none
 obj:∀ (i:Nat) (a:Addr) (o:O),ρ[i]? = some a→σ[i]? = some o→bR R h ρ a o
structure lK(ρ own:List Addr)(h:Heap)(ρ':List Addr)(h':Heap):Prop where
 pre:yH ρ ρ'
 keep:∀ b o,h.get? b=some o→b∉ρ→b∉own→h'.get? b=some o
 live:∀ b o,h.get? b=some o→∃ o',h'.get? b=some o'
 fresh:∀ a∈ρ',a∈ρ∨h.get? a=none
 tups:dO h h'
theorem aK{G:Prop}{a:Addr}{o:PySem.Obj}(e:h.get? a=none)(q:h.get? a=some o):G:=by rw [e] at q;cases q
theorem back{a:Addr}(k:∀ b o,h.get? b=some o→∃ o',h'.get? b=some o')(e:h'.get? a=none):h.get? a=none:=by
 cases q:h.get? a with
 | none=>rfl
 | some o=>exact (k a o q).elim fun _ z=>aK e z
theorem Keeps.live(k:Keeps h h'):∀ b o,h.get? b=some o→∃ o',h'.get? b=some o':=fun b o e=>⟨o,k b o e⟩
theorem Keeps.back{a:Addr}(k:Keeps h h')(e:h'.get? a=none):h.get? a=none:=Mine.back k.live e
theorem Keeps.tups(k:Keeps h h'):dO h h':=fun _ _ _ sl e=>⟨sl,k _ _ e⟩
theorem dO.refl(h:Heap):dO h h:=fun _ _ _ sl e=>⟨sl,e⟩
theorem dO.trans(x:dO h h')(y:dO h' h''):dO h h'':=fun a xs n sl e=>(x a xs n sl e).elim fun _ e'=>y _ _ _ _ e'
theorem Keeps.stp(k:Keeps h h'):lK ρ own h ρ h':=⟨.refl _,fun b o e _ _=>k b o e,k.live,fun _ m=>.inl m,k.tups⟩
theorem lK.refl(ρ own:List Addr)(h:Heap):lK ρ own h ρ h:=(Keeps.refl h).stp
theorem lK.out(x:lK ρ own h ρ' h'){a:Addr}{o:PySem.Obj}(n:a∉ρ)(e:h.get? a=some o):a∉ρ':=fun m=>(x.fresh a m).elim n fun z=>aK z e
theorem lK.trans(x:lK ρ own h ρ' h')(y:lK ρ' own h' ρ'' h''):lK ρ own h ρ'' h'' :=
 ⟨fun i a e=>y.pre i a (x.pre i a e),fun b o e n1 n2=>y.keep b o (x.keep b o e n1 n2) (x.out n1 e) n2,fun b o e=>(x.live b o e).elim (y.live b),fun a m=>(y.fresh a m).elim (x.fresh a) fun q=>.inr (back x.live q),x.tups.trans y.tups⟩
theorem lK.weaken{own':List Addr}(x:lK ρ own h ρ' h')(hs:∀ a∈own,a∈own'∨h.get? a=none):lK ρ own' h ρ' h' :=
 ⟨x.pre,fun b o e n1 n2=>x.keep b o e n1 fun m=>(hs b m).elim n2 fun q=>aK q e,x.live,x.fresh,x.tups⟩
theorem lK.vrel(x:lK ρ own h ρ' h'){v:V}{u:Value}(r:aq R h ρ v u):aq R h' ρ' v u:=r.mono x.tups x.pre
theorem lK.vrels(x:lK ρ own h ρ' h'){v:List V}{u:List Value}(r:VRels R h ρ v u):VRels R h' ρ' v u:=r.mono x.tups x.pre
theorem dF{ρ:List Addr}(a:Addr):yH ρ (ρ++[a]):=fun i b e=>(List.getElem?_append_left (List.getElem?_eq_some_iff.mp e).1).trans e
end
section
variable{R:Rt}{h h':Heap}{ρ ρ' own:List Addr}{σ:List O}{a:Addr}
theorem DictOf.same{prog:Program}{w:World}{K:Type}[DecidableEq K]{knd:PySem.KeyKind prog w K}{kvs:List (K×Value)}(e:h'.get? a=h.get? a)(d:h.DictOf knd a kvs):h'.DictOf knd a kvs:=by
 unfold Heap.DictOf at d ⊢;rw [e];exact d
theorem bR.mono{o:O}(hk:h'.get? a=h.get? a)(ht:dO h h')(hp:yH ρ ρ')(r:bR R h ρ a o):bR R h' ρ' a o :=
 bR.rec (motive:=fun o _=>bR R h' ρ' a o) (fun e q=>.list (hk.trans e) (q.mono ht hp)) (fun e=>.bar (hk.trans e)) (fun e q z=>.attrs (hk.trans e) (q.mono ht hp) z) (fun e l q=>.idict (DictOf.same hk e) l fun k x=>(q k x).mono ht hp)
  (fun e l q=>.sdict (DictOf.same hk e) l fun k x=>(q k x).mono ht hp) (fun h0 h1 e q=>.inst h0 h1 (hp _ _ e) (hk.trans q)) r
theorem gP{n:String}(h:(n == "tuple")=false):Value.type n ≠ .type "tuple" := fun q=>by cases q;cases h
theorem sN{prog:Program}{w:World}{K:Type}[DecidableEq K]{knd:PySem.KeyKind prog w K}{kvs:List (K×Value)}(d:h.DictOf knd a kvs):∃ ob,h.get? a=some ob∧ob.cls ≠ .type "tuple" :=
 d.elim fun ob d=>d.elim fun _ d=>d.elim fun _ d=>⟨ob,d.1,fun q=>gP rfl (d.2.1.1.symm.trans q)⟩
theorem bR.notTup{o:O}(r:bR R h ρ a o):∃ ob,h.get? a=some ob∧ob.cls ≠ .type "tuple" :=
 bR.rec (motive:=fun _ _=>∃ ob,h.get? a=some ob∧ob.cls ≠ .type "tuple") (fun e _=>⟨_,e,gP rfl⟩) (fun e=>⟨_,e,gP rfl⟩) (fun e _ _=>⟨_,e,gP rfl⟩) (fun e _ _=>sN e) (fun e _ _=>sN e) (fun _ _ _ e=>⟨_,e,fun q=>nomatch q⟩) r
theorem bR.live{o:O}(r:bR R h ρ a o):∃ ob,h.get? a=some ob:=r.notTup.elim fun ob q=>⟨ob,q.1⟩
section
variable{G:Prop}
theorem bR.list'{vs:List V}(r:bR R h ρ a (.list vs))(k:∀ xs n,h.get? a=some (bb xs n)→VRels R h ρ vs xs.toList→G):G:=by cases r;exact k _ _ ‹_› ‹_›
theorem bR.bar'{b:ae}(r:bR R h ρ a (.bar b)):h.get? a=some (aJ b):=by cases r;assumption
theorem bR.attrs'{es:List (Nat×V)}(r:bR R h ρ a (.attrs es))(k:∀ ds n,h.get? a=some (fU ds n)→dj R h ρ es ds→(es.map (·.1)).Nodup→G):G:=by cases r;exact k _ _ ‹_› ‹_› ‹_›
theorem bR.idict'{es:List (Int×V)}(r:bR R h ρ a (.idict es))(k:∀ kvs,h.DictOf (intKind R.prog R.w) a kvs→kvs.length≤es.length→qP R h ρ (fun k:Int=>k) (fun _=>True) (valueAt kvs) es→G):G:=by cases r;exact k _ ‹_› ‹_› ‹_›
theorem bR.sdict'{es:List (Nat×V)}(r:bR R h ρ a (.sdict es))(k:∀ kvs,h.DictOf (PySem.strKind R.prog R.w) a kvs→kvs.length≤es.length→qP R h ρ R.nm (fun k=>k < R.nn) (valueAt kvs) es→G):G:=by cases r;exact k _ ‹_› ‹_› ‹_›
theorem bR.inst'{c d:Nat}(r:bR R h ρ a (.inst c d))(k:∀ dx,0 < c→c < R.nc→ρ[d]? = some dx→h.get? a=some { cls:=.ref (R.ca c),dict:=some dx,data:=.plain }→G):G:=by cases r;exact k _ ‹_› ‹_› ‹_› ‹_›
end
theorem St.live(S:St R σ ρ h)(m:a∈ρ):∃ o,h.get? a=some o:=(List.mem_iff_getElem?.mp m).elim fun i e =>
 have hi:i < σ.length:=S.len▸(List.getElem?_eq_some_iff.mp e).1
 (S.obj i a _ e (List.getElem?_eq_getElem hi)).live
theorem St.out(S:St R σ ρ h)(e:h.get? a=none):a∉ρ:=fun m=>(S.live m).elim fun _ q=>aK e q
theorem St.out0(S:St R σ ρ h)(e:h.get? a=none):R.h₀.get? a=none:=S.base.back e
theorem St.same(S:St R σ ρ h)(k0:Keeps R.h₀ h')(ht:dO h h')(k:∀ a∈ρ,∀ o,h.get? a=some o→h'.get? a=some o):St R σ ρ h' :=
 ⟨S.len,S.nodup,k0,S.old,fun i a o e1 e2=>(S.obj i a o e1 e2).live.elim fun ob z=>(S.obj i a o e1 e2).mono ((k a (List.mem_of_getElem? e1) ob z).trans z.symm) ht (.refl _)⟩
theorem St.keepAll(S:St R σ ρ h)(k:Keeps h h'):St R σ ρ h':=S.same (S.base.trans k) k.tups fun a _=>k a
theorem St.add{o:O}(S:St R σ ρ h)(k:Keeps h h')(ha:h.get? a=none)(ho:bR R h' (ρ++[a]) a o):St R (σ++[o]) (ρ++[a]) h':=by
 refine ⟨?_,?_,S.base.trans k,fun b m=>(List.mem_append.mp m).elim (S.old b) fun m=>List.mem_singleton.mp m▸S.out0 ha,fun i b x e1 e2=>?_⟩
 · rw [List.length_append,List.length_append,S.len];rfl
 · exact List.nodup_append.mpr ⟨S.nodup,by simp,fun x hx y hy q=>S.out ha (List.mem_singleton.mp hy▸q▸hx)⟩
 · by_cases hi:i < ρ.length
   · rw [List.getElem?_append_left hi] at e1
     rw [List.getElem?_append_left (S.len▸hi)] at e2
     have S':=S.keepAll k
     exact (S'.obj i b x e1 e2).mono rfl (.refl _) (dF a)
   · have hl:=(List.getElem?_eq_some_iff.mp e1).1
     rw [List.length_append] at hl
     have:i=ρ.length:=Nat.le_antisymm (Nat.le_of_lt_succ hl) (Nat.le_of_not_lt hi)
     subst this
     rw [List.getElem?_concat_length] at e1
     rw [S.len,List.getElem?_concat_length] at e2
     cases e1;cases e2;exact ho
theorem lK.add(k:Keeps h h')(ha:h.get? a=none):lK ρ own h (ρ++[a]) h' :=
 ⟨dF a,fun b o e _ _=>k b o e,k.live,fun b m=>(List.mem_append.mp m).imp_right fun m=>by rw [List.mem_singleton.mp m];exact ha,k.tups⟩
theorem St.upd{i:Nat}{o o':O}(S:St R σ ρ h)(ei:σ[i]? = some o)(ea:ρ[i]? = some a)(hs:Heap.SameBut a h h')
 (ho:dO h h'→bR R h' ρ a o'):St R (σ.set i o') ρ h'∧lK ρ own h ρ h':=by
 refine (S.obj i a o ea ei).notTup.elim fun ob hob=>?_
 have ma:=List.mem_of_getElem? ea
 have kp:∀ b,b≠a→∀ x,h.get? b=some x→h'.get? b=some x:=fun b n x e=>(hs.2 b n).trans e
 have ht:dO h h':=fun b xs n sl e=>⟨sl,kp b (fun q=>by rw [q,hob.1] at e;cases e;exact hob.2 rfl) _ e⟩
 have ho:=ho ht
 refine ⟨⟨(List.length_set ..).symm▸S.len,S.nodup,fun b x e=>kp b (fun q=>aK (S.old a ma) (q▸e)) x (S.base b x e),S.old,fun j b x e1 e2=>?_⟩,.refl _,fun b x e n1 _=>kp b (fun q=>n1 (q▸ma)) x e,fun b x e=>?_,fun _ m=>.inl m,ht⟩
 · by_cases hj:i=j
   · subst hj
     rw [ea] at e1;cases e1
     rw [List.getElem?_set_self (List.getElem?_eq_some_iff.mp ei).1] at e2;cases e2
     exact ho
   · rw [List.getElem?_set_ne hj] at e2
     have hne:b≠a:=fun q=>hj ((List.getElem_inj S.nodup).mp ((List.getElem?_eq_some_iff.mp (q▸ea)).2.trans (List.getElem?_eq_some_iff.mp e1).2.symm))
     exact (S.obj j b x e1 e2).mono (hs.2 b hne) ht (.refl _)
 · by_cases q:b=a
   · exact q▸ho.live
   · exact ⟨x,kp b q x e⟩
end
structure bN where
 names:List (Str×NameKind)
 nm:List (Option Str)
abbrev au:=List (Option V)
noncomputable def sY(l:List Env):List Addr:=l.filterMap (·.frame)
noncomputable def own(e:Env):List Addr:=e.locals :: e.cells.map (·.2)
noncomputable def BB:List Str:=["told", "append", "extend", "pop", "index", "split", "join", "get", "bit_length"]
structure aZ(R:Rt):Prop where
 X:R.K.In R.h₀
 g:R.h₀.Ns mainGlobals R.mg
 b:R.h₀.Ns builtinsNs R.mb
 nolimit:R.h₀.NoLimit
 builtins:∀ x:Str,x ≠ "__name__" → R.mb x=bootBuiltins x
 sys:∃ o,R.h₀.get? sysModules=some o
 fix:∀ (i:Nat) (x:Str),BB[i]? = some x→R.nm i=x∧i < R.nn
 inj:∀ i j,i < R.nn→j < R.nn→R.nm i=R.nm j→i=j
 scr:∃ (zs:List Int) (xs:Array Value) (n:Nat),zs.length≤63∧R.h₀.get? (R.fa 200)=some (bb xs n)∧∀ h ρ,VRels R h ρ (zs.map .int) xs.toList
inductive eG(R:Rt)(lx:bN)(renv:Env)(env:au)(h:Heap)(ρ:List Addr)(m:Str→Option Value)(i:Nat)(x:Str):Prop
 | loc (k:lx.names.lookup x=some .local) (v:∀ w,env[i]? = some (some w)→∃ rv,m x=some rv∧aq R h ρ w rv):eG R lx renv env h ρ m i x
 | cel (k:lx.names.lookup x=some .cell) {c ov} (e:renv.cells.lookup x=some c) (d:h.IsCell c ov) (v:∀ w,env[i]? = some (some w)→∃ rv,ov=some rv∧aq R h ρ w rv):eG R lx renv env h ρ m i x
 | no (k1:lx.names.lookup x≠some .local) (k2:lx.names.lookup x≠some .cell):eG R lx renv env h ρ m i x
structure Ak(R:Rt)(lx:bN)(renv:Env)(env:au)(h:Heap)(ρ:List Addr):Prop where
 kind:renv.scope.kind = .function
 names:renv.scope.names=lx.names
 glob:renv.globals=mainGlobals
 blt:renv.builtins=builtinsNs
 vars:∃ m,h.Ns renv.locals m∧∀ (i:Nat) (x:Str),lx.nm[i]? = some (some x)→eG R lx renv env h ρ m i x
 capart:∀ x y c,renv.cells.lookup x=some c→renv.cells.lookup y=some c→x=y
 cloc:∀ x c,renv.cells.lookup x=some c→c≠renv.locals
 dist:∀ (i j:Nat) (x:Str),lx.nm[i]? = some (some x)→lx.nm[j]? = some (some x)→i=j
structure bM(R:Rt)(lx:bN)(l:List Env)(renv:Env)(env:au)(σ:List O)(ρ:List Addr)(h:Heap):Prop where
 st:St R σ ρ h
 env:Ak R lx renv env h ρ
 sep:∀ a∈own renv,a∉ρ∧R.h₀.get? a=none∧∃ o,h.get? a=some o
 ff:h.FunFrames R.h₀ l
 fsep:∀ a∈sY l,a∉ρ
structure br(R:Rt)(d n:Nat)(A:Around)(l:List Env):Prop where
 depth:A.depth+6 * d+n < 1000
 units:A.units+60 * d+10 * n < 9000
 handled:A.handled=none
 guards:A.guards=some []
 frames:A.frames=some l
 lone:100≤d→l.length+d≤101
structure bV(R:Rt)(ρ own:List Addr)(s:Shared)(σ':List O)(ρ':List Addr)(s':Shared):Prop where
 st:St R σ' ρ' s'.heap
 stp:lK ρ own s.heap ρ' s'.heap
 gens:s'.gens=s.gens
 drawn:s'.drawn=s.drawn
 os:s'.os=s.os
section
variable{R:Rt}{ρ ρ' ρ'' own own':List Addr}{s s' s'':Shared}{σ σ' σ'':List O}
theorem bV.refl(h:St R σ ρ s.heap):bV R ρ own s σ ρ s:=⟨h,.refl ..,rfl,rfl,rfl⟩
theorem bV.toks(h:St R σ ρ s.heap)(n:Nat):bV R ρ own s σ ρ { s with toks:=n }:=⟨h,.refl ..,rfl,rfl,rfl⟩
theorem bV.keep{h':Heap}(S:St R σ ρ s.heap)(k:Keeps s.heap h')(n:Nat):bV R ρ own s σ ρ { s with heap:=h',toks:=n }:=⟨S.keepAll k,k.stp,rfl,rfl,rfl⟩
theorem bV.trans(x:bV R ρ own s σ' ρ' s')(y:bV R ρ' own s' σ'' ρ'' s''):bV R ρ own s σ'' ρ'' s'' :=
 ⟨y.st,x.stp.trans y.stp,y.gens.trans x.gens,y.drawn.trans x.drawn,y.os.trans x.os⟩
theorem bV.weaken(x:bV R ρ own s σ' ρ' s')(hs:∀ a∈own,a∈own'∨s.heap.get? a=none):bV R ρ own' s σ' ρ' s' :=
 ⟨x.st,x.stp.weaken hs,x.gens,x.drawn,x.os⟩
theorem bV.wide(x:bV R ρ [] s σ' ρ' s'):bV R ρ own s σ' ρ' s':=x.weaken fun _ m=>nomatch m
end
structure vC(R:Rt)(ρ:List Addr)(h0:Heap)(a:Addr):Prop where
 out:a∉ρ
 base:R.h₀.get? a=none
 old:h0.get? a=none
noncomputable def aQ:Nat:=0
noncomputable def cO:Nat:=0
inductive eM(R:Rt)(L:Option Addr)(ρ:List Addr)(h0 h:Heap)(e:Addr)(vs:Array Value):Prop
 | no (h1:vs[1]? = some .none):eM R L ρ h0 h e vs
 | tb {T c d ts sl x} (h1:vs[1]? = some (.ref T)) (hT:h.get? T=some ⟨c,d,.fields ts,sl⟩) (ne:T≠e) (n:vC R ρ h0 T) (h3:ts[3]? = some x) (hx:x = .none∨∃ a,L=some a∧x=rawInt a):eM R L ρ h0 h e vs
inductive eT(R:Rt)(L:Option Addr)(ρ:List Addr)(h0 h:Heap)(e:Addr)(told:ae):Prop
 | mk {d vs sl hs t t' n} (he:h.get? e=some ⟨.ref (R.ca aQ),some d,.fields vs,sl⟩) (hz:1 < vs.size) (hf:eM R L ρ h0 h e vs) (hd:h.get? d=some (fU [⟨hs,.str (R.nm cO) t,.bytes told.toArray t'⟩] n)) (ne:vC R ρ h0 e) (nd:vC R ρ h0 d):eT R L ρ h0 h e told
structure jo(R:Rt)(l:List Env)(ρ own:List Addr)(s:Shared)(σ':List O)(ρ':List Addr)(e:Addr)(told:ae)(s':Shared):Prop where
 st:St R σ' ρ' s'.heap
 pre:yH ρ ρ'
 keep:∀ b o,s.heap.get? b=some o→b∉ρ→b∉own→∃ sl,s'.heap.get? b=some { o with slots:=sl }∧(b∉sY l→sl=o.slots)
 live:∀ b o,s.heap.get? b=some o→∃ o',s'.heap.get? b=some o'
 fresh:∀ a∈ρ',a∈ρ∨s.heap.get? a=none
 tups:dO s.heap s'.heap
 ff:s'.heap.FunFrames R.h₀ l
 exc:eT R (l.head?.bind (·.frame)) ρ' s.heap s'.heap e told
 gens:s'.gens=s.gens
 drawn:s'.drawn=s.drawn
 os:s'.os=s.os
section
variable{R:Rt}{L:Option Addr}{ρ ρ' ρ'' own:List Addr}{s s' s'':Shared}{σ σ' σ'':List O}{h0 h1 h h':Heap}{e:Addr}{told:ae}{l:List Env}
theorem vC.back(k:∀ b o,h0.get? b=some o→∃ o',h1.get? b=some o'){a:Addr}(n:vC R ρ h1 a):vC R ρ h0 a:=⟨n.out,n.base,Mine.back k n.old⟩
theorem eM.back(k:∀ b o,h0.get? b=some o→∃ o',h1.get? b=some o'){vs:Array Value}(f:eM R L ρ h1 h e vs):eM R L ρ h0 h e vs :=
 eM.rec (motive:=fun _=>eM R L ρ h0 h e vs) .no (fun a b c n x y=>.tb a b c (n.back k) x y) f
theorem eT.back(k:∀ b o,h0.get? b=some o→∃ o',h1.get? b=some o')(x:eT R L ρ h1 h e told):eT R L ρ h0 h e told :=
 eT.rec (motive:=fun _=>eT R L ρ h0 h e told) (fun a b f d ne nd=>.mk a b (f.back k) d (ne.back k) (nd.back k)) x
theorem jo.after(x:bV R ρ own s σ' ρ' s')(y:jo R l ρ' own s' σ'' ρ'' e told s''):jo R l ρ own s σ'' ρ'' e told s'' :=
 ⟨y.st,fun i a q=>y.pre i a (x.stp.pre i a q),fun b o q n1 n2=>y.keep b o (x.stp.keep b o q n1 n2) (x.stp.out n1 q) n2,fun b o q=>(x.stp.live b o q).elim (y.live b),fun a m=>(y.fresh a m).elim (x.stp.fresh a) fun q=>.inr (back x.stp.live q),x.stp.tups.trans y.tups,y.ff,y.exc.back x.stp.live,y.gens.trans x.gens,y.drawn.trans x.drawn,y.os.trans x.os⟩
theorem jo.wide(x:jo R l ρ [] s σ' ρ' e told s'):jo R l ρ own s σ' ρ' e told s':=⟨x.st,x.pre,fun b o q n1 _=>x.keep b o q n1 (fun m=>nomatch m),x.live,x.fresh,x.tups,x.ff,x.exc,x.gens,x.drawn,x.os⟩
end
theorem bA{h h' base:Heap}:∀ {l:List Env},(∀ a∈sY l,∀ o,h.get? a=some o→(∀ vs,o.data ≠ .fields vs)→∃ o',h'.get? a=some o'∧∀ vs,o'.data ≠ .fields vs)→h.FunFrames base l→h'.FunFrames base l:=by
 intro l
 induction l with
 | nil=>exact fun _ _=>trivial
 | cons env l ih =>
  exact fun k f=>⟨f.1,f.2.1.elim fun L w=>w.elim fun o w=>(k L (List.mem_filterMap.mpr ⟨env,.head _,w.1⟩) o w.2.2.1 w.2.2.2).elim fun o' q=>⟨L,o',w.1,w.2.1,q.1,q.2⟩,
   ih (fun a m=>k a ((List.mem_filterMap.mp m).elim fun e q=>List.mem_filterMap.mpr ⟨e,.tail _ q.1,q.2⟩)) f.2.2⟩
theorem a6{α β:Type}[BEq α][LawfulBEq α]{x:α}{c:β}{l:List (α×β)}(h:l.lookup x=some c):(x,c)∈l :=
 (List.lookup_eq_some_iff.mp h).elim fun _ w=>w.elim fun _ w=>w.1▸List.mem_append_right _ (.head _)
section
variable{R:Rt}{lx:bN}{l:List Env}{renv:Env}{env env':au}{σ σ':List O}{ρ ρ' own_:List Addr}{h h':Heap}
theorem eQ{x:Str}{c:Addr}(e:renv.cells.lookup x=some c):c∈own renv:=.tail _ (List.mem_map.mpr ⟨(x,c),a6 e,rfl⟩)
noncomputable def mV(h h':Heap)(a:Addr):Prop:=∀ o,h.get? a=some o→∃ sl,h'.get? a=some { o with slots:=sl }
theorem mV.ns{a:Addr}{m:Str→Option Value}(k:mV h h' a)(hn:h.Ns a m):h'.Ns a m :=
 hn.elim fun o w=>w.elim fun es w=>w.elim fun ep w=>(k o w.1).elim fun _ e=>⟨_,es,ep,e,w.2⟩
theorem mV.cell{a:Addr}{v:Option Value}(k:mV h h' a)(hn:h.IsCell a v):h'.IsCell a v:=hn.elim fun o w=>(k o w.1).elim fun _ e=>⟨_,e,w.2⟩
theorem eG.next{m:Str→Option Value}{i:Nat}{x:Str}(k:∀ a∈own renv,mV h h' a)(hv:∀ {v u},aq R h ρ v u→aq R h' ρ' v u)(hw:∀ (j:Nat) (w:V),env'[j]? = some (some w)→env[j]? = some (some w))(v:eG R lx renv env h ρ m i x):eG R lx renv env' h' ρ' m i x:=by
 cases v with
 | loc k1 v=>exact .loc k1 fun w e=>(v w (hw i w e)).elim fun rv q=>⟨rv,q.1,hv q.2⟩
 | cel k1 e d v=>exact .cel k1 e ((k _ (eQ e)).cell d) fun w e=>(v w (hw i w e)).elim fun rv q=>⟨rv,q.1,hv q.2⟩
 | no k1 k2=>exact .no k1 k2
theorem bM.step(I:bM R lx l renv env σ ρ h)(hst:St R σ' ρ' h')(hv:∀ {v u},aq R h ρ v u→aq R h' ρ' v u)(k:∀ a∈own renv,mV h h' a)(ff:h'.FunFrames R.h₀ l)(hf:∀ a∈ρ',a∈ρ∨h.get? a=none)
 (hw:∀ (j:Nat) (w:V),env'[j]? = some (some w)→env[j]? = some (some w)):bM R lx l renv env' σ' ρ' h':=by
 have E:=I.env
 refine ⟨hst,⟨E.kind,E.names,E.glob,E.blt,E.vars.elim fun m w=>⟨m,(k _ (.head _)).ns w.1,fun i x e=>(w.2 i x e).next k hv hw⟩,E.capart,E.cloc,E.dist⟩,fun a m=>?_,ff,fun a m q=>(hf a q).elim (I.fsep a m) fun z=>?_⟩
 · have s:=I.sep a m
   exact s.2.2.elim fun o w=>⟨fun q=>(hf a q).elim s.1 fun z=>aK z w,s.2.1,(k a m o w).elim fun _ e=>⟨_,e⟩⟩
 · exact (I.ff.mem m).2.elim fun o w=>aK z w.1
theorem i3{a:Addr}(k:∀ o,h.get? a=some o→h'.get? a=some o):mV h h' a:=fun o e=>⟨o.slots,k o e⟩
theorem bM.apart(I:bM R lx l renv env σ ρ h)(hst:St R σ' ρ' h')(x:lK ρ own_ h ρ' h')(ho:∀ a∈own_,a∉own renv∧a∉sY l):bM R lx l renv env σ' ρ' h' :=
 I.step hst x.vrel (fun a m=>i3 fun o e=>x.keep a o e (I.sep a m).1 fun z=>(ho a z).1 m) (bA (fun a m o hh hd=>⟨o,x.keep a o hh (I.fsep a m) (fun z=>(ho a z).2 m),hd⟩) I.ff) x.fresh fun _ _ e=>e
theorem bM.next(I:bM R lx l renv env σ ρ h)(hst:St R σ' ρ' h')(x:lK ρ [] h ρ' h'):bM R lx l renv env σ' ρ' h':=I.apart hst x fun _ z=>nomatch z
theorem bV.inv{s s':Shared}(x:bV R ρ [] s σ' ρ' s')(I:bM R lx l renv env σ ρ s.heap):bM R lx l renv env σ' ρ' s'.heap:=I.next x.st x.stp
theorem bM.K(I:bM R lx l renv env σ ρ h)(ok:aZ R):R.K.In h:=ok.X.keeps I.st.base
end
abbrev ag:=V→List O→Prop
abbrev ak:=ae→List O→Prop
inductive Op where
 | add | sub | mul | fdiv | mod | pow | shr | band
inductive Cp where
 | eq | ne | lt | le | gt | ge | is | isNot | isin | notIn
inductive oZ where
 | plain | enum | rng
inductive E where
 | var (i:Nat)
 | cst (v:V)
 | attr (e:E) (a:Nat)
 | call (f:E) (args:List E)
 | meth (o:E) (a:Nat) (args:List E)
 | bin (op:Op) (l r:E)
 | neg (e:E)
 | not (e:E)
 | cmp (l:E) (op:Cp) (r:E)
 | cmp2 (l:E) (op:Cp) (m:E) (op':Cp) (r:E)
 | bool (isAnd:Bool) (es:List E)
 | ife (c a b:E)
 | sub (e i:E)
 | slice (e:E) (lo hi:List E)
 | rev (e:E)
 | init (e:E)
 | list (es:List E)
 | tup (es:List E)
 | dict (ks:List V) (vs:List E)
 | comp (elt:E) (pt:Bool) (p:List Nat) (k:oZ) (es:List E) (cs:List E)
inductive S where
 | asg (i:Nat) (e:E)
 | asgT (ts:List Nat) (e:E)
 | setA (o:E) (a:Nat) (e:E)
 | setI (o:E) (k:E) (e:E)
 | augA (o:E) (a:Nat) (op:Op) (e:E)
 | expr (e:E)
 | ret (e:E)
 | ife (c:E) (b o:List S)
 | whl (c:E) (b:List S)
 | forr (pt:Bool) (p:List Nat) (k:oZ) (es:List E) (b:List S)
 | raise (e:E)
 | tryx (i:Nat) (e:E) (j due:Nat)
 | brk | cont | pass | dead
noncomputable def AD:List (Nat×Nat):=[(1,22),(2,23),(3,24),(4,25),(5,41),(6,60),(7,69),(8,70),(9,81)]
noncomputable def Gc:List ((Nat×Nat)×Nat):=[((5,32),43),((5,33),44),((6,25),61),((6,43),62),((6,39),63),((6,40),64),((6,41),65),((6,42),66),((6,44),67),((6,74),68),((8,65),72),((8,66),73),((8,64),74),((8,35),75),((8,36),76),((9,68),82),((6,19),103)]
noncomputable def zi:List ((Nat×Nat)×Nat):=[((5,75),42),((8,18),71)]
noncomputable def xA(c:Nat):Option Nat:=AD.lookup c
noncomputable def fZ(c a:Nat):Option Nat:=Gc.lookup (c,a)
noncomputable def gL(c a:Nat):Option Nat:=zi.lookup (c,a)
abbrev aw:=Nat→List V→List O→ag→ak→Prop
inductive Fl where
 | next | brk | cont
 | ret (v:V)
abbrev aF:=Fl→au→List O→Prop
abbrev aX:=Bool→List O→Prop
abbrev aL:=List V→List O→Prop
abbrev bn:=List O→Prop
abbrev Ev:=au→List O→ag→ak→Prop
abbrev C1:=au→List O→aX→ak→Prop
abbrev pJ:=au→List O→aL→ak→Prop
abbrev yw:=au→List O→aF→ak→Prop
noncomputable def oY(i:Int):Prop:=i.natAbs < 2 ^ 20000
noncomputable def GO(i:Int):Prop:=i.natAbs < 2 ^ 9000
mutual
inductive l4:Nat→V→V→Bool→Prop
 | none {n}:l4 n .none .none true
 | noneI {n i}:l4 n .none (.int i) false
 | bool {n a b}:l4 n (.bool a) (.bool b) (a==b)
 | int {n a b}:l4 n (.int a) (.int b) (decide (a=b))
 | bytes {n a b}:l4 n (.bytes a) (.bytes b) (decide (a=b))
 | str {n a b}:l4 n (.str a) (.str b) (decide (a=b))
 | tup {n as bs r} (h:EqVs n as bs r):l4 (n+1) (.tup as) (.tup bs) r
inductive EqVs:Nat→List V→List V→Bool→Prop
 | nil {n}:EqVs n [] [] true
 | cons {n a b as bs x y} (h:l4 n a b x) (t:EqVs n as bs y):EqVs n (a :: as) (b :: bs) (x&&y)
end
inductive DI(σ:List O):V→V→Bool→Prop
 | val {a b r} (h:l4 100 a b r):DI σ a b r
 | list {i j xs ys r} (hi:σ[i]? = some (.list xs)) (hj:σ[j]? = some (.list ys)) (h:EqVs 100 xs ys r):DI σ (.ref i) (.ref j) r
 | len {i j xs ys} (hi:σ[i]? = some (.list xs)) (hj:σ[j]? = some (.list ys)) (h:xs.length≠ys.length):DI σ (.ref i) (.ref j) false
noncomputable def ia(i:Int)(b:ae):Bool:=b.any fun o=>decide ((o.toNat:Int)=i)
noncomputable def cI:V→Bool
 | .none=>true
 | _=>false
noncomputable def vI:V→Bool
 | .blt _=>true
 | _=>false
noncomputable def lS(v:V)(σ:List O)(Q:aX):Prop:=match v with
 | .bool b=>Q b σ
 | _=>False
noncomputable def av(b:ae):List V:=b.map fun o=>.int (o.toNat:Int)
noncomputable def cP{α:Type}(xs:List α)(lo:Nat)(hi:Option Nat):List α:=match hi with
 | none=>xs.drop lo
 | some k=>(xs.take k).drop lo
noncomputable def maxL:List Int→Int
 | []=>0
 | a :: r=>r.foldl max a
noncomputable def minL:List Int→Int
 | []=>0
 | a :: r=>r.foldl min a
noncomputable def aB(c:UInt8):ae→List ae
 | []=>[[]]
 | x :: r=>(match aB c r with
  | []=>[[]]
  | y :: ys=>if x=c then [] :: y :: ys else (x :: y) :: ys)
noncomputable def aA(sep:ae):List ae→ae
 | []=>[]
 | [x]=>x
 | x :: y :: r=>x++sep++aA sep (y :: r)
inductive yg where
 | own (f:Nat)
 | lAppend | lExtend | lPop | bAppend | bExtend | index | split | join | get | bits
noncomputable def putL{α:Type}[BEq α](k:α)(v:V):List (α×V)→List (α×V)
 | []=>[(k,v)]
 | (k',v') :: r=>if k==k' then (k',v) :: r else (k',v') :: putL k v r
noncomputable def cT(a:Int)(c:Int):Nat→List V
 | 0=>[]
 | n+1=>.int a :: cT (a+c) c n
noncomputable def enumL:Int→List V→List V
 | _,[]=>[]
 | k,v :: vs=>.tup [.int k,v] :: enumL (k+1) vs
noncomputable def a9:List Nat→List V→au→Option au
 | [],[],env=>some env
 | i :: is,v :: vs,env=>a9 is vs (env.set i (some v))
 | _,_,_=>none
noncomputable def aR(pt:Bool)(p:List Nat)(v:V)(env:au):Option au :=
 match pt,p with
 | false,[i]=>some (env.set i (some v))
 | true,is=>(match v with | .tup vs=>a9 is vs env | _=>none)
 | _,_=>none
section
variable(σ:List O)
section
variable(Q:ag)
inductive Bn:Op→V→V→Prop
 | add {i j n:Int} (e:i+j=n) (h:Q (.int n) σ):Bn .add (.int i) (.int j)
 | sub {i j n:Int} (e:i - j=n) (h:Q (.int n) σ):Bn .sub (.int i) (.int j)
 | mul {i j n:Int} (hi:oY i) (hj:oY j) (e:i * j=n) (h:Q (.int n) σ):Bn .mul (.int i) (.int j)
 | fdiv {i j n:Int} (hj:0 < j) (hd:GO j) (e:i / j=n) (h:Q (.int n) σ):Bn .fdiv (.int i) (.int j)
 | mod {i j n:Int} (hj:0 < j) (e:i % j=n) (h:Q (.int n) σ):Bn .mod (.int i) (.int j)
 | pow {i j n:Int} {k:Nat} (hk:j=k) (hi:i.natAbs < 2 ^ 64) (hl:k≤100000) (e:i ^ k=n) (h:Q (.int n) σ):Bn .pow (.int i) (.int j)
 | shr {i j n:Int} {k:Nat} (hk:j=k) (e:i / 2 ^ k=n) (h:Q (.int n) σ):Bn .shr (.int i) (.int j)
 | band {i n:Int} (hi:0≤i) (e:i % 256=n) (h:Q (.int n) σ):Bn .band (.int i) (.int 255)
 | cat {x y z:ae} (hl:x.length+y.length≤1000000) (e:x++y=z) (h:Q (.bytes z) σ):Bn .add (.bytes x) (.bytes y)
 | lcat {i j:Nat} {xs ys zs:List V} (hi:σ[i]? = some (.list xs)) (hj:σ[j]? = some (.list ys)) (hl:xs.length+ys.length≤1000000) (e:xs++ys=zs) (h:Q (.ref σ.length) (σ++[.list zs])):Bn .add (.ref i) (.ref j)
 | lmul {i:Nat} {n:Int} {xs zs:List V} (hi:σ[i]? = some (.list xs)) (hl:xs.length≤16) (h1:n≤16) (h2:-16≤n) (e:(List.replicate n.toNat xs).flatten=zs) (h:Q (.ref σ.length) (σ++[.list zs])):Bn .mul (.ref i) (.int n)
inductive Bi:B→List V→Prop
 | lenB {x:ae} (hl:x.length≤1000000) (h:Q (.int x.length) σ):Bi .len [.bytes x]
 | lenL {i:Nat} {xs:List V} (hi:σ[i]? = some (.list xs)) (hl:xs.length≤1000000) (h:Q (.int xs.length) σ):Bi .len [.ref i]
 | lenA {i:Nat} {x:ae} (hi:σ[i]? = some (.bar x)) (hl:x.length≤1000000) (h:Q (.int x.length) σ):Bi .len [.ref i]
 | abs {i:Int} (h:Q (.int i.natAbs) σ):Bi .abs [.int i]
 | min {i j n:Int} (e:min i j=n) (h:Q (.int n) σ):Bi .min [.int i,.int j]
 | max {i j n:Int} (e:max i j=n) (h:Q (.int n) σ):Bi .max [.int i,.int j]
 | minL {i:Nat} {a n:Int} {r:List Int} {xs:List V} (hi:σ[i]? = some (.list xs)) (hx:xs=(a :: r).map .int) (e:minL (a :: r)=n) (h:Q (.int n) σ):Bi .min [.ref i]
 | maxL {i:Nat} {a n:Int} {r:List Int} {xs:List V} (hi:σ[i]? = some (.list xs)) (hx:xs=(a :: r).map .int) (e:maxL (a :: r)=n) (h:Q (.int n) σ):Bi .max [.ref i]
 | sum {i:Nat} {n:Int} {r:List Int} {xs:List V} (hi:σ[i]? = some (.list xs)) (hx:xs=r.map .int) (e:r.sum=n) (h:Q (.int n) σ):Bi .sum [.ref i]
 | isB {x:ae} (h:Q (.bool true) σ):Bi .isinst [.bytes x,.blt .bytes]
 | isT {vs:List V} (h:Q (.bool false) σ):Bi .isinst [.tup vs,.blt .bytes]
 | isL {i:Nat} {xs:List V} (hi:σ[i]? = some (.list xs)) (h:Q (.bool false) σ):Bi .isinst [.ref i,.blt .int]
 | bytesA {i:Nat} {x:ae} (hi:σ[i]? = some (.bar x)) (hl:x.length≤1000000) (h:Q (.bytes x) σ):Bi .bytes [.ref i]
 | bytesL {i:Nat} {xs:List V} {x:ae} (hi:σ[i]? = some (.list xs)) (hx:xs=av x) (hl:x.length≤1000000) (h:Q (.bytes x) σ):Bi .bytes [.ref i]
 | bytesN {n:Int} (h0:0≤n) (h1:n≤16) {x:ae} (e:List.replicate n.toNat 0=x) (h:Q (.bytes x) σ):Bi .bytes [.int n]
 | bar0 (h:Q (.ref σ.length) (σ++[.bar []])):Bi .bytearray []
 | barB {b:ae} (hl:b.length≤1000000) (h:Q (.ref σ.length) (σ++[.bar b])):Bi .bytearray [.bytes b]
 | intI {i:Int} (h:Q (.int i) σ):Bi .int [.int i]
 | intB {b:Bool} {n:Int} (e:(match b with | true=>1 | false=>0)=n) (h:Q (.int n) σ):Bi .int [.bool b]
 | list {i:Nat} {xs:List V} (hi:σ[i]? = some (.list xs)) (hl:xs.length≤1000000) (h:Q (.ref σ.length) (σ++[.list xs])):Bi .list [.ref i]
 | tuple {i:Nat} {xs:List V} (hi:σ[i]? = some (.list xs)) (hl:xs.length≤1000000) (h:Q (.tup xs) σ):Bi .tuple [.ref i]
inductive Me:yg→V→List V→Prop
 | lApp {i:Nat} {v:V} {xs zs:List V} (hi:σ[i]? = some (.list xs)) (hl:xs.length≤1000000) (e:xs++[v]=zs) (h:Q .none (σ.set i (.list zs))):Me .lAppend (.ref i) [v]
 | lExt {i j:Nat} {xs ys zs:List V} (hi:σ[i]? = some (.list xs)) (hj:σ[j]? = some (.list ys)) (n:i≠j) (hl:xs.length+ys.length≤1000000) (e:xs++ys=zs) (h:Q .none (σ.set i (.list zs))):Me .lExtend (.ref i) [.ref j]
 | lPop {i:Nat} {v:V} {xs ys:List V} (hi:σ[i]? = some (.list ys)) (e:ys=xs++[v]) (hl:xs.length < 1000000) (h:Q v (σ.set i (.list xs))):Me .lPop (.ref i) []
 | bApp {i:Nat} {n:Int} {c:UInt8} {x z:ae} (hi:σ[i]? = some (.bar x)) (hl:x.length≤1000000) (hn:n=c.toNat) (e:x++[c]=z) (h:Q .none (σ.set i (.bar z))):Me .bAppend (.ref i) [.int n]
 | bExt {i:Nat} {x y z:ae} (hi:σ[i]? = some (.bar x)) (hl:x.length+y.length≤1000000) (e:x++y=z) (h:Q .none (σ.set i (.bar z))):Me .bExtend (.ref i) [.bytes y]
 | index {x:ae} {c:UInt8} {n:Int} (hc:c∈x) (hl:x.length≤1000000) (e:(x.idxOf c:Int)=n) (h:Q (.int n) σ):Me .index (.bytes x) [.bytes [c]]
 | split {x:ae} {c:UInt8} {zs:List V} (hl:x.length≤1000) (e:(aB c x).map .bytes=zs) (h:Q (.ref σ.length) (σ++[.list zs])):Me .split (.bytes x) [.bytes [c]]
 | join {sep z:ae} {i:Nat} {xs:List V} {bs:List ae} (hi:σ[i]? = some (.list xs)) (hx:xs=bs.map .bytes) (hl:bs.length≤1000000) (e:aA sep bs=z) (hz:z.length≤1000000) (h:Q (.bytes z) σ):Me .join (.bytes sep) [.ref i]
 | get {i:Nat} {k:Int} {dv v:V} {es:List (Int×V)} (hi:σ[i]? = some (.idict es)) (e:(es.lookup k).getD dv=v) (h:Q v σ):Me .get (.ref i) [.int k,dv]
 | bits {i n:Int} (hi:oY i) (e:Builtin.Int.intBits i=n) (h:Q (.int n) σ):Me .bits (.int i) []
inductive Sb:V→V→Prop
 | bytes {b:ae} {i:Int} {n:Nat} {x:UInt8} (hn:i=n) (e:b[n]? = some x) (hl:b.length≤1000000) (h:Q (.int x.toNat) σ):Sb (.bytes b) (.int i)
 | tup {vs:List V} {i:Int} {n:Nat} {x:V} (hn:i=n) (e:vs[n]? = some x) (hl:vs.length≤1000000) (h:Q x σ):Sb (.tup vs) (.int i)
 | list {j:Nat} {vs:List V} {i:Int} {n:Nat} {x:V} (hj:σ[j]? = some (.list vs)) (hn:i=n) (e:vs[n]? = some x) (hl:vs.length≤1000000) (h:Q x σ):Sb (.ref j) (.int i)
 | last {j:Nat} {vs:List V} {x:V} (hj:σ[j]? = some (.list vs)) (e:vs.getLast? = some x) (hl:vs.length≤1000000) (h:Q x σ):Sb (.ref j) (.int (-1))
 | idict {j:Nat} {es:List (Int×V)} {i:Int} {x:V} (hj:σ[j]? = some (.idict es)) (e:es.lookup i=some x) (h:Q x σ):Sb (.ref j) (.int i)
 | sdict {j s:Nat} {es:List (Nat×V)} {x:V} (hj:σ[j]? = some (.sdict es)) (e:es.lookup s=some x) (h:Q x σ):Sb (.ref j) (.str s)
inductive Lo:List V→Nat→Prop
 | nil:Lo [] 0
 | int {i:Int} {n:Nat} (e:i=n) (h:n≤1000000):Lo [.int i] n
inductive Hi:List V→Option Nat→Prop
 | nil:Hi [] none
 | int {i:Int} {n:Nat} (e:i=n) (h:n≤1000000):Hi [.int i] (some n)
inductive Sl:V→List V→List V→Prop
 | bytes {x z:ae} {lo hi:List V} {a:Nat} {b:Option Nat} (ha:Lo lo a) (hb:Hi hi b) (hl:x.length≤1000000) (e:cP x a b=z) (h:Q (.bytes z) σ):Sl (.bytes x) lo hi
 | list {i:Nat} {xs zs:List V} {lo hi:List V} {a:Nat} {b:Option Nat} (hj:σ[i]? = some (.list xs)) (ha:Lo lo a) (hb:Hi hi b) (hl:xs.length≤1000000) (e:cP xs a b=zs) (h:Q (.ref σ.length) (σ++[.list zs])):Sl (.ref i) lo hi
 | bar {i:Nat} {x z:ae} {lo hi:List V} {a:Nat} {b:Option Nat} (hj:σ[i]? = some (.bar x)) (ha:Lo lo a) (hb:Hi hi b) (hl:x.length≤1000000) (e:cP x a b=z) (h:Q (.ref σ.length) (σ++[.bar z])):Sl (.ref i) lo hi
 | scr {lo hi:List V} {a:Nat} {b:Option Nat} (ha:Lo lo a) (hb:Hi hi b) (h:∀ zs:List Int,zs.length≤63→Q (.ref σ.length) (σ++[.list (cP (zs.map .int) a b)])):Sl (.fn 200) lo hi
inductive Rv:V→Prop
 | list {i:Nat} {xs zs:List V} (hi:σ[i]? = some (.list xs)) (hl:xs.length≤1000000) (e:xs.reverse=zs) (h:Q (.ref σ.length) (σ++[.list zs])):Rv (.ref i)
inductive Hk:V→Prop
 | list {i:Nat} {xs zs:List V} (hi:σ[i]? = some (.list xs)) (hl:xs.length≤1000000) (e:xs.dropLast=zs) (h:Q (.ref σ.length) (σ++[.list zs])):Hk (.ref i)
inductive Di:List V→List V→Prop
 | int {ks vs:List V} {es:List (Int×V)} (ns:List Int) (hk:ks=ns.map .int) (hn:ns.Nodup) (hl:ns.length≤10) (he:ns.length=vs.length) (e:ns.zip vs=es) (h:Q (.ref σ.length) (σ++[.idict es])):Di ks vs
 | str {ks vs:List V} {es:List (Nat×V)} (ns:List Nat) (h0:ns≠[]) (hk:ks=ns.map .str) (hn:ns.Nodup) (hl:ns.length≤10) (he:ns.length=vs.length) (e:ns.zip vs=es) (h:Q (.ref σ.length) (σ++[.sdict es])):Di ks vs
inductive At(call:aw):V→Nat→Prop
 | val {i c d a:Nat} {es:List (Nat×V)} {x:V} (hi:σ[i]? = some (.inst c d)) (hd:σ[d]? = some (.attrs es)) (e:es.lookup a=some x) (hp:gL c a=none) (hm:fZ c a=none) (h:Q x σ):At call (.ref i) a
 | prop {i c d a f:Nat} {es:List (Nat×V)} (hi:σ[i]? = some (.inst c d)) (hd:σ[d]? = some (.attrs es)) (hp:gL c a=some f) (hm:fZ c a=none) (h:call f [.ref i] σ Q (fun _ _=>False)):At call (.ref i) a
end
inductive Cm(Q:aX):Cp→V→V→Prop
 | lt {i j:Int} (h1:i < j→Q true σ) (h2:¬ i < j→Q false σ):Cm Q .lt (.int i) (.int j)
 | le {i j:Int} (h1:i≤j→Q true σ) (h2:¬ i≤j→Q false σ):Cm Q .le (.int i) (.int j)
 | gt {i j:Int} (h1:j < i→Q true σ) (h2:¬ j < i→Q false σ):Cm Q .gt (.int i) (.int j)
 | ge {i j:Int} (h1:j≤i→Q true σ) (h2:¬ j≤i→Q false σ):Cm Q .ge (.int i) (.int j)
 | eq {a b:V} {r:Bool} (e:DI σ a b r) (h:Q r σ):Cm Q .eq a b
 | ne {a b:V} {r:Bool} (e:DI σ a b r) (h:Q (!r) σ):Cm Q .ne a b
 | isN {a:V} {r:Bool} (e:cI a=r) (h:Q r σ):Cm Q .is a .none
 | notN {a:V} {r:Bool} (hb:vI a=false) (e:cI a=r) (h:Q (!r) σ):Cm Q .isNot a .none
 | inI {i:Int} {b:ae} {r:Bool} (h0:0≤i) (h1:i < 256) (e:ia i b=r) (h:Q r σ):Cm Q .isin (.int i) (.bytes b)
 | inB {x:UInt8} {b:ae} {r:Bool} (e:b.contains x=r) (h:Q r σ):Cm Q .isin (.bytes [x]) (.bytes b)
 | inT {x:ae} {vs:List V} {bs:List ae} {r:Bool} (hv:vs=bs.map .bytes) (e:(bs.any fun b=>decide (b=x))=r) (h:Q r σ):Cm Q .isin (.bytes x) (.tup vs)
 | inS {x:Nat} {vs:List V} {ss:List Nat} {r:Bool} (hv:vs=ss.map .str) (e:(ss.any fun b=>decide (b=x))=r) (h:Q r σ):Cm Q .isin (.str x) (.tup vs)
 | inD {i:Int} {j:Nat} {es:List (Int×V)} {r:Bool} (hj:σ[j]? = some (.idict es)) (e:(es.lookup i).isSome=r) (h:Q r σ):Cm Q .isin (.int i) (.ref j)
 | ninI {i:Int} {b:ae} {r:Bool} (h0:0≤i) (h1:i < 256) (e:ia i b=r) (h:Q (!r) σ):Cm Q .notIn (.int i) (.bytes b)
 | ninB {x:UInt8} {b:ae} {r:Bool} (e:b.contains x=r) (h:Q (!r) σ):Cm Q .notIn (.bytes [x]) (.bytes b)
section
variable(Q:bn)
inductive Sa:V→Nat→V→Prop
 | mk {i c d a:Nat} {v:V} {es es':List (Nat×V)} (hi:σ[i]? = some (.inst c d)) (hd:σ[d]? = some (.attrs es)) (e:putL a v es=es') (hp:gL c a=none) (hm:fZ c a=none) (hl:Nat.ble es.length 30=true) (h:Q (σ.set d (.attrs es'))):Sa (.ref i) a v
inductive Si:V→V→V→Prop
 | sdict {i s:Nat} {v:V} {es es':List (Nat×V)} (hi:σ[i]? = some (.sdict es)) (hl:Nat.ble es.length 30=true) (e:putL s v es=es') (h:Q (σ.set i (.sdict es'))):Si (.ref i) (.str s) v
 | idict {i:Nat} {n:Int} {v:V} {es es':List (Int×V)} (hi:σ[i]? = some (.idict es)) (hl:es.length≤1000000) (e:putL n v es=es') (h:Q (σ.set i (.idict es'))):Si (.ref i) (.int n) v
end
inductive It(K:List V→bn→Prop):oZ→List V→Prop
 | plainB {b:ae} (hl:b.length≤1000000) (h:K (av b) fun _=>True):It K .plain [.bytes b]
 | plainL {i:Nat} {vs:List V} (hi:σ[i]? = some (.list vs)) (hl:vs.length≤1000000) (h:K vs fun σ'=>σ'[i]? = some (.list vs)):It K .plain [.ref i]
 | enumB {b:ae} (hl:b.length≤1000000) (h:K (enumL 0 (av b)) fun _=>True):It K .enum [.bytes b]
 | enumL {i:Nat} {vs:List V} (hi:σ[i]? = some (.list vs)) (hl:vs.length≤1000000) (h:K (enumL 0 vs) fun σ'=>σ'[i]? = some (.list vs)):It K .enum [.ref i]
 | rng {n:Int} {k:Nat} (e:n.toNat=k) (h1:n≤1000000) (h2:-1000000≤n) (h:K (cT 0 1 k) fun _=>True):It K .rng [.int n]
 | rng2 {n:Int} {k:Nat} (e:(n.toNat+1) / 2=k) (h0:0≤n) (h1:n≤1000000) (h:K (cT 0 2 k) fun _=>True):It K .rng [.int 0,.int n,.int 2]
end
noncomputable def oE(i:Nat)(env:au)(Q:aF):ag:=fun v σ=>Q .next (env.set i (some v)) σ
noncomputable def DF(ts:List Nat)(env:au)(Q:aF):ag:=fun v σ=>match v with
 | .tup vs=>(match a9 ts vs env with | some env'=>Q .next env' σ | none=>False)
 | _=>False
noncomputable def F2(env:au)(Q:aF):ag:=fun _ σ=>Q .next env σ
noncomputable def E9(env:au)(Q:aF):bn:=fun σ=>Q .next env σ
noncomputable def H5(env:au)(Q:aF):ag:=fun v σ=>Q (.ret v) env σ
noncomputable def Ep(X:ak):ag:=fun v σ=>match v with | .bytes b=>X b σ | _=>False
noncomputable def xr(a b:yw)(env:au)(Q:aF)(X:ak):aX
 | true,σ=>a env σ Q X
 | false,σ=>b env σ Q X
noncomputable def kr(r:yw)(Q:aF)(X:ak):aF
 | .next,env,σ=>r env σ Q X
 | .brk,env,σ=>Q .brk env σ
 | .cont,env,σ=>Q .cont env σ
 | .ret v,env,σ=>Q (.ret v) env σ
noncomputable def ja(P:au→List O→Prop)(Q:aF):aF
 | .next,env,σ=>P env σ
 | .cont,env,σ=>P env σ
 | .brk,env,σ=>Q .next env σ
 | .ret v,env,σ=>Q (.ret v) env σ
noncomputable def HF(b:yw)(env:au)(P:au→List O→Prop)(Q:aF)(X:ak):aX
 | true,σ=>b env σ (ja P Q) X
 | false,σ=>Q .next env σ
noncomputable def HY(v:V)(Q:aL):aL:=fun vs σ=>Q (v :: vs) σ
noncomputable def Ia(r:pJ)(env:au)(Q:aL)(X:ak):ag:=fun v σ=>r env σ (HY v Q) X
noncomputable def GS(op:Op)(a:V)(Q:ag):ag:=fun b σ=>Bn σ Q op a b
noncomputable def GX(op:Op)(r:Ev)(env:au)(Q:ag)(X:ak):ag:=fun a σ=>r env σ (GS op a Q) X
noncomputable def tD(op:Cp)(a:V)(Q:aX):ag:=fun b σ=>Cm σ Q op a b
noncomputable def DU(op:Cp)(r:Ev)(env:au)(Q:aX)(X:ak):ag:=fun a σ=>r env σ (tD op a Q) X
noncomputable def zv(op:Cp)(b:V)(r:Ev)(env:au)(Q:aX)(X:ak):aX
 | true,σ=>r env σ (tD op b Q) X
 | false,σ=>Q false σ
noncomputable def D9(op op':Cp)(a:V)(r:Ev)(env:au)(Q:aX)(X:ak):ag:=fun b σ=>Cm σ (zv op' b r env Q X) op a b
noncomputable def DN(op op':Cp)(m r:Ev)(env:au)(Q:aX)(X:ak):ag:=fun a σ=>m env σ (D9 op op' a r env Q X) X
noncomputable def xh(Q:ag):aX:=fun t σ=>Q (.bool t) σ
noncomputable def wB(Q:aX):ag:=fun v σ=>lS v σ Q
noncomputable def Ck(call:aw)(f:Nat)(o:V)(Q:ag)(X:ak):aL:=fun vs σ=>call f (o :: vs) σ Q X
noncomputable def qk(t:yg)(o:V)(Q:ag):aL:=fun vs σ=>Me σ Q t o vs
inductive Mt(call:aw)(as:pJ)(env:au)(σ:List O)(Q:ag)(X:ak):V→Nat→Prop
 | own {i c d a f:Nat} {es:List (Nat×V)} (hi:σ[i]? = some (.inst c d)) (hd:σ[d]? = some (.attrs es)) (e:es.lookup a=none) (hm:fZ c a=some f) (h:as env σ (Ck call f (.ref i) Q X) X):Mt call as env σ Q X (.ref i) a
 | lApp {i:Nat} {xs:List V} (hi:σ[i]? = some (.list xs)) (h:as env σ (qk .lAppend (.ref i) Q) X):Mt call as env σ Q X (.ref i) 1
 | lExt {i:Nat} {xs:List V} (hi:σ[i]? = some (.list xs)) (h:as env σ (qk .lExtend (.ref i) Q) X):Mt call as env σ Q X (.ref i) 2
 | lPop {i:Nat} {xs:List V} (hi:σ[i]? = some (.list xs)) (h:as env σ (qk .lPop (.ref i) Q) X):Mt call as env σ Q X (.ref i) 3
 | bApp {i:Nat} {x:ae} (hi:σ[i]? = some (.bar x)) (h:as env σ (qk .bAppend (.ref i) Q) X):Mt call as env σ Q X (.ref i) 1
 | bExt {i:Nat} {x:ae} (hi:σ[i]? = some (.bar x)) (h:as env σ (qk .bExtend (.ref i) Q) X):Mt call as env σ Q X (.ref i) 2
 | index {x:ae} (h:as env σ (qk .index (.bytes x) Q) X):Mt call as env σ Q X (.bytes x) 4
 | split {x:ae} (h:as env σ (qk .split (.bytes x) Q) X):Mt call as env σ Q X (.bytes x) 5
 | join {x:ae} (h:as env σ (qk .join (.bytes x) Q) X):Mt call as env σ Q X (.bytes x) 6
 | get {i:Nat} {es:List (Int×V)} (hi:σ[i]? = some (.idict es)) (h:as env σ (qk .get (.ref i) Q) X):Mt call as env σ Q X (.ref i) 7
 | bits {i:Int} (h:as env σ (qk .bits (.int i) Q) X):Mt call as env σ Q X (.int i) 8
noncomputable def D6(call:aw)(a:Nat)(as:pJ)(env:au)(Q:ag)(X:ak):ag:=fun v σ=>Mt call as env σ Q X v a
noncomputable def xK(call:aw)(a:Nat)(Q:ag):ag:=fun v σ=>At σ Q call v a
noncomputable def t9(call:aw)(c:Nat)(args:List V)(σ:List O)(Q:ag):Prop:=match xA c with
 | some f=>call f (.ref (σ.length+1) :: args) (σ++[.attrs [],.inst c σ.length]) (fun r σ'=>r = .none∧Q (.ref (σ.length+1)) σ') (fun _ _=>False)
 | none=>False
noncomputable def GZ(call:aw)(f:V)(args:List V)(σ:List O)(Q:ag)(X:ak):Prop:=match f with
 | .fn i=>call i args σ Q X
 | .cls c=>t9 call c args σ Q
 | .blt b=>Bi σ Q b args
 | _=>False
noncomputable def Fg(call:aw)(f:V)(Q:ag)(X:ak):aL:=fun vs σ=>GZ call f vs σ Q X
noncomputable def zw(call:aw)(as:pJ)(env:au)(Q:ag)(X:ak):ag:=fun f σ=>as env σ (Fg call f Q X) X
noncomputable def GG(v:V)(Q:ag):ag:=fun k σ=>Sb σ Q v k
noncomputable def G6(i:Ev)(env:au)(Q:ag)(X:ak):ag:=fun v σ=>i env σ (GG v Q) X
noncomputable def F5(v:V)(a:List V)(Q:ag):aL:=fun b σ=>Sl σ Q v a b
noncomputable def Gy(v:V)(hi:pJ)(env:au)(Q:ag)(X:ak):aL:=fun a σ=>hi env σ (F5 v a Q) X
noncomputable def G9(lo hi:pJ)(env:au)(Q:ag)(X:ak):ag:=fun v σ=>lo env σ (Gy v hi env Q X) X
noncomputable def HB(Q:ag):ag:=fun v σ=>Rv σ Q v
noncomputable def HU(Q:ag):ag:=fun v σ=>Hk σ Q v
noncomputable def wU(Q:ag):aL:=fun vs σ=>Q (.ref σ.length) (σ++[.list vs])
noncomputable def HR(Q:ag):aL:=fun vs σ=>Q (.tup vs) σ
noncomputable def Gi(ks:List V)(Q:ag):aL:=fun vs σ=>Di σ Q ks vs
noncomputable def zt(a b:Ev)(env:au)(Q:ag)(X:ak):aX
 | true,σ=>a env σ Q X
 | false,σ=>b env σ Q X
noncomputable def HZ(a b:C1)(env:au)(Q:aX)(X:ak):aX
 | true,σ=>a env σ Q X
 | false,σ=>b env σ Q X
noncomputable def FL:Bool→C1→au→aX→ak→aX
 | true,r,env,Q,X,true,σ=>r env σ Q X
 | true,_,_,Q,_,false,σ=>Q false σ
 | false,r,env,Q,X,false,σ=>r env σ Q X
 | false,_,_,Q,_,true,σ=>Q true σ
noncomputable def Iq(k:Bool)(r:Ev)(env:au)(Q:ag)(X:ak):ag:=fun v σ=>lS v σ (FL k (fun env σ _ X=>r env σ Q X) env (fun _ σ=>Q v σ) X)
noncomputable def CI(o:Option (Option V))(σ:List O)(Q:ag):Prop:=match o with | some (some v)=>Q v σ | _=>False
noncomputable def Ie(Q:ag):ag:=fun v σ=>match v with | .int i=>Q (.int (-i)) σ | _=>False
noncomputable def GP(Q:aX):aX:=fun t σ=>Q (!t) σ
noncomputable def Hu(a:Nat)(v:V)(env:au)(Q:aF):ag:=fun o σ=>Sa σ (E9 env Q) o a v
noncomputable def HT(o:Ev)(a:Nat)(env:au)(Q:aF)(X:ak):ag:=fun v σ=>o env σ (Hu a v env Q) X
noncomputable def Ic(v o:V)(env:au)(Q:aF):ag:=fun k σ=>Si σ (E9 env Q) o k v
noncomputable def Ib(v:V)(k:Ev)(env:au)(Q:aF)(X:ak):ag:=fun o σ=>k env σ (Ic v o env Q) X
noncomputable def Hy(o k:Ev)(env:au)(Q:aF)(X:ak):ag:=fun v σ=>o env σ (Ib v k env Q X) X
noncomputable def HI(o:V)(a:Nat)(op:Op)(x:V)(env:au)(Q:aF):ag:=fun y σ=>Bn σ (fun v σ'=>Sa σ' (E9 env Q) o a v) op x y
noncomputable def H6(o:V)(a:Nat)(op:Op)(e:Ev)(env:au)(Q:aF)(X:ak):ag:=fun x σ=>e env σ (HI o a op x env Q) X
noncomputable def H8(call:aw)(a:Nat)(op:Op)(e:Ev)(env:au)(Q:aF)(X:ak):ag:=fun o σ=>At σ (H6 o a op e env Q X) call o a
noncomputable def GW(due:Option (Option V))(env:au)(Q:aF):ak:=fun told σ=>match due with
 | some (some (.bytes b))=>(told=b→Q .brk env σ)∧(told≠b→Q (.ret (.bool false)) env σ)
 | _=>False
structure Wh(t:C1)(b:yw)(env:au)(σ:List O)(Q:aF)(X:ak):Prop where
 go:∀ P:au→List O→Prop,(∀ env σ,t env σ (HF b env P Q X) X→P env σ)→P env σ
noncomputable def lf(set:V→au→Option au)(body:yw)(live:bn)(Q:aF)(X:ak):List V→au→List O→Prop
 | [],env,σ=>live σ∧Q .next env σ
 | x :: xs,env,σ=>live σ∧∃ env',set x env=some env'∧body env' σ (ja (lf set body live Q X xs) Q) X
noncomputable def Fo(acc:List V)(r:List V→List O→Prop):ag:=fun v σ=>acc.length≤1000000∧r (acc++[v]) σ
noncomputable def zN(elt:Ev)(env':au)(acc:List V)(r:List V→List O→Prop):aX
 | true,σ=>elt env' σ (Fo acc r) fun _ _=>False
 | false,σ=>r acc σ
noncomputable def cF(set:V→au→Option au)(test:C1)(elt:Ev)(live:bn)(env:au)(Q:aL):List V→List V→List O→Prop
 | [],acc,σ=>live σ∧Q acc σ
 | x :: xs,acc,σ=>live σ∧∃ env',set x env=some env'∧test env' σ (zN elt env' acc (cF set test elt live env Q xs)) fun _ _=>False
noncomputable def HK(pt:Bool)(p:List Nat)(k:oZ)(body:yw)(env:au)(Q:aF)(X:ak):aL:=fun vs σ =>
 It σ (fun items live=>lf (aR pt p) body live Q X items env σ) k vs
noncomputable def FR(pt:Bool)(p:List Nat)(k:oZ)(test:C1)(elt:Ev)(env:au)(Q:ag):aL:=fun vs σ =>
 It σ (fun items live=>cF (aR pt p) test elt live env (wU Q) items [] σ) k vs
mutual
noncomputable def bW(call:aw):E→Ev
 | .var i,env,σ,Q,_=>CI env[i]? σ Q
 | .cst v,_,σ,Q,_=>Q v σ
 | .attr e a,env,σ,Q,X=>bW call e env σ (xK call a Q) X
 | .call f args,env,σ,Q,X=>bW call f env σ (zw call (vcEs call args) env Q X) X
 | .meth o a args,env,σ,Q,X=>bW call o env σ (D6 call a (vcEs call args) env Q X) X
 | .bin op l r,env,σ,Q,X=>bW call l env σ (GX op (bW call r) env Q X) X
 | .neg e,env,σ,Q,X=>bW call e env σ (Ie Q) X
 | .not e,env,σ,Q,X=>bW call e env σ (wB (GP (xh Q))) X
 | .cmp l op r,env,σ,Q,X=>bW call l env σ (DU op (bW call r) env (xh Q) X) X
 | .cmp2 l op m op' r,env,σ,Q,X=>bW call l env σ (DN op op' (bW call m) (bW call r) env (xh Q) X) X
 | .bool k es,env,σ,Q,X=>vcBv call k es env σ Q X
 | .ife c a b,env,σ,Q,X=>vcT call c env σ (zt (bW call a) (bW call b) env Q X) X
 | .sub e i,env,σ,Q,X=>bW call e env σ (G6 (bW call i) env Q X) X
 | .slice e lo hi,env,σ,Q,X=>bW call e env σ (G9 (vcEs call lo) (vcEs call hi) env Q X) X
 | .rev e,env,σ,Q,X=>bW call e env σ (HB Q) X
 | .init e,env,σ,Q,X=>bW call e env σ (HU Q) X
 | .list es,env,σ,Q,X=>vcEs call es env σ (wU Q) X
 | .tup es,env,σ,Q,X=>vcEs call es env σ (HR Q) X
 | .dict ks es,env,σ,Q,X=>vcEs call es env σ (Gi ks Q) X
 | .comp elt pt p k es cs,env,σ,Q,X=>vcEs call es env σ (FR pt p k (vcBt call true cs) (bW call elt) env Q) X
noncomputable def vcEs(call:aw):List E→pJ
 | [],_,σ,Q,_=>Q [] σ
 | e :: es,env,σ,Q,X=>bW call e env σ (Ia (vcEs call es) env Q X) X
noncomputable def vcBv(call:aw)(k:Bool):List E→Ev
 | [],_,_,_,_=>False
 | e :: es,env,σ,Q,X=>match es with
  | []=>bW call e env σ Q X
  | _ :: _=>bW call e env σ (Iq k (vcBv call k es) env Q X) X
noncomputable def vcT(call:aw):E→C1
 | .not e,env,σ,Q,X=>vcT call e env σ (GP Q) X
 | .bool k es,env,σ,Q,X=>vcBt call k es env σ Q X
 | .ife c a b,env,σ,Q,X=>vcT call c env σ (HZ (vcT call a) (vcT call b) env Q X) X
 | .cmp l op r,env,σ,Q,X=>bW call l env σ (DU op (bW call r) env Q X) X
 | .cmp2 l op m op' r,env,σ,Q,X=>bW call l env σ (DN op op' (bW call m) (bW call r) env Q X) X
 | .var i,env,σ,Q,_=>CI env[i]? σ (wB Q)
 | .attr e a,env,σ,Q,X=>bW call e env σ (xK call a (wB Q)) X
 | .call f args,env,σ,Q,X=>bW call f env σ (zw call (vcEs call args) env (wB Q) X) X
 | .meth o a args,env,σ,Q,X=>bW call o env σ (D6 call a (vcEs call args) env (wB Q) X) X
 | _,_,_,_,_=>False
noncomputable def vcBt(call:aw)(k:Bool):List E→C1
 | [],_,σ,Q,_=>Q k σ
 | e :: es,env,σ,Q,X=>vcT call e env σ (FL k (vcBt call k es) env Q X) X
end
mutual
noncomputable def HP(call:aw):S→yw
 | .asg i e,env,σ,Q,X=>bW call e env σ (oE i env Q) X
 | .asgT ts e,env,σ,Q,X=>bW call e env σ (DF ts env Q) X
 | .setA o a e,env,σ,Q,X=>bW call e env σ (HT (bW call o) a env Q X) X
 | .setI o k e,env,σ,Q,X=>bW call e env σ (Hy (bW call o) (bW call k) env Q X) X
 | .augA o a op e,env,σ,Q,X=>bW call o env σ (H8 call a op (bW call e) env Q X) X
 | .expr e,env,σ,Q,X=>bW call e env σ (F2 env Q) X
 | .ret e,env,σ,Q,X=>bW call e env σ (H5 env Q) X
 | .ife c b o,env,σ,Q,X=>vcT call c env σ (xr (vcSs call b) (vcSs call o) env Q X) X
 | .whl c b,env,σ,Q,X=>Wh (vcT call c) (vcSs call b) env σ Q X
 | .forr pt p k es b,env,σ,Q,X=>vcEs call es env σ (HK pt p k (vcSs call b) env Q X) X
 | .raise e,env,σ,_,X=>bW call e env σ (Ep X) X
 | .tryx i e j due,env,σ,Q,_=>env[j]? = some none∧bW call e env σ (oE i env Q) (GW env[due]? env Q)
 | .brk,env,σ,Q,_=>Q .brk env σ
 | .cont,env,σ,Q,_=>Q .cont env σ
 | .pass,env,σ,Q,_=>Q .next env σ
 | .dead,_,_,_,_=>False
noncomputable def vcSs(call:aw):List S→yw
 | [],env,σ,Q,_=>Q .next env σ
 | s :: ss,env,σ,Q,X=>HP call s env σ (kr (vcSs call ss) Q X) X
end
structure Fn where
 np:Nat
 nm:List (Option Str)
 dv:List V
 body:List S
noncomputable abbrev wj:Nat:=0
noncomputable abbrev mT:Nat:=1
noncomputable abbrev pm:Nat:=2
noncomputable abbrev vc:Nat:=3
noncomputable abbrev uz:Nat:=4
noncomputable abbrev pH:Nat:=5
noncomputable abbrev eV:Nat:=6
noncomputable abbrev yf:Nat:=7
noncomputable abbrev jZ:Nat:=8
noncomputable abbrev gr:Nat:=9
noncomputable abbrev xS:Nat:=10
noncomputable abbrev nP:Nat:=11
noncomputable abbrev lY:Nat:=12
noncomputable abbrev kE:Nat:=13
noncomputable abbrev rE:Nat:=14
noncomputable abbrev pd:Nat:=15
noncomputable abbrev lZ:Nat:=16
noncomputable abbrev l6:Nat:=17
noncomputable abbrev vi:Nat:=18
noncomputable abbrev uo:Nat:=19
noncomputable abbrev oU:Nat:=20
noncomputable abbrev gd:Nat:=21
noncomputable abbrev c7:Nat:=22
noncomputable abbrev rA:Nat:=23
noncomputable abbrev sC:Nat:=24
noncomputable abbrev rR:Nat:=25
noncomputable abbrev yV:Nat:=26
noncomputable abbrev FI:Nat:=27
noncomputable abbrev Fu:Nat:=28
noncomputable abbrev ti:Nat:=30
noncomputable abbrev zr:Nat:=31
noncomputable abbrev sA:Nat:=32
noncomputable abbrev tx:Nat:=33
noncomputable abbrev pM:Nat:=34
noncomputable abbrev v8:Nat:=38
noncomputable abbrev cU:Nat:=39
noncomputable abbrev cX:Nat:=40
noncomputable abbrev ie:Nat:=42
noncomputable abbrev dL:Nat:=43
noncomputable abbrev dX:Nat:=44
noncomputable abbrev vV:Nat:=45
noncomputable abbrev kY:Nat:=46
noncomputable abbrev sh:Nat:=47
noncomputable abbrev jH:Nat:=48
noncomputable abbrev sH:Nat:=49
noncomputable abbrev tQ:Nat:=50
noncomputable abbrev rq:Nat:=51
noncomputable abbrev pE:Nat:=52
noncomputable abbrev pL:Nat:=53
noncomputable abbrev vR:Nat:=54
noncomputable abbrev qM:Nat:=55
noncomputable abbrev pG:Nat:=56
noncomputable abbrev uK:Nat:=57
noncomputable abbrev oF:Nat:=58
noncomputable abbrev mW:Nat:=59
noncomputable abbrev eW:Nat:=61
noncomputable abbrev im:Nat:=62
noncomputable abbrev oC:Nat:=63
noncomputable abbrev jb:Nat:=64
noncomputable abbrev jY:Nat:=65
noncomputable abbrev kZ:Nat:=66
noncomputable abbrev l9:Nat:=67
noncomputable abbrev fX:Nat:=68
noncomputable abbrev jV:Nat:=71
noncomputable abbrev fL:Nat:=72
noncomputable abbrev gn:Nat:=73
noncomputable abbrev fG:Nat:=74
noncomputable abbrev dN:Nat:=75
noncomputable abbrev gq:Nat:=76
noncomputable abbrev ir:Nat:=77
noncomputable abbrev oD:Nat:=78
noncomputable abbrev nG:Nat:=79
noncomputable abbrev jO:Nat:=82
noncomputable abbrev lF:Nat:=83
noncomputable abbrev b7:Nat:=84
noncomputable abbrev sU:Nat:=85
noncomputable abbrev tO:Nat:=86
noncomputable abbrev yG:Nat:=87
noncomputable abbrev rB:Nat:=88
noncomputable abbrev vQ:Nat:=89
noncomputable abbrev tG:Nat:=90
noncomputable abbrev ui:Nat:=91
noncomputable abbrev rL:Nat:=92
noncomputable abbrev v7:Nat:=93
noncomputable abbrev u9:Nat:=94
noncomputable abbrev yb:Nat:=95
noncomputable abbrev Bl:Nat:=96
noncomputable abbrev uS:Nat:=97
noncomputable abbrev sK:Nat:=98
noncomputable abbrev rX:Nat:=99
noncomputable abbrev cr:Nat:=100
noncomputable abbrev bc:Nat:=101
noncomputable abbrev zO:Nat:=102
noncomputable def wb:List S:=[.ret (.cmp (.var 0) .isin (.cst (.bytes [0,9,10,12,13,32])))]
noncomputable def lJ:Fn:=⟨1,[some "octet"],[],wb⟩
noncomputable def nB:List S:=[.ret (.cmp (.var 0) .isin (.cst (.bytes [40,41,60,62,91,93,123,125,47,37])))]
noncomputable def fV:Fn:=⟨1,[some "octet"],[],nB⟩
noncomputable def pg:List S:=[.ret (.bool false [.cmp (.var 0) .eq (.cst (.int 10)),.cmp (.var 0) .eq (.cst (.int 13))])]
noncomputable def gI:Fn:=⟨1,[some "octet"],[],pg⟩
noncomputable def u6:List S:=[.ret (.cmp2 (.cst (.int 48)) .le (.var 0) .le (.cst (.int 55)))]
noncomputable def lh:Fn:=⟨1,[some "octet"],[],u6⟩
noncomputable def uy:List S:=[.ife (.cmp2 (.cst (.int 48)) .le (.var 0) .le (.cst (.int 57))) [.ret (.bin .sub (.var 0) (.cst (.int 48)))] [],.ife (.cmp2 (.cst (.int 65)) .le (.var 0) .le (.cst (.int 70))) [.ret (.bin .sub (.var 0) (.cst (.int 55)))] [],.ife (.cmp2 (.cst (.int 97)) .le (.var 0) .le (.cst (.int 102))) [.ret (.bin .sub (.var 0) (.cst (.int 87)))] [],.ret (.cst (.none))]
noncomputable def jN:Fn:=⟨1,[some "octet"],[],uy⟩
noncomputable def pf:List S:=[.ife (.cmp2 (.cst (.int 48)) .le (.var 0) .le (.cst (.int 57))) [.ret (.bin .sub (.var 0) (.cst (.int 48)))] [],.ife (.cmp2 (.cst (.int 65)) .le (.var 0) .le (.cst (.int 90))) [.ret (.bin .sub (.var 0) (.cst (.int 55)))] [],.ife (.cmp2 (.cst (.int 97)) .le (.var 0) .le (.cst (.int 122))) [.ret (.bin .sub (.var 0) (.cst (.int 87)))] [],.ret (.cst (.none))]
noncomputable def g8:Fn:=⟨1,[some "octet"],[],pf⟩
noncomputable def b8:List S:=[.asg 1 (.ife (.cmp (.var 0) .ge (.cst (.int 0))) (.var 0) (.neg (.var 0))),.asg 2 (.list [.bin .add (.cst (.int 48)) (.bin .mod (.var 1) (.cst (.int 10)))]),.asg 1 (.bin .fdiv (.var 1) (.cst (.int 10))),.whl (.cmp (.var 1) .gt (.cst (.int 0))) [.expr (.meth (.var 2) 1 [.bin .add (.cst (.int 48)) (.bin .mod (.var 1) (.cst (.int 10)))]),.asg 1 (.bin .fdiv (.var 1) (.cst (.int 10)))],.ife (.cmp (.var 0) .lt (.cst (.int 0))) [.expr (.meth (.var 2) 1 [.cst (.int 45)])] [],.ret (.call (.cst (.blt .bytes)) [.rev (.var 2)])]
noncomputable def eB:Fn:=⟨1,[some "number",some "rest",some "found"],[],b8⟩
noncomputable def yJ:List S:=[.asgT [2,3] (.tup [.call (.cst (.blt .abs)) [.var 0],.call (.cst (.blt .abs)) [.var 1]]),.asg 4 (.bin .fdiv (.bin .add (.bin .mul (.cst (.int 2)) (.var 2)) (.var 3)) (.bin .mul (.cst (.int 2)) (.var 3))),.ret (.ife (.cmp (.cmp (.var 0) .lt (.cst (.int 0))) .eq (.cmp (.var 1) .lt (.cst (.int 0)))) (.var 4) (.neg (.var 4)))]
noncomputable def mJ:Fn:=⟨2,[some "number",some "by",some "size",some "parts",some "found"],[],yJ⟩
noncomputable def jI:List S:=[.ret (.cmp2 (.cst (.int (-2147483648))) .le (.var 0) .le (.cst (.int 2147483647)))]
noncomputable def dR:Fn:=⟨1,[some "number"],[],jI⟩
noncomputable def oM:List S:=[.ife (.cmp (.call (.cst (.blt .abs)) [.var 0]) .gt (.cst (.int 1000000000000000000000))) [.raise (.cst (.bytes [108,105,109,105,116,99,104,101,99,107]))] [],.ret (.var 0)]
noncomputable def f5:Fn:=⟨1,[some "millionths"],[],oM⟩
noncomputable def xX:List S:=[.ret (.call (.cst (.fn 9)) [.bin .mul (.var 0) (.cst (.int 1000000))])]
noncomputable def nI:Fn:=⟨1,[some "number"],[],xX⟩
noncomputable def nV:List S:=[.ife (.call (.cst (.fn 8)) [.var 0]) [.ret (.tup [.cst (.str 9),.var 0])] [],.ret (.tup [.cst (.str 10),.call (.cst (.fn 10)) [.var 0]])]
noncomputable def f9:Fn:=⟨1,[some "number"],[],nV⟩
noncomputable def lQ:List S:=[.asg 2 (.comp (.call (.cst (.fn 5)) [.var 3]) false [3] .plain [.var 0] []),.ife (.bool false [.cmp (.var 2) .eq (.list []),.cmp (.comp (.var 4) false [4] .plain [.var 2] [.bool false [.cmp (.var 4) .is (.cst (.none)),.cmp (.var 4) .ge (.var 1)]]) .ne (.list [])]) [.ret (.cst (.none))] [],.ret (.call (.cst (.fn 13)) [.var 2,.var 1])]
noncomputable def fh:Fn:=⟨2,[some "octets",some "base",some "figures",none,none],[],lQ⟩
noncomputable def fm:List S:=[.ife (.cmp (.call (.cst (.blt .len)) [.var 0]) .gt (.cst (.int 32))) [.asg 2 (.bin .fdiv (.call (.cst (.blt .len)) [.var 0]) (.cst (.int 2))),.asg 3 (.bin .sub (.call (.cst (.blt .len)) [.var 0]) (.var 2)),.ret (.bin .add (.bin .mul (.call (.cst (.fn 13)) [.slice (.var 0) [] [.var 3],.var 1]) (.bin .pow (.var 1) (.var 2))) (.call (.cst (.fn 13)) [.slice (.var 0) [.var 3] [],.var 1]))] [],.asg 4 (.cst (.int 0)),.forr false [5] .plain [.var 0] [.asg 4 (.bin .add (.bin .mul (.var 4) (.var 1)) (.var 5))],.ret (.var 4)]
noncomputable def cE:Fn:=⟨2,[some "figures",some "base",some "half",some "begin",some "found",some "figure"],[],fm⟩
noncomputable def r7:List S:=[.asg 2 (.call (.cst (.fn 12)) [.slice (.var 0) [] [.var 1],.cst (.int 10)]),.ife (.bool false [.cmp (.var 2) .is (.cst (.none)),.cmp (.var 1) .gt (.cst (.int 2)),.not (.cmp2 (.cst (.int 2)) .le (.var 2) .le (.cst (.int 36)))]) [.ret (.cst (.none))] [],.asg 3 (.call (.cst (.fn 12)) [.slice (.var 0) [.bin .add (.var 1) (.cst (.int 1))] [],.var 2]),.ife (.cmp (.var 3) .is (.cst (.none))) [.ret (.cst (.none))] [],.ife (.cmp (.var 3) .ge (.cst (.int 4294967296))) [.raise (.cst (.bytes [108,105,109,105,116,99,104,101,99,107]))] [],.ret (.tup [.cst (.str 9),.call (.cst (.fn 15)) [.var 3]])]
noncomputable def iz:Fn:=⟨2,[some "octets",some "at",some "base",some "found"],[],r7⟩
noncomputable def pB:List S:=[.asg 1 (.bin .mod (.var 0) (.cst (.int 4294967296))),.ret (.ife (.cmp (.var 1) .le (.cst (.int 2147483647))) (.var 1) (.bin .sub (.var 1) (.cst (.int 4294967296))))]
noncomputable def gp:Fn:=⟨1,[some "number",some "found"],[],pB⟩
noncomputable def gb:List S:=[.asg 1 (.ife (.cmp (.slice (.var 0) [] [.cst (.int 1)]) .isin (.tup [.cst (.bytes [43]),.cst (.bytes [45])])) (.cst (.int 1)) (.cst (.int 0))),.asg 2 (.slice (.var 0) [.var 1] []),.asg 3 (.call (.cst (.fn 12)) [.var 2,.cst (.int 10)]),.ife (.cmp (.var 3) .is (.cst (.none))) [.ret (.cst (.none))] [],.ret (.ife (.cmp (.slice (.var 0) [] [.cst (.int 1)]) .eq (.cst (.bytes [45]))) (.neg (.var 3)) (.var 3))]
noncomputable def fv:Fn:=⟨1,[some "octets",some "begin",some "figures",some "found"],[],gb⟩
noncomputable def lP:List S:=[.ife (.cmp (.var 0) .eq (.cst (.int 0))) [.ret (.cst (.int 0))] [],.ife (.cmp (.var 1) .ge (.cst (.int 0))) [.ife (.cmp (.var 1) .gt (.bin .add (.bin .mul (.cst (.int 2)) (.cst (.int 6))) (.cst (.int 20)))) [.raise (.cst (.bytes [108,105,109,105,116,99,104,101,99,107]))] [],.ret (.call (.cst (.fn 9)) [.bin .mul (.var 0) (.bin .pow (.cst (.int 10)) (.var 1))])] [],.ife (.cmp (.neg (.var 1)) .gt (.meth (.var 0) 8 [])) [.ret (.cst (.int 0))] [],.ret (.call (.cst (.fn 9)) [.call (.cst (.fn 7)) [.var 0,.bin .pow (.cst (.int 10)) (.neg (.var 1))]])]
noncomputable def fu:Fn:=⟨2,[some "number",some "tens"],[],lP⟩
noncomputable def nZ:List S:=[.forr true [2,3] .enum [.var 0] [.ife (.cmp (.var 3) .isin (.var 1)) [.ret (.tup [.slice (.var 0) [] [.var 2],.slice (.var 0) [.bin .add (.var 2) (.cst (.int 1))] []])] []],.ret (.tup [.var 0,.cst (.none)])]
noncomputable def lq:Fn:=⟨2,[some "octets",some "signs",some "at",some "octet"],[],nZ⟩
noncomputable def lu:List S:=[.asgT [2,3] (.call (.cst (.fn 18)) [.var 0,.cst (.bytes [101,69])]),.asgT [4,5] (.call (.cst (.fn 18)) [.var 2,.cst (.bytes [46])]),.ife (.bool true [.cmp (.var 3) .is (.cst (.none)),.cmp (.var 5) .is (.cst (.none))]) [.ret (.cst (.none))] [],.asg 6 (.ife (.cmp (.var 3) .is (.cst (.none))) (.cst (.int 0)) (.call (.cst (.fn 16)) [.var 3])),.asg 7 (.ife (.cmp (.var 5) .is (.cst (.none))) (.cst (.bytes [])) (.var 5)),.asg 8 (.call (.cst (.fn 12)) [.bin .add (.var 4) (.var 7),.cst (.int 10)]),.ife (.bool false [.cmp (.var 6) .is (.cst (.none)),.cmp (.var 8) .is (.cst (.none))]) [.ret (.cst (.none))] [],.ret (.tup [.cst (.str 10),.call (.cst (.fn 17)) [.ife (.var 1) (.neg (.var 8)) (.var 8),.bin .add (.bin .sub (.var 6) (.call (.cst (.blt .len)) [.var 7])) (.cst (.int 6))]])]
noncomputable def jC:Fn:=⟨2,[some "octets",some "is_below",some "figures",some "exponent",some "whole",some "rest",some "tens",some "behind",some "number"],[],lu⟩
noncomputable def eI:List S:=[.forr true [1,2] .enum [.var 0] [.ife (.cmp (.var 2) .eq (.cst (.int 35))) [.ret (.call (.cst (.fn 14)) [.var 0,.var 1])] []],.asg 3 (.ife (.cmp (.slice (.var 0) [] [.cst (.int 1)]) .isin (.tup [.cst (.bytes [43]),.cst (.bytes [45])])) (.cst (.int 1)) (.cst (.int 0))),.asg 4 (.cmp (.slice (.var 0) [] [.cst (.int 1)]) .eq (.cst (.bytes [45]))),.asg 5 (.call (.cst (.fn 12)) [.slice (.var 0) [.var 3] [],.cst (.int 10)]),.ife (.cmp (.var 5) .isNot (.cst (.none))) [.ret (.call (.cst (.fn 11)) [.ife (.var 4) (.neg (.var 5)) (.var 5)])] [],.ret (.call (.cst (.fn 19)) [.slice (.var 0) [.var 3] [],.var 4])]
noncomputable def gM:Fn:=⟨1,[some "octets",some "at",some "octet",some "begin",some "is_below",some "number"],[],eI⟩
noncomputable def gf:List S:=[.ife (.cmp (.var 0) .eq (.cst (.str 9))) [.ret (.call (.cst (.fn 6)) [.var 1])] [],.asg 2 (.call (.cst (.blt .abs)) [.var 1]),.asg 3 (.slice (.call (.cst (.fn 6)) [.bin .add (.cst (.int 1000000)) (.bin .mod (.var 2) (.cst (.int 1000000)))]) [.cst (.int 1)] []),.whl (.bool true [.cmp (.call (.cst (.blt .len)) [.var 3]) .gt (.cst (.int 1)),.cmp (.sub (.var 3) (.bin .sub (.call (.cst (.blt .len)) [.var 3]) (.cst (.int 1)))) .eq (.cst (.int 48))]) [.asg 3 (.slice (.var 3) [] [.bin .sub (.call (.cst (.blt .len)) [.var 3]) (.cst (.int 1))])],.ret (.bin .add (.bin .add (.bin .add (.ife (.cmp (.var 1) .lt (.cst (.int 0))) (.cst (.bytes [45])) (.cst (.bytes []))) (.call (.cst (.fn 6)) [.bin .fdiv (.var 2) (.cst (.int 1000000))])) (.cst (.bytes [46]))) (.var 3))]
noncomputable def cY:Fn:=⟨2,[some "kind",some "value",some "size",some "behind"],[],gf⟩
noncomputable def pz:List S:=[.setA (.var 0) 11 (.var 1),.setA (.var 0) 12 (.var 2),.setA (.var 0) 13 (.var 3),.setA (.var 0) 14 (.var 4)]
noncomputable def cG:Fn:=⟨5,[some "self",some "kind",some "value",some "is_exec",some "access"],[.bool false,.int 3],pz⟩
noncomputable def re:List S:=[.setA (.var 0) 15 (.var 1),.setA (.var 0) 16 (.call (.cst (.blt .bytearray)) [.var 2]),.setA (.var 0) 17 (.var 3),.setA (.var 0) 18 (.var 4)]
noncomputable def iE:Fn:=⟨5,[some "self",some "number",some "octets",some "is_global",some "level"],[],re⟩
noncomputable def sn:List S:=[.setA (.var 0) 15 (.var 1),.setA (.var 0) 19 (.call (.cst (.blt .list)) [.var 2]),.setA (.var 0) 17 (.var 3),.setA (.var 0) 18 (.var 4)]
noncomputable def jh:Fn:=⟨5,[some "self",some "number",some "things",some "is_global",some "level"],[],sn⟩
noncomputable def rW:List S:=[.setA (.var 0) 20 (.var 1),.setA (.var 0) 21 (.var 2),.setA (.var 0) 22 (.var 3)]
noncomputable def iI:Fn:=⟨4,[some "self",some "body",some "start",some "many"],[],rW⟩
noncomputable def yn:List S:=[.ret (.call (.cst (.cls 1)) [.cst (.str 9),.var 0])]
noncomputable def oo:Fn:=⟨1,[some "number"],[],yn⟩
noncomputable def Ey:List S:=[.ret (.call (.cst (.cls 1)) [.cst (.str 10),.var 0])]
noncomputable def wO:Fn:=⟨1,[some "millionths"],[],Ey⟩
noncomputable def EX:List S:=[.ret (.call (.cst (.cls 1)) [.cst (.str 23),.var 0,.var 1])]
noncomputable def xE:Fn:=⟨2,[some "octets",some "is_exec"],[.bool false],EX⟩
noncomputable def EF:List S:=[.ret (.call (.cst (.cls 1)) [.cst (.str 24),.cst (.none)])]
noncomputable def CH:Fn:=⟨0,[],[],EF⟩
noncomputable def uF:List S:=[.ret (.call (.cst (.cls 1)) [.cst (.str 25),.call (.cst (.cls 4)) [.var 0,.cst (.int 0),.call (.cst (.blt .len)) [.attr (.var 0) 16]],.var 1,.var 2])]
noncomputable def j5:Fn:=⟨3,[some "text",some "is_exec",some "access"],[.bool false,.int 3],uF⟩
noncomputable def AF:List S:=[.ret (.call (.cst (.cls 1)) [.cst (.str 26),.call (.cst (.cls 4)) [.var 0,.cst (.int 0),.call (.cst (.blt .len)) [.attr (.var 0) 19]],.var 1,.var 2])]
noncomputable def qo:Fn:=⟨3,[some "row",some "is_exec",some "access"],[.bool false,.int 3],AF⟩
noncomputable def sQ:List S:=[.ret (.call (.cst (.cls 1)) [.cst (.str 27),.call (.cst (.cls 4)) [.var 0,.cst (.int 0),.call (.cst (.blt .len)) [.attr (.var 0) 19]],.var 1,.cst (.int 2)])]
noncomputable def jj:Fn:=⟨2,[some "row",some "is_exec"],[.bool false],sQ⟩
noncomputable def t7:List S:=[.ret (.bool false [.cmp (.attr (.var 0) 11) .eq (.cst (.str 9)),.cmp (.attr (.var 0) 11) .eq (.cst (.str 10))])]
noncomputable def jR:Fn:=⟨1,[some "thing"],[],t7⟩
noncomputable def o7:List S:=[.ret (.bool false [.cmp (.attr (.var 0) 11) .eq (.cst (.str 26)),.cmp (.attr (.var 0) 11) .eq (.cst (.str 27))])]
noncomputable def gY:Fn:=⟨1,[some "thing"],[],o7⟩
noncomputable def yI:List S:=[.ife (.cmp (.attr (.var 0) 11) .eq (.cst (.str 28))) [.ret (.attr (.var 0) 12)] [],.ret (.ife (.bool false [.cmp (.attr (.var 0) 11) .eq (.cst (.str 25)),.call (.cst (.fn 34)) [.var 0]]) (.attr (.attr (.var 0) 12) 20) (.cst (.none)))]
noncomputable def uX:Fn:=⟨1,[some "thing"],[],yI⟩
noncomputable def ww:List S:=[.asg 1 (.ife (.cmp (.attr (.var 0) 11) .eq (.cst (.str 29))) (.attr (.var 0) 12) (.call (.cst (.fn 35)) [.var 0])),.ret (.bool true [.cmp (.var 1) .isNot (.cst (.none)),.not (.attr (.var 1) 17)])]
noncomputable def ud:Fn:=⟨1,[some "thing",some "shared"],[],ww⟩
noncomputable def tm:List S:=[.ret (.ife (.cmp (.attr (.var 0) 11) .eq (.cst (.str 28))) (.attr (.attr (.var 0) 12) 14) (.attr (.var 0) 14))]
noncomputable def jK:Fn:=⟨1,[some "thing"],[],tm⟩
noncomputable def vG:List S:=[.ret (.cmp (.call (.cst (.fn 37)) [.var 0]) .ge (.cst (.int 2)))]
noncomputable def lD:Fn:=⟨1,[some "thing"],[],vG⟩
noncomputable def kK:List S:=[.ret (.call (.cst (.blt .bytes)) [.slice (.attr (.attr (.var 0) 20) 16) [.attr (.var 0) 21] [.bin .add (.attr (.var 0) 21) (.attr (.var 0) 22)]])]
noncomputable def eh:Fn:=⟨1,[some "span"],[],kK⟩
noncomputable def ko:List S:=[.ret (.slice (.attr (.attr (.var 0) 20) 19) [.attr (.var 0) 21] [.bin .add (.attr (.var 0) 21) (.attr (.var 0) 22)])]
noncomputable def eH:Fn:=⟨1,[some "span"],[],ko⟩
noncomputable def ip:List S:=[.setA (.var 0) 16 (.var 1),.setA (.var 0) 30 (.var 2),.setA (.var 0) 31 (.cst (.bool false))]
noncomputable def dc:Fn:=⟨3,[some "self",some "octets",some "at"],[.int 0],ip⟩
noncomputable def ii:List S:=[.ret (.attr (.var 0) 30)]
noncomputable def du:Fn:=⟨1,[some "self"],[],ii⟩
noncomputable def iL:List S:=[.setA (.var 0) 31 (.cmp (.attr (.var 0) 30) .lt (.call (.cst (.blt .len)) [.attr (.var 0) 16])),.ife (.not (.attr (.var 0) 31)) [.ret (.cst (.none))] [],.setA (.var 0) 30 (.bin .add (.attr (.var 0) 30) (.cst (.int 1))),.ret (.sub (.attr (.var 0) 16) (.bin .sub (.attr (.var 0) 30) (.cst (.int 1))))]
noncomputable def dC:Fn:=⟨1,[some "self"],[],iL⟩
noncomputable def iY:List S:=[.ife (.attr (.var 0) 31) [.setA (.var 0) 30 (.bin .sub (.attr (.var 0) 30) (.cst (.int 1))),.setA (.var 0) 31 (.cst (.bool false))] []]
noncomputable def dD:Fn:=⟨1,[some "self"],[],iY⟩
noncomputable def wz:List S:=[.ret (.bool false [.call (.cst (.fn 0)) [.var 0],.cmp (.var 0) .eq (.cst (.int 4))])]
noncomputable def lm:Fn:=⟨1,[some "octet"],[],wz⟩
noncomputable def kA:List S:=[.asg 1 (.meth (.var 0) 32 []),.ife (.bool true [.cmp (.var 1) .isNot (.cst (.none)),.cmp (.var 1) .ne (.cst (.int 10))]) [.expr (.meth (.var 0) 33 [])] []]
noncomputable def eu:Fn:=⟨1,[some "source",some "following"],[],kA⟩
noncomputable def ua:List S:=[.asg 1 (.meth (.var 0) 32 []),.whl (.bool true [.cmp (.var 1) .isNot (.cst (.none)),.not (.call (.cst (.fn 2)) [.var 1]),.cmp (.var 1) .ne (.cst (.int 12))]) [.asg 1 (.meth (.var 0) 32 [])],.ife (.cmp (.var 1) .eq (.cst (.int 13))) [.expr (.call (.cst (.fn 46)) [.var 0])] []]
noncomputable def j6:Fn:=⟨1,[some "source",some "octet"],[],ua⟩
noncomputable def rG:List S:=[.asg 1 (.meth (.var 0) 32 []),.whl (.cmp (.var 1) .isNot (.cst (.none))) [.ife (.cmp (.var 1) .eq (.cst (.int 37))) [.expr (.call (.cst (.fn 47)) [.var 0])] [.ife (.not (.call (.cst (.fn 45)) [.var 1])) [.ret (.var 1)] []],.asg 1 (.meth (.var 0) 32 [])],.ret (.cst (.none))]
noncomputable def iJ:Fn:=⟨1,[some "source",some "octet"],[],rG⟩
noncomputable def uT:List S:=[.asg 2 (.call (.cst (.blt .bytearray)) []),.asg 3 (.meth (.var 0) 32 []),.whl (.bool true [.cmp (.var 3) .isNot (.cst (.none)),.not (.call (.cst (.fn 45)) [.var 3]),.not (.call (.cst (.fn 1)) [.var 3])]) [.ife (.cmp (.call (.cst (.blt .len)) [.var 2]) .ge (.var 1)) [.raise (.cst (.bytes [108,105,109,105,116,99,104,101,99,107]))] [],.expr (.meth (.var 2) 1 [.var 3]),.asg 3 (.meth (.var 0) 32 [])],.ife (.cmp (.var 3) .is (.cst (.none))) [.ret (.call (.cst (.blt .bytes)) [.var 2])] [],.ife (.call (.cst (.fn 1)) [.var 3]) [.expr (.meth (.var 0) 33 [])] [.ife (.cmp (.var 3) .eq (.cst (.int 13))) [.expr (.call (.cst (.fn 46)) [.var 0])] []],.ret (.call (.cst (.blt .bytes)) [.var 2])]
noncomputable def jd:Fn:=⟨2,[some "source",some "most",some "found",some "octet"],[],uT⟩
noncomputable def sX:List S:=[.asg 1 (.meth (.var 0) 32 []),.ife (.cmp (.var 1) .is (.cst (.none))) [.raise (.cst (.bytes [115,121,110,116,97,120,101,114,114,111,114]))] [],.ret (.var 1)]
noncomputable def jG:Fn:=⟨1,[some "source",some "octet"],[],sX⟩
noncomputable def jw:List S:=[.asg 2 (.bin .sub (.var 1) (.cst (.int 48))),.forr false [3] .rng [.cst (.int 2)] [.asg 1 (.meth (.var 0) 32 []),.ife (.cmp (.var 1) .is (.cst (.none))) [.ret (.bin .band (.var 2) (.cst (.int 255)))] [],.ife (.not (.call (.cst (.fn 3)) [.var 1])) [.expr (.meth (.var 0) 33 []),.ret (.bin .band (.var 2) (.cst (.int 255)))] [],.asg 2 (.bin .sub (.bin .add (.bin .mul (.cst (.int 8)) (.var 2)) (.var 1)) (.cst (.int 48)))],.ret (.bin .band (.var 2) (.cst (.int 255)))]
noncomputable def iA:Fn:=⟨2,[some "source",some "octet",some "number",some "turn"],[],jw⟩
noncomputable def pC:List S:=[.asg 2 (.dict [.int 110,.int 114,.int 116,.int 98,.int 102] [.cst (.int 10),.cst (.int 13),.cst (.int 9),.cst (.int 8),.cst (.int 12)]),.asg 3 (.call (.cst (.fn 50)) [.var 0]),.ife (.call (.cst (.fn 3)) [.var 3]) [.expr (.meth (.var 1) 1 [.call (.cst (.fn 51)) [.var 0,.var 3]])] [.ife (.cmp (.var 3) .eq (.cst (.int 13))) [.expr (.call (.cst (.fn 46)) [.var 0])] [.ife (.cmp (.var 3) .ne (.cst (.int 10))) [.expr (.meth (.var 1) 1 [.meth (.var 2) 7 [.var 3,.var 3]])] []]]]
noncomputable def gz:Fn:=⟨2,[some "source",some "found",some "meanings",some "octet"],[],pC⟩
noncomputable def pq:List S:=[.asgT [1,2] (.tup [.call (.cst (.blt .bytearray)) [],.cst (.int 1)]),.whl (.cmp (.var 2) .gt (.cst (.int 0))) [.asg 3 (.call (.cst (.fn 50)) [.var 0]),.ife (.cmp (.var 3) .eq (.cst (.int 92))) [.expr (.call (.cst (.fn 52)) [.var 0,.var 1]),.cont] [],.ife (.cmp (.var 3) .eq (.cst (.int 13))) [.expr (.call (.cst (.fn 46)) [.var 0]),.asg 3 (.cst (.int 10))] [],.ife (.cmp (.var 3) .eq (.cst (.int 40))) [.asg 2 (.bin .add (.var 2) (.cst (.int 1)))] [],.ife (.cmp (.var 3) .eq (.cst (.int 41))) [.asg 2 (.bin .sub (.var 2) (.cst (.int 1)))] [],.ife (.cmp (.var 2) .gt (.cst (.int 0))) [.expr (.meth (.var 1) 1 [.var 3])] []],.ret (.call (.cst (.blt .bytes)) [.var 1])]
noncomputable def gX:Fn:=⟨1,[some "source",some "found",some "depth",some "octet"],[],pq⟩
noncomputable def vH:List S:=[.asgT [1,2] (.tup [.call (.cst (.blt .bytearray)) [],.cst (.none)]),.asg 3 (.call (.cst (.fn 50)) [.var 0]),.whl (.cmp (.var 3) .ne (.cst (.int 62))) [.asg 4 (.call (.cst (.fn 4)) [.var 3]),.ife (.bool true [.cmp (.var 4) .is (.cst (.none)),.not (.call (.cst (.fn 0)) [.var 3])]) [.raise (.cst (.bytes [115,121,110,116,97,120,101,114,114,111,114]))] [],.ife (.bool true [.cmp (.var 4) .isNot (.cst (.none)),.cmp (.var 2) .is (.cst (.none))]) [.asg 2 (.var 4)] [.ife (.cmp (.var 4) .isNot (.cst (.none))) [.expr (.meth (.var 1) 1 [.bin .add (.bin .mul (.cst (.int 16)) (.var 2)) (.var 4)]),.asg 2 (.cst (.none))] []],.asg 3 (.call (.cst (.fn 50)) [.var 0])],.ife (.cmp (.var 2) .isNot (.cst (.none))) [.expr (.meth (.var 1) 1 [.bin .mul (.cst (.int 16)) (.var 2)])] [],.ret (.call (.cst (.blt .bytes)) [.var 1])]
noncomputable def lH:Fn:=⟨1,[some "source",some "found",some "high",some "octet",some "digit"],[],vH⟩
noncomputable def jT:List S:=[.asg 1 (.cst (.int 0)),.forr false [2] .plain [.bin .add (.var 0) (.bin .mul (.list [.bin .sub (.cst (.int 85)) (.cst (.int 1))]) (.bin .sub (.cst (.int 5)) (.call (.cst (.blt .len)) [.var 0])))] [.asg 1 (.bin .add (.bin .mul (.cst (.int 85)) (.var 1)) (.var 2))],.ife (.bool false [.cmp (.call (.cst (.blt .len)) [.var 0]) .lt (.cst (.int 2)),.cmp (.var 1) .ge (.bin .pow (.cst (.int 2)) (.cst (.int 32)))]) [.raise (.cst (.bytes [115,121,110,116,97,120,101,114,114,111,114]))] [],.ret (.slice (.call (.cst (.blt .bytes)) [.list [.bin .shr (.var 1) (.cst (.int 24)),.bin .band (.bin .shr (.var 1) (.cst (.int 16))) (.cst (.int 255)),.bin .band (.bin .shr (.var 1) (.cst (.int 8))) (.cst (.int 255)),.bin .band (.var 1) (.cst (.int 255))]]) [] [.bin .sub (.call (.cst (.blt .len)) [.var 0]) (.cst (.int 1))])]
noncomputable def iF:Fn:=⟨1,[some "signs",some "number",some "sign"],[],jT⟩
noncomputable def bC:List S:=[.asgT [1,2] (.tup [.call (.cst (.blt .bytearray)) [],.list []]),.asg 3 (.call (.cst (.fn 50)) [.var 0]),.whl (.cmp (.var 3) .ne (.cst (.int 126))) [.ife (.bool true [.cmp (.var 3) .eq (.cst (.int 122)),.cmp (.var 2) .eq (.list [])]) [.expr (.meth (.var 1) 2 [.call (.cst (.blt .bytes)) [.cst (.int 4)]])] [.ife (.cmp2 (.cst (.int 33)) .le (.var 3) .lt (.bin .add (.cst (.int 33)) (.cst (.int 85)))) [.expr (.meth (.var 2) 1 [.bin .sub (.var 3) (.cst (.int 33))])] [.ife (.not (.call (.cst (.fn 0)) [.var 3])) [.raise (.cst (.bytes [115,121,110,116,97,120,101,114,114,111,114]))] []]],.ife (.cmp (.call (.cst (.blt .len)) [.var 2]) .eq (.cst (.int 5))) [.expr (.meth (.var 1) 2 [.call (.cst (.fn 55)) [.var 2]]),.asg 2 (.list [])] [],.asg 3 (.call (.cst (.fn 50)) [.var 0])],.ife (.cmp (.call (.cst (.fn 50)) [.var 0]) .ne (.cst (.int 62))) [.raise (.cst (.bytes [115,121,110,116,97,120,101,114,114,111,114]))] [],.ife (.cmp (.var 2) .ne (.list [])) [.expr (.meth (.var 1) 2 [.call (.cst (.fn 55)) [.var 2]])] [],.ret (.call (.cst (.blt .bytes)) [.var 1])]
noncomputable def gS:Fn:=⟨1,[some "source",some "found",some "signs",some "octet"],[],bC⟩
noncomputable def ub:List S:=[.ife (.cmp (.call (.cst (.blt .len)) [.var 0]) .gt (.var 2)) [.raise (.cst (.bytes [108,105,109,105,116,99,104,101,99,107]))] [],.ret (.call (.cst (.fn 28)) [.var 0,.var 1])]
noncomputable def j1:Fn:=⟨3,[some "word",some "is_exec",some "most"],[],ub⟩
noncomputable def mL:List S:=[.asg 2 (.call (.cst (.fn 20)) [.var 0]),.ife (.cmp (.var 2) .is (.cst (.none))) [.ret (.call (.cst (.fn 57)) [.var 0,.cst (.bool true),.var 1])] [],.ret (.ife (.cmp (.sub (.var 2) (.cst (.int 0))) .eq (.cst (.str 9))) (.call (.cst (.fn 26)) [.sub (.var 2) (.cst (.int 1))]) (.call (.cst (.fn 27)) [.sub (.var 2) (.cst (.int 1))]))]
noncomputable def f3:Fn:=⟨2,[some "word",some "most",some "told"],[],mL⟩
noncomputable def mM:List S:=[.expr (.call (.cst (.fn 57)) [.var 0,.cst (.bool true),.var 2]),.asg 3 (.ife (.cmp (.var 1) .is (.cst (.none))) (.cst (.none)) (.call (.var 1) [.var 0])),.ife (.cmp (.var 3) .is (.cst (.none))) [.raise (.cst (.bytes [117,110,100,101,102,105,110,101,100]))] [],.ret (.var 3)]
noncomputable def f0:Fn:=⟨3,[some "word",some "lookup",some "most",some "found"],[],mM⟩
noncomputable def lT:List S:=[.setA (.var 0) 34 (.var 1)]
noncomputable def ft:Fn:=⟨2,[some "self",some "memory"],[],lT⟩
noncomputable def kH:List S:=[.ret (.call (.cst (.fn 30)) [.meth (.attr (.var 0) 34) 35 [.var 1]])]
noncomputable def eA:Fn:=⟨2,[some "self",some "octets"],[],kH⟩
noncomputable def ig:List S:=[.asg 3 (.meth (.attr (.var 0) 34) 36 [.var 1]),.ret (.ife (.var 2) (.call (.cst (.fn 32)) [.var 3,.cst (.bool true)]) (.call (.cst (.fn 31)) [.var 3,.cst (.bool true)]))]
noncomputable def di:Fn:=⟨3,[some "self",some "things",some "is_packing",some "row"],[],ig⟩
noncomputable def na:List S:=[.ret (.call (.cst (.fn 49)) [.var 1,.attr (.attr (.attr (.var 0) 34) 37) 38])]
noncomputable def gh:Fn:=⟨2,[some "self",some "source"],[],na⟩
noncomputable def jq:List S:=[.asg 3 (.meth (.var 1) 32 []),.ife (.cmp (.var 3) .eq (.cst (.int 47))) [.ret (.call (.cst (.fn 59)) [.meth (.var 0) 39 [.var 1],.var 2,.attr (.attr (.attr (.var 0) 34) 37) 39])] [],.ife (.cmp (.var 3) .isNot (.cst (.none))) [.expr (.meth (.var 1) 33 [])] [],.ret (.call (.cst (.fn 57)) [.meth (.var 0) 39 [.var 1],.cst (.bool false),.attr (.attr (.attr (.var 0) 34) 37) 39])]
noncomputable def dQ:Fn:=⟨3,[some "self",some "source",some "lookup",some "octet"],[],jq⟩
noncomputable def jy:List S:=[.asg 2 (.call (.cst (.fn 50)) [.var 1]),.ife (.cmp (.var 2) .eq (.cst (.int 60))) [.ret (.call (.cst (.fn 28)) [.cst (.bytes [60,60]),.cst (.bool true)])] [],.ife (.cmp (.var 2) .eq (.cst (.int 126))) [.ret (.meth (.var 0) 25 [.call (.cst (.fn 56)) [.var 1]])] [],.expr (.meth (.var 1) 33 []),.ret (.meth (.var 0) 25 [.call (.cst (.fn 54)) [.var 1]])]
noncomputable def dP:Fn:=⟨2,[some "self",some "source",some "octet"],[],jy⟩
noncomputable def kI:List S:=[.asg 2 (.meth (.var 1) 32 []),.ife (.cmp (.var 2) .ne (.cst (.int 62))) [.ife (.cmp (.var 2) .isNot (.cst (.none))) [.expr (.meth (.var 1) 33 [])] [],.raise (.cst (.bytes [115,121,110,116,97,120,101,114,114,111,114]))] [],.ret (.call (.cst (.fn 28)) [.cst (.bytes [62,62]),.cst (.bool true)])]
noncomputable def d9:Fn:=⟨2,[some "self",some "source",some "octet"],[],kI⟩
noncomputable def l8:List S:=[.ife (.cmp (.var 2) .eq (.cst (.int 47))) [.ret (.meth (.var 0) 40 [.var 1,.var 3])] [],.ife (.cmp (.var 2) .eq (.cst (.int 40))) [.ret (.meth (.var 0) 25 [.call (.cst (.fn 53)) [.var 1]])] [],.ife (.cmp (.var 2) .eq (.cst (.int 60))) [.ret (.meth (.var 0) 41 [.var 1])] [],.ife (.cmp (.var 2) .eq (.cst (.int 62))) [.ret (.meth (.var 0) 42 [.var 1])] [],.ife (.bool false [.cmp (.var 2) .eq (.cst (.int 91)),.cmp (.var 2) .eq (.cst (.int 93))]) [.ret (.call (.cst (.fn 28)) [.call (.cst (.blt .bytes)) [.list [.var 2]],.cst (.bool true)])] [],.ife (.cmp (.var 2) .eq (.cst (.int 41))) [.raise (.cst (.bytes [115,121,110,116,97,120,101,114,114,111,114]))] [],.expr (.meth (.var 1) 33 []),.ret (.call (.cst (.fn 58)) [.meth (.var 0) 39 [.var 1],.attr (.attr (.attr (.var 0) 34) 37) 39])]
noncomputable def eU:Fn:=⟨4,[some "self",some "source",some "octet",some "lookup"],[],l8⟩
noncomputable def lO:List S:=[.asg 4 (.list []),.asg 5 (.call (.cst (.fn 48)) [.var 1]),.whl (.cmp (.var 5) .isNot (.cst (.none))) [.asg 6 (.cst (.none)),.ife (.cmp (.var 5) .eq (.cst (.int 123))) [.expr (.meth (.var 4) 1 [.list []])] [.ife (.cmp (.var 5) .eq (.cst (.int 125))) [.ife (.cmp (.var 4) .eq (.list [])) [.raise (.cst (.bytes [115,121,110,116,97,120,101,114,114,111,114]))] [],.asg 6 (.meth (.var 0) 43 [.meth (.var 4) 3 [],.var 2])] [.asg 6 (.meth (.var 0) 44 [.var 1,.var 5,.var 3])]],.ife (.bool true [.cmp (.var 6) .isNot (.cst (.none)),.cmp (.var 4) .eq (.list [])]) [.ret (.var 6)] [],.ife (.cmp (.var 6) .isNot (.cst (.none))) [.expr (.meth (.sub (.var 4) (.neg (.cst (.int 1)))) 1 [.var 6])] [],.asg 5 (.call (.cst (.fn 48)) [.var 1])],.ife (.cmp (.var 4) .ne (.list [])) [.raise (.cst (.bytes [115,121,110,116,97,120,101,114,114,111,114]))] [],.ret (.cst (.none))]
noncomputable def fb:Fn:=⟨4,[some "self",some "source",some "is_packing",some "lookup",some "opened",some "octet",some "done"],[.bool false,.none],lO⟩
noncomputable def mO:List S:=[.setA (.var 0) 45 (.var 1),.setA (.var 0) 46 (.var 2),.setA (.var 0) 47 (.var 3),.setA (.var 0) 48 (.var 4),.setA (.var 0) 49 (.var 5),.setA (.var 0) 38 (.var 6),.setA (.var 0) 50 (.var 7),.setA (.var 0) 51 (.var 8),.setA (.var 0) 39 (.var 9),.setA (.var 0) 52 (.var 10),.setA (.var 0) 53 (.var 11),.setA (.var 0) 54 (.var 12),.setA (.var 0) 55 (.var 13),.setA (.var 0) 56 (.var 14)]
noncomputable def fY:Fn:=⟨15,[some "self",some "operands",some "dicts",some "frames",some "saves",some "gstates",some "text",some "row",some "entries",some "word",some "path",some "dash",some "files",some "system",some "vm"],[.int 500,.int 20,.int 250,.int 15,.int 31,.int 65535,.int 65535,.int 65535,.int 127,.int 1500,.int 11,.int 15,.int 600,.int 16777216],mO⟩
noncomputable def jJ:List S:=[.setA (.var 0) 37 (.var 1),.setA (.var 0) 17 (.cst (.bool false)),.setA (.var 0) 48 (.list []),.setA (.var 0) 57 (.list []),.setA (.var 0) 58 (.dict [] []),.setA (.var 0) 59 (.list []),.setA (.var 0) 60 (.cst (.int 0)),.setA (.var 0) 61 (.cst (.int 0)),.setA (.var 0) 62 (.cst (.int 0)),.setA (.var 0) 63 (.cst (.int 0))]
noncomputable def d0:Fn:=⟨2,[some "self",some "limits"],[],jJ⟩
noncomputable def j7:List S:=[.ret (.call (.cst (.blt .len)) [.attr (.var 0) 48])]
noncomputable def dU:Fn:=⟨1,[some "self"],[],j7⟩
noncomputable def fJ:List S:=[.ret (.ife (.attr (.var 0) 17) (.cst (.int 0)) (.attr (.var 0) 18))]
noncomputable def cx:Fn:=⟨1,[some "self"],[],fJ⟩
noncomputable def gk:List S:=[.expr (.meth (.var 0) 64 [.var 1]),.setA (.var 0) 62 (.bin .add (.attr (.var 0) 62) (.cst (.int 1))),.setI (.attr (.var 0) 58) (.attr (.var 0) 62) (.tup [.var 1,.attr (.var 0) 17,.meth (.var 0) 65 []]),.ife (.attr (.var 0) 17) [.setA (.var 0) 61 (.bin .add (.attr (.var 0) 61) (.var 1))] [.setA (.var 0) 60 (.bin .add (.attr (.var 0) 60) (.var 1))],.ret (.attr (.var 0) 62)]
noncomputable def cL:Fn:=⟨2,[some "self",some "cost"],[],gk⟩
noncomputable def fR:List S:=[.ife (.cmp (.bin .add (.bin .add (.attr (.var 0) 60) (.attr (.var 0) 61)) (.var 1)) .gt (.attr (.attr (.var 0) 37) 56)) [.raise (.cst (.bytes [86,77,101,114,114,111,114]))] []]
noncomputable def ct:Fn:=⟨2,[some "self",some "cost"],[],fR⟩
noncomputable def dY:List S:=[.expr (.call (.cst (.fn 77)) [.call (.cst (.blt .len)) [.var 1],.attr (.attr (.var 0) 37) 38]),.ret (.call (.cst (.cls 2)) [.meth (.var 0) 66 [.call (.cst (.blt .len)) [.var 1]],.var 1,.attr (.var 0) 17,.meth (.var 0) 65 []])]
noncomputable def bU:Fn:=⟨2,[some "self",some "octets"],[],dY⟩
noncomputable def hG:List S:=[.ife (.call (.cst (.blt .isinst)) [.var 1,.cst (.blt .int)]) [.expr (.call (.cst (.fn 77)) [.var 1,.attr (.attr (.var 0) 37) 50]),.ret (.meth (.var 0) 36 [.bin .mul (.list [.call (.cst (.fn 29)) []]) (.var 1)])] [],.expr (.call (.cst (.fn 77)) [.call (.cst (.blt .len)) [.var 1],.attr (.attr (.var 0) 37) 50]),.ife (.attr (.var 0) 17) [.forr false [2] .plain [.var 1] [.ife (.call (.cst (.fn 36)) [.var 2]) [.raise (.cst (.bytes [105,110,118,97,108,105,100,97,99,99,101,115,115]))] []]] [],.ret (.call (.cst (.cls 3)) [.meth (.var 0) 66 [.bin .mul (.cst (.int 8)) (.call (.cst (.blt .len)) [.var 1])],.var 1,.attr (.var 0) 17,.meth (.var 0) 65 []])]
noncomputable def cM:Fn:=⟨2,[some "self",some "things",some "thing"],[],hG⟩
noncomputable def il:List S:=[.ife (.cmp (.var 0) .lt (.cst (.int 0))) [.raise (.cst (.bytes [114,97,110,103,101,99,104,101,99,107]))] [],.ife (.cmp (.var 0) .gt (.var 1)) [.raise (.cst (.bytes [108,105,109,105,116,99,104,101,99,107]))] []]
noncomputable def df:Fn:=⟨2,[some "many",some "most"],[],il⟩
noncomputable def om:List S:=[.asg 1 (.dict [.int 10,.int 13,.int 9,.int 8,.int 12,.int 40,.int 41,.int 92] [.cst (.bytes [92,110]),.cst (.bytes [92,114]),.cst (.bytes [92,116]),.cst (.bytes [92,98]),.cst (.bytes [92,102]),.cst (.bytes [92,40]),.cst (.bytes [92,41]),.cst (.bytes [92,92])]),.ife (.cmp (.var 0) .isin (.var 1)) [.ret (.sub (.var 1) (.var 0))] [],.ife (.cmp2 (.cst (.int 32)) .le (.var 0) .le (.cst (.int 126))) [.ret (.call (.cst (.blt .bytes)) [.list [.var 0]])] [],.ret (.call (.cst (.blt .bytes)) [.list [.cst (.int 92),.bin .add (.cst (.int 48)) (.bin .fdiv (.var 0) (.cst (.int 64))),.bin .add (.cst (.int 48)) (.bin .mod (.bin .fdiv (.var 0) (.cst (.int 8))) (.cst (.int 8))),.bin .add (.cst (.int 48)) (.bin .mod (.var 0) (.cst (.int 8)))]])]
noncomputable def gg:Fn:=⟨1,[some "octet",some "letters"],[],om⟩
noncomputable def oj:List S:=[.ret (.bin .add (.bin .add (.cst (.bytes [40])) (.meth (.cst (.bytes [])) 6 [.comp (.call (.cst (.fn 78)) [.var 1]) false [1] .plain [.var 0] []])) (.cst (.bytes [41])))]
noncomputable def f6:Fn:=⟨1,[some "octets",none],[],oj⟩
noncomputable def pP:List S:=[.ret (.ife (.var 0) (.cst (.bytes [116,114,117,101])) (.cst (.bytes [102,97,108,115,101])))]
noncomputable def nK:Fn:=⟨1,[some "truth"],[],pP⟩
noncomputable def jg:List S:=[.setA (.var 0) 67 (.cst (.int 1048576))]
noncomputable def dM:Fn:=⟨1,[some "self"],[],jg⟩
noncomputable def jF:List S:=[.augA (.var 0) 67 .sub (.bin .add (.var 1) (.cst (.int 1))),.ret (.cmp (.attr (.var 0) 67) .ge (.cst (.int 0)))]
noncomputable def dZ:Fn:=⟨2,[some "self",some "many"],[],jF⟩
noncomputable def tt:List S:=[.ife (.bool false [.not (.call (.cst (.fn 38)) [.var 0]),.cmp (.var 1) .le (.cst (.int 0)),.not (.meth (.var 2) 68 [.attr (.attr (.var 0) 12) 22])]) [.ret (.ife (.cmp (.attr (.var 0) 11) .eq (.cst (.str 27))) (.cst (.bytes [45,112,97,99,107,101,100,97,114,114,97,121,45])) (.cst (.bytes [45,97,114,114,97,121,45])))] [],.asg 3 (.comp (.call (.cst (.fn 84)) [.var 4,.bin .sub (.var 1) (.cst (.int 1)),.var 2]) false [4] .plain [.call (.cst (.fn 40)) [.attr (.var 0) 12]] []),.ife (.attr (.var 0) 13) [.ret (.bin .add (.bin .add (.cst (.bytes [123])) (.meth (.cst (.bytes [32])) 6 [.var 3])) (.cst (.bytes [125])))] [],.ret (.bin .add (.bin .add (.cst (.bytes [91])) (.meth (.cst (.bytes [32])) 6 [.var 3])) (.cst (.bytes [93])))]
noncomputable def j9:Fn:=⟨3,[some "thing",some "depth",some "room",some "parts",none],[],tt⟩
noncomputable def yx:List S:=[.ife (.call (.cst (.fn 33)) [.var 0]) [.ret (.call (.cst (.fn 21)) [.attr (.var 0) 11,.attr (.var 0) 12])] [],.ife (.cmp (.attr (.var 0) 11) .eq (.cst (.str 69))) [.ret (.call (.cst (.fn 80)) [.attr (.var 0) 12])] [],.ife (.cmp (.attr (.var 0) 11) .eq (.cst (.str 23))) [.ret (.ife (.attr (.var 0) 13) (.attr (.var 0) 12) (.bin .add (.cst (.bytes [47])) (.attr (.var 0) 12)))] [],.ife (.cmp (.attr (.var 0) 11) .eq (.cst (.str 70))) [.ret (.bin .add (.bin .add (.cst (.bytes [45,45])) (.attr (.var 0) 12)) (.cst (.bytes [45,45])))] [],.ife (.cmp (.attr (.var 0) 11) .eq (.cst (.str 25))) [.ret (.ife (.call (.cst (.fn 38)) [.var 0]) (.call (.cst (.fn 79)) [.call (.cst (.fn 39)) [.attr (.var 0) 12]]) (.cst (.bytes [45,115,116,114,105,110,103,45])))] [],.ife (.call (.cst (.fn 34)) [.var 0]) [.ret (.call (.cst (.fn 83)) [.var 0,.var 1,.ife (.cmp (.var 2) .is (.cst (.none))) (.call (.cst (.cls 9)) []) (.var 2)])] [],.dead]
noncomputable def bZ:Fn:=⟨3,[some "thing",some "depth",some "room"],[.int 20,.none],yx⟩
noncomputable def ul:List S:=[.ret (.cst (.bytes [0,9,10,12,13,32]))]
noncomputable def ka:Fn:=⟨0,[],[],ul⟩
noncomputable def uf:List S:=[.ret (.cst (.bytes [0,9,10,12,13,32,4]))]
noncomputable def i9:Fn:=⟨0,[],[],uf⟩
noncomputable def yD:List S:=[.ret (.cst (.bytes [115,121,110,116,97,120,101,114,114,111,114]))]
noncomputable def oL:Fn:=⟨0,[],[],yD⟩
noncomputable def rm:List S:=[.ife (.cmp2 (.cst (.int 48)) .le (.var 0) .le (.cst (.int 57))) [.ret (.bin .sub (.var 0) (.cst (.int 48)))] [],.ife (.cmp2 (.cst (.int 65)) .le (.var 0) .le (.cst (.int 90))) [.ret (.bin .sub (.var 0) (.cst (.int 55)))] [],.ret (.ife (.cmp2 (.cst (.int 97)) .le (.var 0) .le (.cst (.int 122))) (.bin .sub (.var 0) (.cst (.int 87))) (.cst (.int 99)))]
noncomputable def iw:Fn:=⟨1,[some "sign"],[],rm⟩
noncomputable def vq:List S:=[.asg 2 (.sub (.var 0) (.cst (.str 30))),.setI (.var 0) (.cst (.str 30)) (.bin .add (.var 2) (.cst (.int 1))),.ret (.ife (.cmp (.var 2) .lt (.call (.cst (.blt .len)) [.sub (.var 0) (.cst (.str 71))])) (.bin .mod (.sub (.sub (.var 0) (.cst (.str 71))) (.var 2)) (.var 1)) (.bin .mod (.bin .add (.bin .mul (.cst (.int 7)) (.var 2)) (.cst (.int 2))) (.var 1)))]
noncomputable def lA:Fn:=⟨2,[some "deck",some "below",some "at"],[],vq⟩
noncomputable def lE:List S:=[.asg 2 (.cst (.int 0)),.forr false [3] .plain [.var 0] [.ife (.cmp (.call (.cst (.fn 88)) [.var 3]) .ge (.var 1)) [.ret (.cst (.none))] [],.asg 2 (.bin .add (.bin .mul (.var 2) (.var 1)) (.call (.cst (.fn 88)) [.var 3]))],.ret (.ife (.cmp (.var 0) .eq (.cst (.bytes []))) (.cst (.none)) (.var 2))]
noncomputable def jv:Fn:=⟨2,[some "figures",some "base",some "found",some "figure"],[],lE⟩
noncomputable def uA:List S:=[.asg 1 (.call (.cst (.fn 90)) [.slice (.var 0) [] [.meth (.var 0) 4 [.cst (.bytes [35])]],.cst (.int 10)]),.ife (.bool false [.cmp (.var 1) .is (.cst (.none)),.cmp (.meth (.var 0) 4 [.cst (.bytes [35])]) .gt (.cst (.int 2)),.not (.cmp2 (.cst (.int 2)) .le (.var 1) .le (.cst (.int 36)))]) [.ret (.cst (.none))] [],.asg 2 (.call (.cst (.fn 90)) [.slice (.var 0) [.bin .add (.meth (.var 0) 4 [.cst (.bytes [35])]) (.cst (.int 1))] [],.var 1]),.ife (.bool true [.cmp (.var 2) .isNot (.cst (.none)),.cmp (.var 2) .ge (.bin .pow (.cst (.int 2)) (.cst (.int 32)))]) [.ret (.cst (.bytes [108,105,109,105,116,99,104,101,99,107]))] [],.ret (.ife (.cmp (.var 2) .is (.cst (.none))) (.cst (.none)) (.tup [.cst (.str 9),.ife (.cmp (.var 2) .ge (.bin .pow (.cst (.int 2)) (.cst (.int 31)))) (.bin .sub (.var 2) (.bin .pow (.cst (.int 2)) (.cst (.int 32)))) (.var 2)]))]
noncomputable def jA:Fn:=⟨1,[some "word",some "base",some "number"],[],uA⟩
noncomputable def bB:List S:=[.ife (.cmp (.cst (.bytes [35])) .isin (.var 0)) [.ret (.call (.cst (.fn 91)) [.var 0])] [],.asg 1 (.ife (.cmp (.slice (.var 0) [] [.cst (.int 1)]) .eq (.cst (.bytes [45]))) (.neg (.cst (.int 1))) (.cst (.int 1))),.asg 2 (.ife (.cmp (.slice (.var 0) [] [.cst (.int 1)]) .isin (.tup [.cst (.bytes [45]),.cst (.bytes [43])])) (.slice (.var 0) [.cst (.int 1)] []) (.var 0)),.asg 3 (.call (.cst (.fn 90)) [.var 2,.cst (.int 10)]),.ife (.bool true [.cmp (.var 3) .isNot (.cst (.none)),.cmp2 (.neg (.bin .pow (.cst (.int 2)) (.cst (.int 31)))) .le (.bin .mul (.var 1) (.var 3)) .lt (.bin .pow (.cst (.int 2)) (.cst (.int 31)))]) [.ret (.tup [.cst (.str 9),.bin .mul (.var 1) (.var 3)])] [],.asg 4 (.comp (.var 11) true [11,12] .enum [.var 2] [.cmp (.var 12) .isin (.cst (.bytes [101,69]))]),.asgT [5,6] (.tup [.var 2,.cst (.int 0)]),.ife (.cmp (.var 4) .ne (.list [])) [.asgT [5,7] (.tup [.slice (.var 2) [] [.sub (.var 4) (.cst (.int 0))],.slice (.var 2) [.bin .add (.sub (.var 4) (.cst (.int 0))) (.cst (.int 1))] []]),.asg 6 (.call (.cst (.fn 90)) [.ife (.cmp (.slice (.var 7) [] [.cst (.int 1)]) .isin (.tup [.cst (.bytes [45]),.cst (.bytes [43])])) (.slice (.var 7) [.cst (.int 1)] []) (.var 7),.cst (.int 10)]),.ife (.cmp (.var 6) .is (.cst (.none))) [.ret (.cst (.none))] [],.asg 6 (.bin .mul (.call (.cst (.blt .min)) [.var 6,.cst (.int 2000)]) (.ife (.cmp (.slice (.var 7) [] [.cst (.int 1)]) .eq (.cst (.bytes [45]))) (.neg (.cst (.int 1))) (.cst (.int 1))))] [],.asg 8 (.meth (.var 5) 5 [.cst (.bytes [46])]),.ife (.bool false [.bool true [.cmp (.var 4) .eq (.list []),.cmp (.var 3) .is (.cst (.none)),.cmp (.call (.cst (.blt .len)) [.var 8]) .eq (.cst (.int 1))],.cmp (.call (.cst (.blt .len)) [.var 8]) .gt (.cst (.int 2))]) [.ret (.cst (.none))] [],.asg 3 (.call (.cst (.fn 90)) [.meth (.cst (.bytes [])) 6 [.var 8],.cst (.int 10)]),.ife (.cmp (.var 3) .is (.cst (.none))) [.ret (.cst (.none))] [],.asg 9 (.bin .sub (.bin .add (.var 6) (.cst (.int 6))) (.ife (.cmp (.call (.cst (.blt .len)) [.var 8]) .eq (.cst (.int 2))) (.call (.cst (.blt .len)) [.sub (.var 8) (.cst (.int 1))]) (.cst (.int 0)))),.ife (.cmp (.var 9) .ge (.cst (.int 0))) [.asg 10 (.bin .mul (.var 3) (.bin .pow (.cst (.int 10)) (.var 9)))] [.asg 10 (.bin .fdiv (.bin .add (.bin .mul (.cst (.int 2)) (.var 3)) (.bin .pow (.cst (.int 10)) (.neg (.var 9)))) (.bin .mul (.cst (.int 2)) (.bin .pow (.cst (.int 10)) (.neg (.var 9)))))],.ret (.ife (.cmp (.var 10) .gt (.bin .pow (.cst (.int 10)) (.cst (.int 21)))) (.cst (.bytes [108,105,109,105,116,99,104,101,99,107])) (.tup [.cst (.str 10),.bin .mul (.var 1) (.var 10)]))]
noncomputable def iG:Fn:=⟨1,[some "word",some "sign",some "plain",some "number",some "places",some "figures",some "lifted",some "further",some "parts",some "tens",some "found",none,none],[],bB⟩
noncomputable def vn:List S:=[.asg 2 (.cst (.bytes [0,9,10,12,13,32,4,40,41,60,62,91,93,123,125,47,37])),.asg 3 (.var 1),.whl (.bool true [.cmp (.var 3) .lt (.call (.cst (.blt .len)) [.var 0]),.cmp (.sub (.var 0) (.var 3)) .notIn (.var 2)]) [.asg 3 (.bin .add (.var 3) (.cst (.int 1)))],.asg 4 (.slice (.var 0) [.var 1] [.var 3]),.ife (.cmp (.slice (.var 0) [.var 3] [.bin .add (.var 3) (.cst (.int 2))]) .eq (.cst (.bytes [13,10]))) [.asg 3 (.bin .add (.var 3) (.cst (.int 2)))] [.ife (.bool true [.cmp (.var 3) .lt (.call (.cst (.blt .len)) [.var 0]),.cmp (.sub (.var 0) (.var 3)) .isin (.call (.cst (.fn 86)) [])]) [.asg 3 (.bin .add (.var 3) (.cst (.int 1)))] []],.ret (.tup [.var 4,.var 3])]
noncomputable def lG:Fn:=⟨2,[some "octets",some "at",some "_law_ends",some "end",some "word"],[],vn⟩
noncomputable def fC:List S:=[.asg 2 (.dict [.int 110,.int 114,.int 116,.int 98,.int 102] [.cst (.int 10),.cst (.int 13),.cst (.int 9),.cst (.int 8),.cst (.int 12)]),.asgT [3,4] (.tup [.list [],.cst (.int 1)]),.whl (.cmp (.var 1) .lt (.call (.cst (.blt .len)) [.var 0])) [.asgT [5,1,6] (.tup [.sub (.var 0) (.var 1),.bin .add (.var 1) (.cst (.int 1)),.cst (.int 0)]),.ife (.cmp (.var 5) .eq (.cst (.int 92))) [.whl (.bool true [.cmp (.var 6) .lt (.cst (.int 3)),.cmp2 (.cst (.int 48)) .le (.sub (.bin .add (.slice (.var 0) [.bin .add (.var 1) (.var 6)] [.bin .add (.bin .add (.var 1) (.var 6)) (.cst (.int 1))]) (.cst (.bytes [120]))) (.cst (.int 0))) .le (.cst (.int 55))]) [.asg 6 (.bin .add (.var 6) (.cst (.int 1)))],.ife (.cmp (.var 6) .gt (.cst (.int 0))) [.expr (.meth (.var 3) 1 [.bin .mod (.call (.cst (.blt .sum)) [.comp (.bin .mul (.bin .sub (.sub (.var 0) (.bin .add (.var 1) (.var 7))) (.cst (.int 48))) (.bin .pow (.cst (.int 8)) (.bin .sub (.bin .sub (.var 6) (.cst (.int 1))) (.var 7)))) false [7] .rng [.var 6] []]) (.cst (.int 256))])] [.ife (.cmp (.slice (.var 0) [.var 1] [.bin .add (.var 1) (.cst (.int 2))]) .eq (.cst (.bytes [13,10]))) [.asg 6 (.cst (.int 2))] [.ife (.cmp (.var 1) .lt (.call (.cst (.blt .len)) [.var 0])) [.asg 6 (.cst (.int 1)),.expr (.meth (.var 3) 2 [.ife (.cmp (.sub (.var 0) (.var 1)) .isin (.cst (.bytes [13,10]))) (.list []) (.list [.meth (.var 2) 7 [.sub (.var 0) (.var 1),.sub (.var 0) (.var 1)]])])] []]],.asg 1 (.bin .add (.var 1) (.var 6))] [.ife (.bool true [.cmp (.var 5) .eq (.cst (.int 41)),.cmp (.var 4) .eq (.cst (.int 1))]) [.ret (.tup [.tup [.cst (.str 25),.call (.cst (.blt .bytes)) [.var 3]],.var 1])] [.ife (.cmp (.var 5) .eq (.cst (.int 13))) [.expr (.meth (.var 3) 1 [.cst (.int 10)]),.asg 1 (.bin .add (.var 1) (.call (.cst (.blt .int)) [.cmp (.slice (.var 0) [.var 1] [.bin .add (.var 1) (.cst (.int 1))]) .eq (.cst (.bytes [10]))]))] [.asg 4 (.bin .add (.var 4) (.meth (.dict [.int 40,.int 41] [.cst (.int 1),.neg (.cst (.int 1))]) 7 [.var 5,.cst (.int 0)])),.expr (.meth (.var 3) 1 [.var 5])]]]],.ret (.tup [.call (.cst (.fn 87)) [],.var 1])]
noncomputable def lv:Fn:=⟨2,[some "octets",some "at",some "_law_meant",some "found",some "depth",some "octet",some "many",none],[],fC⟩
noncomputable def yC:List S:=[.asg 2 (.slice (.var 0) [.var 1] []),.ife (.cmp (.cst (.bytes [62])) .notIn (.var 2)) [.ret (.tup [.call (.cst (.fn 87)) [],.var 1])] [],.asg 3 (.comp (.call (.cst (.fn 88)) [.var 5]) false [5] .plain [.slice (.var 2) [] [.meth (.var 2) 4 [.cst (.bytes [62])]]] [.cmp (.var 5) .notIn (.call (.cst (.fn 85)) [])]),.ife (.cmp (.call (.cst (.blt .max)) [.bin .add (.var 3) (.list [.cst (.int 0)])]) .gt (.cst (.int 15))) [.ret (.tup [.call (.cst (.fn 87)) [],.var 1])] [],.asg 3 (.bin .add (.var 3) (.bin .mul (.list [.cst (.int 0)]) (.bin .mod (.call (.cst (.blt .len)) [.var 3]) (.cst (.int 2))))),.asg 4 (.call (.cst (.blt .bytes)) [.comp (.bin .add (.bin .mul (.cst (.int 16)) (.sub (.var 3) (.var 6))) (.sub (.var 3) (.bin .add (.var 6) (.cst (.int 1))))) false [6] .rng [.cst (.int 0),.call (.cst (.blt .len)) [.var 3],.cst (.int 2)] []]),.ret (.tup [.tup [.cst (.str 25),.var 4],.bin .add (.bin .add (.var 1) (.meth (.var 2) 4 [.cst (.bytes [62])])) (.cst (.int 1))])]
noncomputable def mK:Fn:=⟨2,[some "octets",some "at",some "rest",some "digits",some "told",none,none],[],yC⟩
noncomputable def fc:List S:=[.asg 2 (.slice (.var 0) [.var 1] []),.ife (.bool false [.cmp (.cst (.bytes [126])) .notIn (.var 2),.cmp (.slice (.slice (.var 2) [.meth (.var 2) 4 [.cst (.bytes [126])]] []) [] [.cst (.int 2)]) .ne (.cst (.bytes [126,62]))]) [.ret (.tup [.call (.cst (.fn 87)) [],.var 1])] [],.asg 3 (.list [.list []]),.forr false [4] .plain [.comp (.var 8) false [8] .plain [.slice (.var 2) [] [.meth (.var 2) 4 [.cst (.bytes [126])]]] [.cmp (.var 8) .notIn (.call (.cst (.fn 85)) [])]] [.ife (.bool true [.cmp (.var 4) .eq (.cst (.int 122)),.cmp (.sub (.var 3) (.neg (.cst (.int 1)))) .eq (.list [])]) [.asg 3 (.bin .add (.init (.var 3)) (.list [.list [.cst (.int 0),.cst (.int 0),.cst (.int 0),.cst (.int 0),.cst (.int 0)],.list []]))] [.expr (.meth (.sub (.var 3) (.neg (.cst (.int 1)))) 1 [.bin .sub (.var 4) (.cst (.int 33))]),.ife (.cmp (.call (.cst (.blt .len)) [.sub (.var 3) (.neg (.cst (.int 1)))]) .eq (.cst (.int 5))) [.expr (.meth (.var 3) 1 [.list []])] []]],.asg 5 (.list []),.forr false [6] .plain [.var 3] [.asg 7 (.call (.cst (.blt .sum)) [.comp (.bin .mul (.var 10) (.bin .pow (.cst (.int 85)) (.bin .sub (.cst (.int 4)) (.var 9)))) true [9,10] .enum [.bin .add (.var 6) (.bin .mul (.list [.cst (.int 84)]) (.bin .sub (.cst (.int 5)) (.call (.cst (.blt .len)) [.var 6])))] []]),.ife (.bool false [.cmp (.call (.cst (.blt .len)) [.var 6]) .eq (.cst (.int 1)),.bool true [.cmp (.var 6) .ne (.list []),.bool false [.cmp (.call (.cst (.blt .min)) [.var 6]) .lt (.cst (.int 0)),.cmp (.call (.cst (.blt .max)) [.var 6]) .gt (.cst (.int 84)),.cmp (.var 7) .ge (.bin .pow (.cst (.int 2)) (.cst (.int 32)))]]]) [.ret (.tup [.call (.cst (.fn 87)) [],.var 1])] [],.expr (.meth (.var 5) 2 [.comp (.bin .mod (.bin .fdiv (.var 7) (.bin .pow (.cst (.int 256)) (.bin .sub (.cst (.int 3)) (.var 11)))) (.cst (.int 256))) false [11] .rng [.call (.cst (.blt .max)) [.cst (.int 0),.bin .sub (.call (.cst (.blt .len)) [.var 6]) (.cst (.int 1))]] []])],.ret (.tup [.tup [.cst (.str 25),.call (.cst (.blt .bytes)) [.var 5]],.bin .add (.bin .add (.var 1) (.meth (.var 2) 4 [.cst (.bytes [126])])) (.cst (.int 2))])]
noncomputable def qB:Fn:=⟨2,[some "octets",some "at",some "rest",some "lots",some "sign",some "found",some "lot",some "number",none,none,none,none],[],fc⟩
noncomputable def sq:List S:=[.asgT [2,3] (.tup [.slice (.var 0) [.var 1] [.bin .add (.var 1) (.cst (.int 1))],.slice (.var 0) [.var 1] [.bin .add (.var 1) (.cst (.int 2))]]),.ife (.cmp (.var 2) .eq (.cst (.bytes [47]))) [.asgT [4,5] (.call (.cst (.fn 93)) [.var 0,.bin .add (.var 1) (.ife (.cmp (.var 3) .eq (.cst (.bytes [47,47]))) (.cst (.int 2)) (.cst (.int 1)))]),.ife (.cmp (.call (.cst (.blt .len)) [.var 4]) .gt (.cst (.int 127))) [.ret (.tup [.cst (.bytes [108,105,109,105,116,99,104,101,99,107]),.var 5])] [],.ife (.cmp (.var 3) .ne (.cst (.bytes [47,47]))) [.ret (.tup [.tup [.cst (.str 23),.var 4],.var 5])] [],.ret (.tup [.ife (.cmp (.var 4) .eq (.cst (.bytes [97]))) (.tup [.cst (.str 9),.cst (.int 5)]) (.cst (.bytes [117,110,100,101,102,105,110,101,100])),.var 5])] [],.ife (.cmp (.var 2) .eq (.cst (.bytes [40]))) [.ret (.call (.cst (.fn 94)) [.var 0,.bin .add (.var 1) (.cst (.int 1))])] [],.ife (.cmp (.var 3) .isin (.tup [.cst (.bytes [60,60]),.cst (.bytes [62,62])])) [.ret (.tup [.tup [.cst (.str 72),.var 3],.bin .add (.var 1) (.cst (.int 2))])] [],.ife (.cmp (.var 2) .eq (.cst (.bytes [60]))) [.ret (.ife (.cmp (.var 3) .eq (.cst (.bytes [60,126]))) (.call (.cst (.fn 96)) [.var 0,.bin .add (.var 1) (.cst (.int 2))]) (.call (.cst (.fn 95)) [.var 0,.bin .add (.var 1) (.cst (.int 1))]))] [],.ife (.cmp (.var 2) .isin (.tup [.cst (.bytes [91]),.cst (.bytes [93])])) [.ret (.tup [.tup [.cst (.str 72),.var 2],.bin .add (.var 1) (.cst (.int 1))])] [],.ife (.cmp (.var 2) .isin (.tup [.cst (.bytes [41]),.cst (.bytes [62])])) [.ret (.tup [.call (.cst (.fn 87)) [],.var 1])] [],.asgT [4,5] (.call (.cst (.fn 93)) [.var 0,.var 1]),.asg 6 (.call (.cst (.fn 92)) [.var 4]),.ife (.cmp (.var 6) .is (.cst (.none))) [.asg 6 (.ife (.cmp (.call (.cst (.blt .len)) [.var 4]) .gt (.cst (.int 127))) (.cst (.bytes [108,105,109,105,116,99,104,101,99,107])) (.tup [.cst (.str 72),.var 4]))] [],.ret (.tup [.var 6,.var 5])]
noncomputable def i7:Fn:=⟨2,[some "octets",some "at",some "sign",some "two",some "word",some "end",some "number"],[],sq⟩
noncomputable def r9:List S:=[.whl (.bool true [.cmp (.var 1) .lt (.call (.cst (.blt .len)) [.var 0]),.bool false [.cmp (.sub (.var 0) (.var 1)) .isin (.call (.cst (.fn 86)) []),.cmp (.sub (.var 0) (.var 1)) .eq (.cst (.int 37))]]) [.asg 2 (.cmp (.sub (.var 0) (.var 1)) .eq (.cst (.int 37))),.asg 1 (.bin .add (.var 1) (.cst (.int 1))),.whl (.bool true [.var 2,.cmp (.var 1) .lt (.call (.cst (.blt .len)) [.var 0]),.cmp (.sub (.var 0) (.var 1)) .notIn (.cst (.bytes [10,13,12]))]) [.asg 1 (.bin .add (.var 1) (.cst (.int 1)))]],.ret (.var 1)]
noncomputable def jQ:Fn:=⟨2,[some "octets",some "at",some "is_remark"],[],r9⟩
noncomputable def rI:List S:=[.asgT [2,3,4] (.tup [.list [],.list [],.call (.cst (.fn 98)) [.var 0,.cst (.int 0)]]),.whl (.cmp (.var 4) .lt (.call (.cst (.blt .len)) [.var 0])) [.ife (.cmp (.slice (.var 0) [.var 4] [.bin .add (.var 4) (.cst (.int 1))]) .eq (.cst (.bytes [123]))) [.expr (.meth (.var 3) 1 [.list []]),.asg 4 (.call (.cst (.fn 98)) [.var 0,.bin .add (.var 4) (.cst (.int 1))]),.cont] [],.ife (.cmp (.slice (.var 0) [.var 4] [.bin .add (.var 4) (.cst (.int 1))]) .eq (.cst (.bytes [125]))) [.ife (.cmp (.var 3) .eq (.list [])) [.ret (.bin .add (.var 2) (.list [.tup [.call (.cst (.fn 87)) [],.var 4]]))] [],.asgT [5,4] (.tup [.tup [.ife (.var 1) (.cst (.str 27)) (.cst (.str 26)),.call (.cst (.blt .tuple)) [.meth (.var 3) 3 []]],.bin .add (.var 4) (.cst (.int 1))])] [.asgT [5,4] (.call (.cst (.fn 97)) [.var 0,.var 4])],.ife (.call (.cst (.blt .isinst)) [.var 5,.cst (.blt .bytes)]) [.ret (.bin .add (.var 2) (.list [.tup [.var 5,.var 4]]))] [],.ife (.cmp (.var 3) .eq (.list [])) [.expr (.meth (.var 2) 1 [.tup [.var 5,.var 4]])] [.expr (.meth (.sub (.var 3) (.neg (.cst (.int 1)))) 1 [.var 5])],.asg 4 (.call (.cst (.fn 98)) [.var 0,.var 4])],.ret (.bin .add (.var 2) (.list [.tup [.ife (.cmp (.var 3) .eq (.list [])) (.cst (.none)) (.call (.cst (.fn 87)) []),.var 4]]))]
noncomputable def iC:Fn:=⟨2,[some "octets",some "is_packed",some "found",some "opened",some "at",some "told"],[],rI⟩
noncomputable def uY:List S:=[.ife (.cmp (.attr (.var 0) 11) .eq (.cst (.str 23))) [.ret (.tup [.ife (.attr (.var 0) 13) (.cst (.str 72)) (.cst (.str 23)),.attr (.var 0) 12])] [],.ife (.cmp (.attr (.var 0) 11) .isin (.tup [.cst (.str 26),.cst (.str 27)])) [.asg 1 (.bool true [.attr (.var 0) 13,.cmp (.attr (.var 0) 14) .eq (.ife (.cmp (.attr (.var 0) 11) .eq (.cst (.str 26))) (.cst (.int 3)) (.cst (.int 2)))]),.ret (.tup [.ife (.var 1) (.attr (.var 0) 11) (.cst (.str 73)),.call (.cst (.blt .tuple)) [.comp (.call (.cst (.fn 100)) [.var 2]) false [2] .plain [.call (.cst (.fn 40)) [.attr (.var 0) 12]] []]])] [],.ife (.bool false [.attr (.var 0) 13,.cmp (.attr (.var 0) 14) .ne (.cst (.int 3))]) [.ret (.tup [.cst (.str 73),.attr (.var 0) 11])] [],.ret (.tup [.attr (.var 0) 11,.ife (.cmp (.attr (.var 0) 11) .eq (.cst (.str 25))) (.call (.cst (.fn 39)) [.attr (.var 0) 12]) (.attr (.var 0) 12)])]
noncomputable def cw:Fn:=⟨1,[some "thing",some "is_right",none],[],uY⟩
noncomputable def rN:List S:=[.ret (.ife (.cmp (.var 0) .eq (.cst (.bytes [97]))) (.call (.cst (.fn 26)) [.cst (.int 5)]) (.cst (.none)))]
noncomputable def iH:Fn:=⟨1,[some "octets"],[],rN⟩
noncomputable def Aq:List S:=[.asg 1 (.tup [.cst (.bytes [32]),.cst (.bytes [10]),.cst (.bytes [13]),.cst (.bytes [0]),.cst (.bytes [4]),.cst (.bytes [12]),.cst (.bytes [9]),.cst (.bytes [48]),.cst (.bytes [49]),.cst (.bytes [55]),.cst (.bytes [56]),.cst (.bytes [45]),.cst (.bytes [43]),.cst (.bytes [46]),.cst (.bytes [101]),.cst (.bytes [69]),.cst (.bytes [35]),.cst (.bytes [49,54,35,102]),.cst (.bytes [50,49,52,55,52,56,51,54,52,56]),.cst (.bytes [97]),.cst (.bytes [70]),.cst (.bytes [122]),.cst (.bytes [110]),.cst (.bytes [113,255]),.cst (.bytes [47]),.cst (.bytes [47,47,97]),.cst (.bytes [47,47,113]),.cst (.bytes [40]),.cst (.bytes [41]),.cst (.bytes [92]),.cst (.bytes [60]),.cst (.bytes [62]),.cst (.bytes [91]),.cst (.bytes [93]),.cst (.bytes [123]),.cst (.bytes [125]),.cst (.bytes [37]),.cst (.bytes [126]),.cst (.bytes [33]),.cst (.bytes [60,126]),.cst (.bytes [126,62]),.cst (.bytes [60,60]),.cst (.bytes [62,62]),.cst (.bytes [40,97,40,98,41,92]),.cst (.bytes [92,48,53,51]),.cst (.bytes [92,13,10]),.cst (.bytes [13,10]),.cst (.bytes [60,52,32,49,102,62]),.cst (.bytes [60,126,56,55,99,85,126,62]),.cst (.bytes [123,49,32]),.cst (.bytes [47,98,32]),.cst (.bytes [123,125]),.cst (.bytes [40,120,41]),.cst (.bytes [49,46,53]),.cst (.bytes [45,46,53,101,45,55])]),.asg 2 (.dict [.str 71,.str 30] [.comp (.call (.cst (.blt .int)) [.var 13]) false [13] .plain [.slice (.var 0) [] [.cst (.int 63)]] [],.cst (.int 0)]),.asg 3 (.cmp (.call (.cst (.fn 89)) [.var 2,.cst (.int 2)]) .eq (.cst (.int 1))),.asg 4 (.meth (.cst (.bytes [])) 6 [.comp (.sub (.var 1) (.call (.cst (.fn 89)) [.var 2,.cst (.int 55)])) false [14] .rng [.bin .add (.cst (.int 1)) (.call (.cst (.fn 89)) [.var 2,.cst (.int 30)])] []]),.asgT [5,6,7] (.tup [.call (.cst (.cls 6)) [.call (.cst (.cls 8)) [.call (.cst (.cls 7)) []]],.call (.cst (.cls 5)) [.var 4],.list []]),.forr true [8,9] .plain [.call (.cst (.fn 99)) [.var 4,.var 3]] [.tryx 10 (.meth (.var 5) 74 [.var 6,.var 3,.cst (.fn 101)]) 11 8,.ife (.bool false [.cmp (.var 10) .is (.cst (.none)),.cmp (.var 8) .is (.cst (.none))]) [.ife (.bool false [.cmp (.var 10) .isNot (.cst (.none)),.cmp (.var 8) .isNot (.cst (.none)),.cmp (.attr (.var 6) 75) .ne (.var 9)]) [.ret (.cst (.bool false))] [],.brk] [],.ife (.bool false [.cmp (.call (.cst (.fn 100)) [.var 10]) .ne (.var 8),.cmp (.attr (.var 6) 75) .ne (.var 9)]) [.ret (.cst (.bool false))] [],.expr (.meth (.var 7) 1 [.var 10])],.asg 12 (.call (.cst (.fn 99)) [.meth (.cst (.bytes [32])) 6 [.comp (.call (.cst (.fn 84)) [.var 15]) false [15] .plain [.var 7] []],.var 3]),.ret (.cmp (.comp (.var 16) true [16,17] .plain [.var 12] []) .eq (.bin .add (.comp (.call (.cst (.fn 100)) [.var 18]) false [18] .plain [.var 7] []) (.list [.cst (.none)])))]
noncomputable def z0:Fn:=⟨1,[some "script",some "_law_pieces",some "deck",some "is_packed",some "octets",some "scanner",some "source",some "things",some "due",some "place",some "thing",some "refused",some "again",none,none,none,none,none,none],[],Aq⟩
noncomputable def HO:List Fn:=[lJ,fV,gI,lh,jN,g8,eB,mJ,dR,f5,nI,f9,fh,cE,iz,gp,fv,fu,lq,jC,gM,cY,cG,iE,jh,iI,oo,wO,xE,CH,j5,qo,jj,jR,gY,uX,ud,jK,lD,eh,eH,dc,du,dC,dD,lm,eu,j6,iJ,jd,jG,iA,gz,gX,lH,iF,gS,j1,f3,f0,ft,eA,di,gh,dQ,dP,d9,eU,fb,fY,d0,dU,cx,cL,ct,bU,cM,df,gg,f6,nK,dM,dZ,j9,bZ,ka,i9,oL,iw,lA,jv,jA,iG,lG,lv,mK,qB,i7,jQ,iC,cw,iH,z0]
noncomputable def Iv:List Nat:=[61,68,75,82,89,96,103,110,117,124,131,138,143,150,157,164,171,178,185,192,199,206,221,242,263,284,298,305,313,320,328,336,344,351,358,365,372,379,386,393,400,415,422,430,437,451,458,465,472,479,486,493,500,507,514,521,528,535,542,549,563,570,577,584,591,598,605,612,620,658,679,686,694,701,708,722,729,750,758,763,770,784,791,803,811,818,825,832,839,846,853,860,865,872,877,882,887,894,901,908,913,920,925,628,36]
noncomputable def Ih:List Nat:=[52,224,245,266,287,440,639,661,739,794]
noncomputable def DM:List Str:=(["told", "append", "extend", "pop", "index", "split", "join", "get", "bit_length", "integer", "real", "kind", "value", "is_exec", "access", "number", "octets", "is_global", "level", "things", "body", "start", "many", "name", "null", "string", "array", "packed", "dict", "gstate", "at", "is_told", "next", "back", "memory", "text_of_octets", "make_row", "limits", "text", "word", "slashed", "pointed", "closed", "procedure", "plain", "operands", "dicts", "frames", "saves", "gstates", "row", "entries", "path", "dash", "files", "system", "vm", "journal", "made", "freed", "used", "used_global", "last_body", "last_save", "check_room", "body_level", "take_room", "left", "takes", "boolean", "operator", "cells", "run", "odd", "token", "place"]:List String).map Str.ofString
noncomputable abbrev bF:Nat:=9
noncomputable abbrev dB:Nat:=10
noncomputable abbrev oq:Nat:=11
noncomputable abbrev my:Nat:=12
noncomputable abbrev kP:Nat:=13
noncomputable abbrev tf:Nat:=14
noncomputable abbrev ch:Nat:=15
noncomputable abbrev gO:Nat:=16
noncomputable abbrev db:Nat:=17
noncomputable abbrev wH:Nat:=18
noncomputable abbrev nJ:Nat:=19
noncomputable abbrev vm:Nat:=20
noncomputable abbrev xb:Nat:=21
noncomputable abbrev Fd:Nat:=22
noncomputable abbrev fK:Nat:=23
noncomputable abbrev cJ:Nat:=25
noncomputable abbrev eC:Nat:=26
noncomputable abbrev da:Nat:=27
noncomputable abbrev x8:Nat:=30
noncomputable abbrev qz:Nat:=31
noncomputable abbrev to:Nat:=34
noncomputable abbrev Bg:Nat:=37
noncomputable abbrev EJ:Nat:=38
noncomputable abbrev ER:Nat:=39
noncomputable abbrev vK:Nat:=45
noncomputable abbrev BM:Nat:=46
noncomputable abbrev AA:Nat:=47
noncomputable abbrev xi:Nat:=48
noncomputable abbrev y0:Nat:=49
noncomputable abbrev FQ:Nat:=50
noncomputable abbrev xV:Nat:=51
noncomputable abbrev EK:Nat:=52
noncomputable abbrev Fv:Nat:=53
noncomputable abbrev C2:Nat:=54
noncomputable abbrev Be:Nat:=55
noncomputable abbrev HA:Nat:=56
noncomputable abbrev yR:Nat:=57
noncomputable abbrev FE:Nat:=58
noncomputable abbrev C8:Nat:=59
noncomputable abbrev FJ:Nat:=60
noncomputable abbrev oR:Nat:=61
noncomputable abbrev tB:Nat:=62
noncomputable abbrev t0:Nat:=63
noncomputable abbrev A5:Nat:=67
noncomputable abbrev mj:Nat:=71
noncomputable abbrev DT:Nat:=72
noncomputable def Fn.defs(F:Fn)(k:Nat):List V:=match F.dv with
 | []=>[]
 | v :: vs=>(v :: vs).drop ((v :: vs).length - (F.np - k))
noncomputable def se:List (Option Str)→List V→au
 | [],_=>[]
 | _ :: r,[]=>none :: se r []
 | _ :: r,v :: vs=>some v :: se r vs
noncomputable def Fn.env(F:Fn)(vs:List V):au:=se F.nm vs
noncomputable def eO(Q:ag):aF:=fun fl _ σ=>match fl with
 | .ret v=>Q v σ
 | .next=>Q .none σ
 | _=>False
structure zy(c:aw)(f:Nat)(vs:List V)(σ:List O)(Q:ag)(X:ak):Prop where
 go:c f vs σ Q X
noncomputable def DD:Nat→aw
 | 0,_,_,_,_,_=>False
 | d+1,f,vs,σ,Q,X=>∃ F,HO[f]? = some F∧vs.length≤F.np∧F.np≤vs.length+F.dv.length∧(f=zO→d=100) ∧
  vcSs (zy (DD d)) F.body (F.env (vs++F.defs vs.length)) σ (eO Q) X
noncomputable abbrev Call(d:Nat):aw:=zy (DD d)
namespace F
theorem bv:Manifest.owners.lookup (String.ofList ['y', 'a', 'r', 'r', 'a', 'e', 't', 'y', 'b'].reverse)=some Manifest.sig_bytearray:=by kernel_rfl
theorem gB:Manifest.owners.lookup (String.ofList ['s', 'e', 't', 'y', 'b'].reverse)=some Manifest.sig_bytes:=by kernel_rfl
theorem slot_bytearray_append:Slot "bytearray" "append" "bytearray.append" :=
 .of (owner := "bytearray") (n := "append") (by rw [typeLookup_type,builtinLookup_eq_fast];kernel_rfl) (by decide +kernel) (by decide +kernel) (by decide +kernel)
  (by first | exact .inl (by decide +kernel) | exact .inr (by decide +kernel)) (by rw [isSubtype_type];kernel_rfl)
theorem entry_bytearray_append:entryFor table "bytearray.append" = some Builtin.«bytearray.append»:=entryFor_of_tree (by kernel_rfl)
theorem args_bytearray_append_2(a b:Value):argsOk "bytearray.append" ⟨[a,b],[]⟩:=by
 unfold argsOk;rw [signature?_of (id := "bytearray.append") (n:=['d', 'n', 'e', 'p', 'p', 'a']) (o:=['y', 'a', 'r', 'r', 'a', 'e', 't', 'y', 'b']) (by kernel_rfl) bv];kernel_rfl
theorem slot_bytearray_extend:Slot "bytearray" "extend" "bytearray.extend" :=
 .of (owner := "bytearray") (n := "extend") (by rw [typeLookup_type,builtinLookup_eq_fast];kernel_rfl) (by decide +kernel) (by decide +kernel) (by decide +kernel)
  (by first | exact .inl (by decide +kernel) | exact .inr (by decide +kernel)) (by rw [isSubtype_type];kernel_rfl)
theorem entry_bytearray_extend:entryFor table "bytearray.extend" = some Builtin.«bytearray.extend»:=entryFor_of_tree (by kernel_rfl)
theorem args_bytearray_extend_2(a b:Value):argsOk "bytearray.extend" ⟨[a,b],[]⟩:=by
 unfold argsOk;rw [signature?_of (id := "bytearray.extend") (n:=['d', 'n', 'e', 't', 'x', 'e']) (o:=['y', 'a', 'r', 'r', 'a', 'e', 't', 'y', 'b']) (by kernel_rfl) bv];kernel_rfl
theorem slot_bytearray_len:Slot "bytearray" "__len__" "bytearray.__len__" :=
 .of (owner := "bytearray") (n := "__len__") (by rw [typeLookup_type,builtinLookup_eq_fast];kernel_rfl) (by decide +kernel) (by decide +kernel) (by decide +kernel)
  (by first | exact .inl (by decide +kernel) | exact .inr (by decide +kernel)) (by rw [isSubtype_type];kernel_rfl)
theorem entry_bytearray_len:entryFor table "bytearray.__len__" = some Builtin.«bytearray.__len__»:=entryFor_of_tree (by kernel_rfl)
theorem args_bytearray_len_1(a:Value):argsOk "bytearray.__len__" ⟨[a],[]⟩:=by
 unfold argsOk;rw [signature?_of (id := "bytearray.__len__") (n:=['_', '_', 'n', 'e', 'l', '_', '_']) (o:=['y', 'a', 'r', 'r', 'a', 'e', 't', 'y', 'b']) (by kernel_rfl) bv];kernel_rfl
theorem slot_bytearray_getitem:Slot "bytearray" "__getitem__" "bytearray.__getitem__" :=
 .of (owner := "bytearray") (n := "__getitem__") (by rw [typeLookup_type,builtinLookup_eq_fast];kernel_rfl) (by decide +kernel) (by decide +kernel) (by decide +kernel)
  (by first | exact .inl (by decide +kernel) | exact .inr (by decide +kernel)) (by rw [isSubtype_type];kernel_rfl)
theorem entry_bytearray_getitem:entryFor table "bytearray.__getitem__" = some Builtin.«bytearray.__getitem__»:=entryFor_of_tree (by kernel_rfl)
theorem args_bytearray_getitem_2(a b:Value):argsOk "bytearray.__getitem__" ⟨[a,b],[]⟩:=by
 unfold argsOk;rw [signature?_of (id := "bytearray.__getitem__") (n:=['_', '_', 'm', 'e', 't', 'i', 't', 'e', 'g', '_', '_']) (o:=['y', 'a', 'r', 'r', 'a', 'e', 't', 'y', 'b']) (by kernel_rfl) bv];kernel_rfl
theorem slot_bytearray_init:Slot "bytearray" "__init__" "bytearray.__init__" :=
 .of (owner := "bytearray") (n := "__init__") (by rw [typeLookup_type,builtinLookup_eq_fast];kernel_rfl) (by decide +kernel) (by decide +kernel) (by decide +kernel)
  (by first | exact .inl (by decide +kernel) | exact .inr (by decide +kernel)) (by rw [isSubtype_type];kernel_rfl)
theorem entry_bytearray_init:entryFor table "bytearray.__init__" = some Builtin.«bytearray.__init__»:=entryFor_of_tree (by kernel_rfl)
theorem slot_bytes_index:Slot "bytes" "index" "bytes.index" :=
 .of (owner := "bytes") (n := "index") (by rw [typeLookup_type,builtinLookup_eq_fast];kernel_rfl) (by decide +kernel) (by decide +kernel) (by decide +kernel)
  (by first | exact .inl (by decide +kernel) | exact .inr (by decide +kernel)) (by rw [isSubtype_type];kernel_rfl)
theorem entry_bytes_index:entryFor table "bytes.index" = some Builtin.«bytes.index»:=entryFor_of_tree (by kernel_rfl)
theorem args_bytes_index_2(a b:Value):argsOk "bytes.index" ⟨[a,b],[]⟩:=by
 unfold argsOk;rw [signature?_of (id := "bytes.index") (n:=['x', 'e', 'd', 'n', 'i']) (o:=['s', 'e', 't', 'y', 'b']) (by kernel_rfl) gB];kernel_rfl
theorem slot_bytes_split:Slot "bytes" "split" "bytes.split" :=
 .of (owner := "bytes") (n := "split") (by rw [typeLookup_type,builtinLookup_eq_fast];kernel_rfl) (by decide +kernel) (by decide +kernel) (by decide +kernel)
  (by first | exact .inl (by decide +kernel) | exact .inr (by decide +kernel)) (by rw [isSubtype_type];kernel_rfl)
theorem entry_bytes_split:entryFor table "bytes.split" = some Builtin.«bytes.split»:=entryFor_of_tree (by kernel_rfl)
theorem args_bytes_split_2(a b:Value):argsOk "bytes.split" ⟨[a,b],[]⟩:=by
 unfold argsOk;rw [signature?_of (id := "bytes.split") (n:=['t', 'i', 'l', 'p', 's']) (o:=['s', 'e', 't', 'y', 'b']) (by kernel_rfl) gB];kernel_rfl
theorem slot_bytes_join:Slot "bytes" "join" "bytes.join" :=
 .of (owner := "bytes") (n := "join") (by rw [typeLookup_type,builtinLookup_eq_fast];kernel_rfl) (by decide +kernel) (by decide +kernel) (by decide +kernel)
  (by first | exact .inl (by decide +kernel) | exact .inr (by decide +kernel)) (by rw [isSubtype_type];kernel_rfl)
theorem entry_bytes_join:entryFor table "bytes.join" = some Builtin.«bytes.join»:=entryFor_of_tree (by kernel_rfl)
theorem args_bytes_join_2(a b:Value):argsOk "bytes.join" ⟨[a,b],[]⟩:=by
 unfold argsOk;rw [signature?_of (id := "bytes.join") (n:=['n', 'i', 'o', 'j']) (o:=['s', 'e', 't', 'y', 'b']) (by kernel_rfl) gB];kernel_rfl
end F
end
section
open PySem PySem.Calls PyProof.Rows PySem.W PySem.SeqAt
noncomputable def Op.py:Op→Operator
 | .add=>.Add | .sub=>.Sub | .mul=>.Mult | .fdiv=>.FloorDiv | .mod=>.Mod | .pow=>.Pow | .shr=>.RShift | .band=>.BitAnd
noncomputable def Cp.py:Cp→CmpOp
 | .eq=>.Eq | .ne=>.NotEq | .lt=>.Lt | .le=>.LtE | .gt=>.Gt | .ge=>.GtE | .is=>.Is | .isNot=>.IsNot | .isin=>.In | .notIn=>.NotIn
noncomputable def KQ(R:Rt)(ρ:List Addr)(s:Shared)(Q:ag)(Qr:Value→Shared→Prop):Prop :=
 ∀ v σ' ρ' rv s',bV R ρ [] s σ' ρ' s'→aq R s'.heap ρ' v rv→Q v σ'→Qr rv s'
noncomputable def KO(R:Rt)(ρ:List Addr)(s:Shared)(Q:bn)(Qr:Unit→Shared→Prop):Prop :=
 ∀ σ' s',bV R ρ [] s σ' ρ s'→Q σ'→Qr () s'
noncomputable def KX(R:Rt)(l:List Env)(ρ own:List Addr)(s:Shared)(X:ak)(Er:Value→Shared→Prop):Prop :=
 ∀ told σ' ρ' e s',jo R l ρ own s σ' ρ' e told s'→X told σ'→Er (.ref e) s'
noncomputable def KB(R:Rt)(ρ:List Addr)(s:Shared)(Q:aX)(Qr:Bool→Shared→Prop):Prop :=
 ∀ b σ' ρ' s',bV R ρ [] s σ' ρ' s'→Q b σ'→Qr b s'
section
variable{R:Rt}{l:List Env}{σ σ':List O}{Q Q':ag}{X:ak}{ρ ρ' own:List Addr}{s s':Shared}{Qr Er:Value→Shared→Prop}{h':Heap}{v:V}{x:Value}{a:Addr}{i n m:Nat}{o o':O}
theorem KX.after(k:KX R l ρ own s X Er)(o:bV R ρ own s σ' ρ' s'):KX R l ρ' own s' X Er:=fun _ _ _ _ _ t x=>k _ _ _ _ _ (t.after o) x
theorem KX.thin(k:KX R l ρ own s X Er):KX R l ρ [] s X Er:=fun _ _ _ _ _ t x=>k _ _ _ _ _ t.wide x
theorem KQ.after(k:KQ R ρ s Q Qr)(o:bV R ρ [] s σ' ρ' s'):KQ R ρ' s' Q Qr:=fun _ _ _ _ _ t r x=>k _ _ _ _ _ (o.trans t) r x
theorem KB.after{Q:aX}{Qr:Bool→Shared→Prop}(k:KB R ρ s Q Qr)(o:bV R ρ [] s σ' ρ' s'):KB R ρ' s' Q Qr:=fun _ _ _ _ t x=>k _ _ _ _ (o.trans t) x
theorem KX.none:KX R l ρ own s (fun _ _=>False) Er:=fun _ _ _ _ _ _ x=>x.elim
theorem KQ.here(k:KQ R ρ s Q Qr)(S:St R σ ρ s.heap)(h:Q v σ)(r:aq R s.heap ρ v x):Qr x s:=k _ _ _ _ _ (.refl S) r h
theorem KQ.tk(k:KQ R ρ s Q Qr)(S:St R σ ρ s.heap)(h:Q v σ)(r:aq R s.heap ρ v x):Qr x { s with toks:=n }:=k _ _ _ _ _ (.toks S n) r h
theorem KQ.int(k:KQ R ρ s Q Qr)(S:St R σ ρ s.heap){i n:Int}(e:i=n)(h:Q (.int n) σ){t}:Qr (.int i t) { s with toks:=m }:=k.tk S (e▸h) (.int i t)
theorem KQ.bytes(k:KQ R ρ s Q Qr)(S:St R σ ρ s.heap){i n:ae}(e:i=n)(h:Q (.bytes n) σ){t}:Qr (.bytes i.toArray t) { s with toks:=m }:=k.tk S (e▸h) (.bytes i t)
theorem KQ.keep(k:KQ R ρ s Q Qr)(S:St R σ ρ s.heap)(kp:Keeps s.heap h')(h:Q v σ)(r:aq R h' ρ v x):Qr x { s with heap:=h',toks:=n }:=k _ _ _ _ _ (.keep S kp n) r h
theorem KQ.new(k:KQ R ρ s Q Qr)(S:St R σ ρ s.heap)(kp:Keeps s.heap h')(ho:bR R h' (ρ++[s.heap.objs.size]) s.heap.objs.size o)(h:Q (.ref σ.length) (σ++[o])):Qr (.ref s.heap.objs.size) { s with heap:=h',toks:=n } :=
 k _ _ _ _ _ ⟨S.add kp (Heap.get?_none_of_le (Nat.le_refl _)) ho,.add kp (Heap.get?_none_of_le (Nat.le_refl _)),rfl,rfl,rfl⟩ (.ref (S.len▸List.getElem?_concat_length)) h
theorem KQ.list(k:KQ R ρ s Q Qr)(S:St R σ ρ s.heap){vs ws:List V}{xs:Array Value}(e:vs=ws)(r:VRels R s.heap ρ vs xs.toList)(h:Q (.ref σ.length) (σ++[.list ws])):Qr (.ref s.heap.objs.size) { s with heap:=s.heap.push (bb xs m),toks:=n } :=
 k.new S (Mine.Keeps.push _ _) (.list (Heap.get?_push_size _ rfl) (r.mono (Mine.Keeps.push _ _).tups (dF _))) (e▸h)
theorem KO.upd{Q:bn}{Qr:Unit→Shared→Prop}(k:KO R ρ s Q Qr)(S:St R σ ρ s.heap)(ei:σ[i]? = some o)(ea:ρ[i]? = some a)(hs:Heap.SameBut a s.heap h')(ho:dO s.heap h'→bR R h' ρ a o')(h:Q (σ.set i o')):Qr () { s with heap:=h',toks:=n } :=
 have z:=S.upd (own:=[]) ei ea hs ho
 k _ _ ⟨z.1,z.2,rfl,rfl,rfl⟩ h
theorem KQ.upd(k:KQ R ρ s Q Qr)(S:St R σ ρ s.heap)(ei:σ[i]? = some o)(ea:ρ[i]? = some a)(hs:Heap.SameBut a s.heap h')(ho:dO s.heap h'→bR R h' ρ a o')(r:aq R s.heap ρ v x)(h:Q v (σ.set i o')):Qr x { s with heap:=h',toks:=n } :=
 have z:=S.upd (own:=[]) ei ea hs ho
 k _ _ _ _ _ ⟨z.1,z.2,rfl,rfl,rfl⟩ (z.2.vrel r) h
end
abbrev lM:Nat:=1000000
theorem aU{n:Nat}(h:n≤lM):n≤sizeLine:=Nat.le_trans h (by rw [sizeLine_eq];decide)
theorem sE{xs:Array Value}{vs:List V}{R:Rt}{h:Heap}{ρ:List Addr}(r:VRels R h ρ vs xs.toList)(hl:vs.length≤lM):xs.size≤lM:=Array.length_toList (xs:=xs)▸r.length▸hl
theorem tu{i:Int}(h:oY i):Builtin.Int.intBits i≤2 ^ 20:=by
 unfold Builtin.Int.intBits
 split
 · exact Nat.zero_le _
 · rename_i q
   exact Nat.le_trans ((Nat.log2_lt (fun z=>q (beq_iff_eq.mpr (Int.natAbs_eq_zero.mp z)))).mpr h) (by decide)
theorem mR:∀ (l:List (Array Value)) (a:Array Value),(List.foldl (fun x1 x2=>x1++x2) a l).toList=a.toList++(l.map (·.toList)).flatten
 | [],a=>(List.append_nil _).symm
 | x :: l,a=>by rw [List.foldl_cons,mR l,Array.toList_append,List.append_assoc];rfl
theorem aM{h:Heap}{a:Addr}{xs:Array Value}{n:Nat}(e:h.get? a=some (bb xs n)):h.IsList a xs:=⟨_,e,rfl,n,rfl⟩
theorem E6{i:Int}(h:0≤i):((i.toNat &&& 255:Nat):Int)=i % 256:=by
 rw [show 255=2 ^ 8 - 1 from rfl,Nat.and_two_pow_sub_one_eq_mod];omega
theorem As(k:Nat):0≤(2:Int) ^ k:=Int.le_of_lt (Int.pow_pos (by decide))
section
variable{R:Rt}{σ:List O}{Q:ag}{ρ:List Addr}{s:Shared}{A:Around}{Qr Er:Value→Shared→Prop}
theorem Gk{a b:Nat}(h:a≤16)(h':b≤16):a * b≤256:=Nat.mul_le_mul h h'
theorem HE{op:Op}{x y:V}{rx ry:Value}(S:St R σ ρ s.heap)(hx:aq R s.heap ρ x rx)(hy:aq R s.heap ρ y ry)(hp:Bn σ Q op x y)(k:KQ R ρ s Q Qr):wpAny R.M A (binaryOp op.py rx ry) Qr Er s:=by
 induction hp with
 | add e h=>exact hx.int' fun t=>hy.int' fun u=>add_int (k.int S e h)
 | sub e h=>exact hx.int' fun t=>hy.int' fun u=>sub_int (k.int S e h)
 | mul hi hj e h=>exact hx.int' fun t=>hy.int' fun u=>mul_int (k.int S e h) (IntMulOk.of_bits (tu hi) (tu hj))
 | fdiv hj hd e h=>exact hx.int' fun t=>hy.int' fun u=>floordiv_int (Int.ne_of_gt hj) (k.int S ((Int.fdiv_eq_ediv_of_nonneg _ (Int.le_of_lt hj)).trans e) h) (.inl (PyProof.noPylong_of_log2 ((Nat.log2_lt (fun z=>Int.ne_of_gt hj (Int.natAbs_eq_zero.mp z))).mpr hd)))
 | mod hj e h=>exact hx.int' fun t=>hy.int' fun u=>mod_int (Int.ne_of_gt hj) (k.int S ((Int.fmod_eq_emod_of_nonneg _ (Int.le_of_lt hj)).trans e) h)
 | pow hk hi hl e h=>subst hk;exact hx.int' fun t=>hy.int' fun u=>pow_int_small (Int.natCast_nonneg _) (Int.ofNat_le.mpr (Nat.le_trans hl (by decide))) hi (k.int S e h)
 | shr hk e h=>subst hk;exact hx.int' fun t=>hy.int' fun u=>rshift_int (Int.natCast_nonneg _) (k.int S ((Int.fdiv_eq_ediv_of_nonneg _ (As _)).trans e) h)
 | band hi e h=>exact hx.int' fun t=>hy.int' fun u=>and_int (k.int S (((bitAnd_pp hi (Int.natCast_nonneg 255)).trans (E6 hi)).trans e) h)
 | cat hl e h=>exact hx.bytes' fun t=>hy.bytes' fun u=>KBy.add_bytes (Nat.le_trans hl (by decide)) fun t' n=>by rw [List.append_toArray];exact k.bytes S e h
 | lcat hi hj hl e h =>
  refine hx.ref' fun a ea=>hy.ref' fun b eb=>(S.obj _ _ _ ea hi).list' fun us n1 h1 r1=>(S.obj _ _ _ eb hj).list' fun ws n2 h2 r2=>?_
  exact concat_meets ⟨_,h1,rfl⟩ ⟨_,h2,rfl⟩ noFill_list_add seq_list_add PySem.F.slot_list_add PySem.F.entry_list_add (PySem.F.args_list_add_2 _ _)
   (list_addW a b us ws n1 n2 none none #[] #[] (by rw [← Array.length_toList,← Array.length_toList,← r1.length,← r2.length];exact aU hl)) ⟨h1,h2,k.list S e (by rw [Array.toList_append];exact r1.append r2) h⟩
 | @lmul i m xs zs hi hl h1 h2 e h =>
  refine hx.ref' fun a ea=>hy.int' fun u=>(S.obj _ _ _ ea hi).list' fun us n1 h1 r1=>?_
  have hz:us.size * m.toNat≤256:=Gk (Array.length_toList (xs:=us)▸r1.length▸hl) (by omega)
  refine wpAny_binaryOp_repeat_ref (T := "list") (U := "int") (by decide) ⟨_,h1,rfl⟩ (fun s'=>typeIs_int s' m u) noFill_list_mul F.fills_int_mul F.slot_int_rmul repeat_list F.slot_int_index.lookup
   (call_meets F.slot_int_rmul (typeIs_int s m u) F.entry_int_rmul (F.args_int_rmul_2 _ _) (int___rmul___int_list m u a us n1)
    ⟨h1,rfl,⟨_,h1,rfl⟩,call_meets F.slot_list_mul ⟨_,h1,rfl⟩ F.entry_list_mul (F.args_list_mul_2 _ _)
     (AutoListH.list___mul___list_int_3 a us n1 m u (by simp only [Builtin.List.listFitsIndex,Bool.not_eq_true',decide_eq_false_iff_not,Bool.and_eq_false_iff];omega) (Nat.not_lt.mpr (Nat.le_trans hz (by decide))) (by simp only [Builtin.List.listTooLong,sizeLine,decide_eq_true_eq];omega))
     ⟨h1,k.list S e ?_ h⟩⟩)
  rw [mR]
  by_cases he:us.isEmpty=true
  · rw [if_pos he]
    have:us=#[]:=Array.isEmpty_iff.mp he
    subst this
    rw [List.length_eq_zero_iff.mp r1.length,List.flatten_replicate_nil];exact .nil
  · rw [if_neg he,List.map_replicate]
    exact r1.replicate m.toNat
end
theorem Db{α:Type}[BEq α][LawfulBEq α][DecidableEq α](a b:α):(a==b)=decide (a=b):=Bool.eq_iff_iff.mpr ⟨fun h=>decide_eq_true (eq_of_beq h),fun h=>of_decide_eq_true h▸beq_self_eq_true a⟩
theorem Hf{P:Bool→Prop}{p:Prop}[Decidable p](h1:p→P true)(h2:¬p→P false):P (decide p):=if h:p then decide_eq_true h▸h1 h else decide_eq_false h▸h2 h
structure BE(A:Around)(s:Shared)(x y:Value)(r:Bool):Prop where
 rc:RcAt A s x y r
 eq:EqAt A s x y r
 ne:RcNeAt A s x y (!r)
 sm:x=y→r=true
inductive DG(A:Around)(s:Shared)(xs ys:List Value)(r:Bool):Prop
 | mk (e:Nat→Bool) (hl:xs.length=ys.length) (hr:r=(List.range xs.length).all e) (he:∀ j (h1:j < xs.length) (h2:j < ys.length),BE A s xs[j] ys[j] (e j)) (sm:xs=ys→r=true):DG A s xs ys r
section
variable{R:Rt}{σ:List O}{ρ:List Addr}{s:Shared}{A:Around}{a b:V}{x y:Value}{xs ys:List Value}{as bs:List V}{r:Bool}{n:Nat}
theorem BE.bytes(p q:ae)(t u:Tok):BE A s (.bytes p.toArray t) (.bytes q.toArray u) (decide (p=q)) :=
 ⟨fun _ _ _ _ hq=>PySem.W.eq_bytes ((Db p q).symm▸hq),fun _ _ _ _ hq=>PySem.W.eqBool_bytes hq,fun _ _ _ _ hq=>PySem.W.ne_bytes ((show (p != q)=!decide (p=q) from congrArg not (Db p q))▸hq),fun z=>decide_eq_true (by cases z;rfl)⟩
theorem BE.str(inj:∀ i j,i < R.nn→j < R.nn→R.nm i=R.nm j→i=j){i j:Nat}(hi:i < R.nn)(hj:j < R.nn)(t u:Tok):BE A s (.str (R.nm i) t) (.str (R.nm j) u) (decide (i=j)):=by
 have e:(R.nm i==R.nm j)=decide (i=j):=Bool.eq_iff_iff.mpr ⟨fun h=>decide_eq_true (inj i j hi hj (eq_of_beq h)),fun h=>of_decide_eq_true h▸beq_self_eq_true _⟩
 rw [← e]
 exact ⟨.str_str _ _ _ _,.str_str _ _ _ _,.str_str _ _ _ _,fun z=>beq_iff_eq.mpr (Value.str.inj z).1⟩
noncomputable def FS(e:Bool)(f:Nat→Bool):Nat→Bool
 | 0=>e
 | j+1=>f j
theorem DG.cons{e:Bool}(h:BE A s x y e)(t:DG A s xs ys r):DG A s (x :: xs) (y :: ys) (e&&r):=by
 induction t with
 | mk f hl hr he sm =>
  refine .mk (FS e f) (congrArg (·+1) hl) ?_ (fun j=>by cases j with | zero=>exact fun _ _=>h | succ j=>exact fun h1 h2=>he j (Nat.lt_of_succ_lt_succ h1) (Nat.lt_of_succ_lt_succ h2)) fun z=>?_
  · rw [List.length_cons,List.range_succ_eq_map,List.all_cons,List.all_map,hr];rfl
  · rw [h.sm (List.cons.inj z).1,sm (List.cons.inj z).2];rfl
theorem DG.tup{xa ya:Addr}{k k':Nat}{sl sl':Array (Option Value)}(hu:A.units < cLine)(e1:s.heap.get? xa=some (dE xs.toArray k sl))(e2:s.heap.get? ya=some (dE ys.toArray k' sl'))(t:DG A.in1 s xs ys r):BE A s (.ref xa) (.ref ya) r:=by
 induction t with
 | mk f hl hr he sm =>
  have ta:s.heap.IsTuple xa xs.toArray:=⟨_,e1,rfl,_,rfl⟩
  have tb:s.heap.IsTuple ya ys.toArray:=⟨_,e2,rfl,_,rfl⟩
  have hr':r=((List.range (min xs.toArray.size ys.toArray.size)).all f&&xs.toArray.size==ys.toArray.size):=by
   rw [List.size_toArray,List.size_toArray,← hl,Nat.min_self,← hr,beq_self_eq_true,Bool.and_true]
  have rc:RcAt A s (.ref xa) (.ref ya) r:=hr'▸RcAt.tuples ta tb hu fun j h1 h2=>(he j h1 h2).eq
  have sm':Value.ref xa = .ref ya→r=true:=fun z=>sm (by cases z;rw [e1] at e2;cases e2;rfl)
  exact ⟨rc,if q:xa=ya then by rw [sm' (congrArg _ q),q];exact .same _ else .of_refs q rc,hr'▸RcNeAt.tuples ta tb hu fun j h1 h2=>(he j h1 h2).eq,sm'⟩
theorem Eh{n:Nat}(h:A.units+(n+1) < 9500):A.in1.units+n < 9500:=(Nat.add_right_comm ..).trans (Nat.add_assoc ..)▸h
theorem Fi{n:Nat}(h:A.units+n < 9500):A.units < cLine:=Nat.lt_of_le_of_lt (Nat.le_add_right _ n) (Nat.lt_trans h (by decide))
theorem GL(inj:∀ i j,i < R.nn→j < R.nn→R.nm i=R.nm j→i=j)(h:EqVs n as bs r):∀ (A:Around) (xs ys:List Value),A.units+n < 9500→VRels R s.heap ρ as xs→VRels R s.heap ρ bs ys→DG A s xs ys r:=by
 refine EqVs.rec (motive_1:=fun n a b r _=>∀ (A:Around) (x y:Value),A.units+n < 9500→aq R s.heap ρ a x→aq R s.heap ρ b y→BE A s x y r) (motive_2:=fun n as bs r _=>∀ (A:Around) (xs ys:List Value),A.units+n < 9500→VRels R s.heap ρ as xs→VRels R s.heap ρ bs ys→DG A s xs ys r)
  (fun A x y _ hx hy=>hx.none' (hy.none' ?_)) (fun A x y _ hx hy=>hx.none' (hy.int' fun t=>?_)) (fun A x y _ hx hy=>hx.bool' (hy.bool' ?_)) (fun A x y _ hx hy=>hx.int' fun t=>hy.int' fun u=>?_)
  (fun A x y _ hx hy=>hx.bytes' fun t=>hy.bytes' fun u=>.bytes ..) (fun A x y _ hx hy=>hx.str' fun t hi=>hy.str' fun u hj=>.str inj hi hj ..) (fun _ ih A x y hu hx hy=>hx.tup' fun xa xs n sl e1 r1=>hy.tup' fun ya ys m sl' e2 r2=>(ih A.in1 xs ys (Eh hu) r1 r2).tup (Fi hu) e1 e2)
  (fun A xs ys _ hx hy=>hx.nil' (hy.nil' ?_)) (fun _ _ ih1 ih2 A xs ys hu hx hy=>hx.cons' fun x xs r1 r2=>hy.cons' fun y ys q1 q2=>.cons (ih1 A x y hu r1 q1) (ih2 A xs ys hu r2 q2)) h
 · exact ⟨.none_none,fun _ _ _ _ hq=>by unfold eqBool;exact wpAny_holding (wpAny_bind (wpAny_rule (wpAny_pure hq))),.none_none,fun _=>rfl⟩
 · exact ⟨.none_int _ _,.none_int _ _,.none_int _ _,fun z=>nomatch z⟩
 · exact ⟨.bool_bool _ _,.bool_bool _ _,.bool_bool _ _,fun z=>beq_iff_eq.mpr (by cases z;rfl)⟩
 · rw [← Db]
   exact ⟨.int_int _ _ _ _,.int_int _ _ _ _,.int_int _ _ _ _,fun z=>beq_iff_eq.mpr (by cases z;rfl)⟩
 · exact .mk (fun _=>true) rfl rfl (fun _ h=>absurd h (Nat.not_lt_zero _)) fun _=>rfl
theorem Ix(inj:∀ i j,i < R.nn→j < R.nn→R.nm i=R.nm j→i=j)(h:l4 n a b r)(hu:A.units+n < 9500)(hx:aq R s.heap ρ a x)(hy:aq R s.heap ρ b y):BE A s x y r:=by
 induction GL inj (.cons h .nil) A [x] [y] hu (.cons hx .nil) (.cons hy .nil) with
 | mk e hl hr he sm=>exact ((Bool.and_true r).symm.trans (hr.trans (Bool.and_true _)):r=e 0)▸he 0 (Nat.zero_lt_one) (Nat.zero_lt_one)
structure Iy(A:Around)(s:Shared)(x y:Value)(r:Bool):Prop where
 rc:RcAt A s x y r
 ne:RcNeAt A s x y (!r)
theorem fH{i:Nat}{h:Heap}{vs:List V}{xs:Array Value}(r:VRels R h ρ vs xs.toList):xs.size=vs.length:=Array.length_toList (xs:=xs)▸r.length.symm
theorem HG(inj:∀ i j,i < R.nn→j < R.nn→R.nm i=R.nm j→i=j)(S:St R σ ρ s.heap)(h:DI σ a b r)(hu:A.units < 9000)(hx:aq R s.heap ρ a x)(hy:aq R s.heap ρ b y):Iy A s x y r:=by
 have hu1:A.units < cLine:=Nat.lt_trans hu (by decide)
 induction h with
 | val h=>have e:=Ix (A:=A) inj h (Nat.lt_trans (Nat.add_lt_add_right hu 100) (by decide)) hx hy;exact ⟨e.rc,e.ne⟩
 | list hi hj h =>
  refine hx.ref' fun xa ea=>hy.ref' fun ya eb=>(S.obj _ _ _ ea hi).list' fun us n1 h1 r1=>(S.obj _ _ _ eb hj).list' fun ws n2 h2 r2=>?_
  induction GL inj h A.in1 _ _ (Nat.lt_trans (Nat.add_lt_add_right (Nat.succ_lt_succ hu) 100) (by decide)) r1 r2 with
  | mk e hl hr he sm =>
   have hr':=hr.trans (congrArg (fun n=>(List.range n).all e) Array.length_toList)
   have hl':us.size=ws.size:=hl
   exact hr'▸⟨RcAt.lists (aM h1) (aM h2) hl' hu1 fun j h1 h2=>(he j h1 h2).eq,RcNeAt.lists (aM h1) (aM h2) hl' hu1 fun j h1 h2=>(he j h1 h2).eq⟩
 | len hi hj h =>
  refine hx.ref' fun xa ea=>hy.ref' fun ya eb=>(S.obj _ _ _ ea hi).list' fun us n1 h1 r1=>(S.obj _ _ _ eb hj).list' fun ws n2 h2 r2=>?_
  have hn:(us.size != ws.size)=true:=bne_iff_ne.mpr fun z=>h (r1.length.trans (z.trans r2.length.symm))
  exact ⟨RcAt.lists_lengths (aM h1) (aM h2) hn hu1,RcNeAt.lists_lengths (aM h1) (aM h2) hn hu1⟩
end
end
section
open PySem Builtin PySem.Calls PyProof.Rows PySem.W PySem.SeqAt
section
variable{b:ae}{c:UInt8}{i:Int}
theorem Bm(h0:0≤i)(h1:i < 256):(i.toNat.toUInt8.toNat:Int)=i:=by
 rw [Nat.toUInt8_eq,UInt8.toNat_ofNat',Nat.mod_eq_of_lt (show i.toNat < 2 ^ 8 by omega),Int.toNat_of_nonneg h0]
theorem qU(h0:0≤i)(h1:i < 256):b.toArray.contains i.toNat.toUInt8=ia i b:=by
 unfold ia
 rw [← Array.contains_toList,List.contains_eq_any_beq]
 exact congrArg (List.any b) (funext fun o=>(Db _ _).trans (decide_eq_decide.mpr ⟨fun e=>e▸Bm h0 h1,fun e=>UInt8.toNat_inj.mp (Int.ofNat.inj ((Bm h0 h1).trans e.symm))⟩))
theorem Cb{j:Nat}(h:j < b.length):b.toArray.extract j (j+1)=#[b[j]]:=by
 apply Array.ext'
 rw [Array.toList_extract]
 show (b.drop j).take (j+1 - j)=[b[j]]
 rw [List.drop_eq_getElem_cons h,Nat.add_sub_cancel_left];rfl
theorem rh{j:Nat}(h:j < b.length):(b.toArray.extract j (j+1)==[c].toArray)=(b[j]==c):=by
 rw [Cb h]
 exact Bool.eq_iff_iff.mpr ⟨fun e=>beq_iff_eq.mpr (List.cons.inj (congrArg Array.toList (eq_of_beq e))).1,fun e=>beq_iff_eq.mpr (congrArg (fun x=>[x].toArray) (eq_of_beq e))⟩
theorem xg:Bytes.find? b.toArray [c].toArray 0 b.toArray.size=(List.range b.length).find? fun j=>b.toArray.extract j (j+1)==[c].toArray:=by
 show List.find? _ (List.map (·+0) (List.range (b.length+1 - 1)))=_
 rw [show (fun x:Nat=>x+0)=_root_.id from rfl,List.map_id,Nat.add_sub_cancel];rfl
theorem zp:(Bytes.find? b.toArray [c].toArray 0 b.toArray.size).isSome=b.contains c:=by
 rw [xg,Bool.eq_iff_iff,List.find?_isSome,List.contains_iff_mem]
 exact ⟨fun ⟨j,hj,e⟩=>eq_of_beq ((rh (List.mem_range.mp hj)).symm.trans e)▸List.getElem_mem _,fun hm=>(List.mem_iff_getElem.mp hm).elim fun j w=>w.elim fun hj e=>⟨j,List.mem_range.mpr hj,(rh hj).trans (beq_iff_eq.mpr e)⟩⟩
theorem zz(hm:c∈b):Bytes.find? b.toArray [c].toArray 0 b.toArray.size=some (b.idxOf c):=by
 have hl:b.idxOf c < b.length:=List.idxOf_lt_length_iff.mpr hm
 rw [xg,List.find?_range_eq_some]
 refine ⟨(rh hl).trans (beq_iff_eq.mpr (List.getElem_idxOf hl)),List.mem_range.mpr hl,fun j hj=>?_⟩
 rw [rh (Nat.lt_trans hj hl)]
 exact (Bool.not_eq_true' _).mpr (List.not_of_lt_findIdx (p:=(·==c)) hj)
end
noncomputable def lU(Q:Value→Shared→Prop)(f:PySem.Fin)(s:Shared):Prop:=match f with
 | .done f=>(match f with | .ret v=>Q v s | _=>False)
 | _=>False
section
variable{prog:Program}{w:World}{A:Around}{E:Value→Shared→Prop}{s:Shared}{Q:Value→Shared→Prop}
theorem aE{M:Model}{α β:Type}{m:Sem α}{f:α→Sem β}{Q:β→Shared→Prop}{a:α}(e:m=pure a)(h:wpAny M A (f a) Q E s):wpAny M A (m >>= f) Q E s:=wpAny_bind (wpAny_of_eq e h)
theorem lU.ok{f:PySem.Fin}{s:Shared}(h:lU Q f s):∃ v,f = .done (.ret v)∧Q v s:=by
 induction f with
 | done f=>cases f with
  | ret v=>exact ⟨v,rfl,h⟩
  | _=>exact h.elim
 | again c=>exact h.elim
theorem dJ{T:String}{name:Str}{id:String}{B:Builtin}{self:Value}{rest:List Value}(slot:Slot T name id)(hT:s.TypeIs self T)(entry:entryFor table id=some B)(args:argsOk id ⟨self :: rest,[]⟩)
 (h:wpAny (model prog w) A.in1 (B ⟨self :: rest,[]⟩) (lU Q) E s):wpAny (model prog w) A (call (.builtin id) (self :: rest)) Q E s :=
 wpAny_call (codeAny_call_builtin slot.plain entry (slot.check _ _ _ _ _ _ _ _ hT args (wpAny_mono h (fun fin s' z=>z.ok.elim fun v z=>by rw [z.1];exact z.2) fun _ _ z=>z)))
theorem gV{b:ae}{i:Int}{t u:Tok}{Q:Bool→Shared→Prop}(h0:0≤i)(h1:i < 256)(h:Q (ia i b) s):wpAny (model prog w) A (contains (.bytes b.toArray u) (.int i t)) Q E s:=by
 refine wpAny_contains_slot (typeIs_bytes s b.toArray u) FB.slot_bytes_contains (dJ FB.slot_bytes_contains (typeIs_bytes s b.toArray u) FB.entry_bytes_contains (FB.args_bytes_contains_2 _ _) ?_)
 refine aE (a:=(Value.bytes b.toArray u,[Value.int i t])) (by kernel_rfl) (wpAny_bind (aE (a:=Except.ok i) (by kernel_rfl) (aE KBy.buffer_eq ?_)))
 dsimp only
 rw [if_neg (by simp only [Bool.or_eq_true,decide_eq_true_eq];omega)]
 exact wpAny_pure (wpAny_pure (qU h0 h1▸wpAny_truthy_bool h))
theorem jD{b:ae}{x:UInt8}{t u:Tok}{Q:Bool→Shared→Prop}(hh:A.handled=none)(h:∀ h' tk,Keeps s.heap h'→Q (b.contains x) { s with heap:=h',toks:=tk }) :
 wpAny (model prog w) A (contains (.bytes b.toArray u) (.bytes [x].toArray t)) Q E s:=by
 refine wpAny_contains_slot (typeIs_bytes s b.toArray u) FB.slot_bytes_contains (dJ FB.slot_bytes_contains (typeIs_bytes s b.toArray u) FB.entry_bytes_contains (FB.args_bytes_contains_2 _ _) ?_)
 refine aE (a:=(Value.bytes b.toArray u,[Value.bytes [x].toArray t])) (by kernel_rfl) (wpAny_bind (wpAny_bind (wpAny_attempt ?_)))
 have e:asIndex (.bytes [x].toArray t)=raiseErrorMade "TypeError" "'bytes' object cannot be interpreted as an integer" := by kernel_rfl
 rw [e]
 refine wpAny_raiseErrorMade plainExc_TypeError hh fun h' tk ex hx=>aE KBy.buffer_eq (aE KBy.buffer_eq (wpAny_bind (wpAny_rule (wpAny_pure (wpAny_pure ?_)))))
 exact zp (b:=b)▸wpAny_truthy_bool (h h' tk hx.keeps)
end
noncomputable def KC(R:Rt)(ρ:List Addr)(s:Shared)(σ:List O)(Q:aX)(Qr:Value→Shared→Prop):Prop:=∀ b s',bV R ρ [] s σ ρ s'→Q b σ→Qr (.bool b) s'
section
variable{R:Rt}{σ:List O}{ρ:List Addr}{s:Shared}{A:Around}{Q:aX}{Qr Er:Value→Shared→Prop}
theorem KC.eq(k:KC R ρ s σ Q Qr)(S:St R σ ρ s.heap){a r:Bool}(e:a=r)(h:Q r σ):Qr (.bool a) s:=k _ _ (.refl S) (e▸h)
theorem KC.at(k:KC R ρ s σ Q Qr)(S:St R σ ρ s.heap){r:Bool}(h:Q r σ):Qr (.bool r) s:=k _ _ (.refl S) h
theorem KC.tk(k:KC R ρ s σ Q Qr)(S:St R σ ρ s.heap){a r:Bool}(e:a=r)(h:Q r σ){n:Nat}:Qr (.bool a) { s with toks:=n }:=k _ _ (.toks S n) (e▸h)
theorem KC.kp(k:KC R ρ s σ Q Qr)(S:St R σ ρ s.heap){a r:Bool}(e:a=r)(h:Q r σ){h':Heap}{n:Nat}(kp:Keeps s.heap h'):Qr (.bool a) { s with heap:=h',toks:=n }:=k _ _ (.keep S kp n) (e▸h)
theorem aZ.notSys(ok:aZ R)(S:St R σ ρ s.heap){i:Nat}{a:Addr}(m:ρ[i]? = some a):(a==sysModules)=false :=
 beq_eq_false_iff_ne.mpr fun e=>ok.sys.elim fun _ ho=>aK (S.old a (List.mem_of_getElem? m)) (e▸ho)
theorem iP{v:V}{rv:Value}{h:Heap}(r:aq R h ρ v rv):(rv==Value.none)=cI v∧(vI v=false→PySem.plainIs rv Value.none=true):=by
 exact aq.casesOn (motive_1:=fun v rv _=>(rv==Value.none)=cI v∧(vI v=false→PySem.plainIs rv Value.none=true)) r ⟨rfl,fun _=>rfl⟩ (fun _=>⟨rfl,fun _=>rfl⟩) (fun _ _=>⟨rfl,fun _=>rfl⟩) (fun _ _=>⟨rfl,fun _=>rfl⟩) (fun _ _ _=>⟨rfl,fun _=>rfl⟩) (fun _ _=>⟨rfl,fun _=>rfl⟩) (fun _=>⟨rfl,fun _=>rfl⟩) (fun _=>⟨rfl,fun _=>rfl⟩) (fun _=>⟨rfl,fun _=>rfl⟩)
  fun b _ e=>⟨e▸B.rec rfl rfl rfl rfl rfl rfl rfl rfl rfl rfl rfl rfl rfl b,fun h=>nomatch h⟩
noncomputable def vo(x:ae)(v:Value):Bool:=match v with
 | .bytes b _=>decide (b.toList=x)
 | _=>false
theorem xM{x:ae}{t:Tok}{bs:List ae}:∀ {xs:List Value},VRels R s.heap ρ (bs.map .bytes) xs→xs.any (vo x)=(bs.any fun b=>decide (b=x))∧∀ y∈xs,EqAt A s y (.bytes x.toArray t) (vo x y):=by
 induction bs with
 | nil=>exact fun r=>r.nil' ⟨rfl,fun y m=>absurd m List.not_mem_nil⟩
 | cons b bs ih=>exact fun r=>r.cons' fun y ys r1 r2=>r1.bytes' fun u=>⟨congrArg (decide (b=x)||·) (ih r2).1,fun y m=>(List.mem_cons.mp m).elim (fun e=>e▸(BE.bytes b x u t).eq) ((ih r2).2 y)⟩
theorem wI{ss:List Nat}:∀ {xs:List Value},VRels R s.heap ρ (ss.map .str) xs→StrsAre xs (ss.map R.nm)∧∀ i∈ss,i < R.nn:=by
 induction ss with
 | nil=>exact fun r=>r.nil' ⟨.nil,fun y m=>absurd m List.not_mem_nil⟩
 | cons b bs ih=>exact fun r=>r.cons' fun y ys r1 r2=>r1.str' fun u hb=>⟨.cons _ _ (ih r2).1,fun y m=>(List.mem_cons.mp m).elim (fun e=>e▸hb) ((ih r2).2 y)⟩
theorem Em(ok:aZ R){x:Nat}(hx:x < R.nn){ss:List Nat}:(∀ i∈ss,i < R.nn)→(ss.map R.nm).any (·==R.nm x)=ss.any fun b=>decide (b=x):=by
 induction ss with
 | nil=>exact fun _=>rfl
 | cons b bs ih=>exact fun h=>congr (congrArg or (Bool.eq_iff_iff.mpr ⟨fun e=>decide_eq_true (ok.inj _ _ (h b (.head _)) hx (eq_of_beq e)),fun e=>of_decide_eq_true e▸beq_self_eq_true _⟩)) (ih fun i m=>h i (.tail _ m))
theorem HM(ok:aZ R){op:Cp}{x y:V}{rx ry:Value}(hu:A.units < 9000)(hh:A.handled=none)(S:St R σ ρ s.heap)(hx:aq R s.heap ρ x rx)(hy:aq R s.heap ρ y ry)(hp:Cm σ Q op x y)(k:KC R ρ s σ Q Qr):wpAny R.M A (compareOp op.py rx ry) Qr Er s:=by
 induction hp with
 | lt h1 h2=>exact hx.int' fun t=>hy.int' fun u=>lt_int (k.at S (Hf (P:=fun r=>Q r σ) h1 h2))
 | le h1 h2=>exact hx.int' fun t=>hy.int' fun u=>le_int (k.at S (Hf (P:=fun r=>Q r σ) h1 h2))
 | gt h1 h2=>exact hx.int' fun t=>hy.int' fun u=>gt_int (k.at S (Hf (P:=fun r=>Q r σ) h1 h2))
 | ge h1 h2=>exact hx.int' fun t=>hy.int' fun u=>ge_int (k.at S (Hf (P:=fun r=>Q r σ) h1 h2))
 | eq e h=>exact (HG ok.inj S e hu hx hy).rc _ _ _ _ (k.at S h)
 | ne e h=>exact (HG ok.inj S e hu hx hy).ne _ _ _ _ (k.at S h)
 | isN e h=>exact hy.none' (is_none_gen (k.eq S ((iP hx).1.trans e) h))
 | notN hb e h=>exact hy.none' (wpAny_isNot_plain ((iP hx).2 hb) (k.eq S (congrArg not ((iP hx).1.trans e)) h))
 | inI h0 h1 e h=>exact hx.int' fun t=>hy.bytes' fun u=>wpAny_bind (gV h0 h1 (wpAny_pure (k.eq S e h)))
 | inB e h=>exact hx.bytes' fun t=>hy.bytes' fun u=>wpAny_bind (jD hh fun h' tk kp=>wpAny_pure (k.kp S e h kp))
 | inT hv e h=>subst hv;exact hx.bytes' fun t=>hy.tup' fun a xs n sl ea r=>in_tupleAt (vo _) ⟨_,ea,rfl,_,rfl⟩ (fun y m=>(xM r).2 y (Array.mem_toArray.mp m)) (k.eq S ((List.any_toArray ..).trans ((xM (A:=A) (t:=t) r).1.trans e)) h)
 | inS hv e h=>subst hv;exact hx.str' fun t hi=>hy.tup' fun a xs n sl ea r=>in_tuple_strs ⟨_,ea,rfl,_,rfl⟩ (wI r).1 (k.eq S ((Em ok hi (wI r).2).trans e) h)
 | inD hj e h=>exact hx.int' fun t=>hy.ref' fun a ea=>(S.obj _ _ _ ea hj).idict' fun kvs hd hl hr=>wpAny_in_of (knd:=intKind R.prog R.w) (beq_self_eq_true _) (ok.notSys S ea) hd.mapOf (k.tk S ((hr _ trivial).isSome.trans e) h)
 | ninI h0 h1 e h=>exact hx.int' fun t=>hy.bytes' fun u=>wpAny_bind (gV h0 h1 (wpAny_pure (k.eq S (congrArg not e) h)))
 | ninB e h=>exact hx.bytes' fun t=>hy.bytes' fun u=>wpAny_bind (jD hh fun h' tk kp=>wpAny_pure (k.kp S (congrArg not e) h kp))
end
inductive Hd where
 | u | ld (a:Addr) | up (a:Addr) (f:PySem.Obj→PySem.Obj) | al (o:PySem.Obj) | fr | ask | hn | st | cl (c:Code) | no
section
variable{α:Type}
noncomputable def w4(t:Sem α):Hd:=Sem.casesOn (motive:=fun _=>Hd) t (fun _=>.no) (fun _=>.no) (fun _=>.no) (fun _=>.no) (fun _ _=>.u) (fun _ _=>.u) (fun a _ _=>.ld a) (fun a _ f _=>.up a f) (fun o _=>.al o) (fun _ _=>.no) (fun _ _=>.u) (fun _ _=>.no) (fun _=>.fr) (fun _=>.ask)
 (fun _ _ _=>.no) (fun _ _ _=>.no) (fun c h _ _ _=>Option.rec (.cl c) (fun _=>.no) h) (fun b _=>Bool.rec .hn .no b) (fun _ _=>.no) (fun _ _=>.no) (fun _ _ _ _=>.no) (fun _ _ _ _=>.no) (fun _=>.st) (fun _ _=>.no) (fun _=>.no) (fun _ _ _ _ _=>.no)
noncomputable def nx(t:Sem α)(o:PySem.Obj)(n:Nat)(g:Option Setting)(st:List (Code×Pos))(h:Option Value)(r:Result):Sem α:=Sem.casesOn (motive:=fun _=>Sem α) t (fun _=>t) (fun _=>t) (fun _=>t) (fun _=>t) (fun _ k=>k ()) (fun _ k=>k ()) (fun _ _ k=>k o) (fun _ _ _ k=>k ()) (fun _ k=>k n) (fun _ _=>t) (fun _ k=>k ()) (fun _ _=>t) (fun k=>k n) (fun k=>Option.rec t k g)
 (fun _ _ _=>t) (fun _ _ _=>t) (fun _ _ _ _ k=>k r) (fun _ k=>k h) (fun _ _=>t) (fun _ _=>t) (fun _ _ _ _=>t) (fun _ _ _ _=>t) (fun k=>k st) (fun _ _=>t) (fun _=>t) (fun _ _ _ _ _=>t)
noncomputable def kO(t:Sem α)(o:PySem.Obj):Sem α:=nx t o 0 none [] none (.ok .next)
noncomputable def kN(t:Sem α)(n:Nat):Sem α:=nx t default n none [] none (.ok .next)
noncomputable def kU(t:Sem α):Sem α:=kN t 0
noncomputable def kG(t:Sem α)(g:Setting):Sem α:=nx t default 0 (some g) [] none (.ok .next)
noncomputable def kS(t:Sem α)(st:List (Code×Pos)):Sem α:=nx t default 0 none st none (.ok .next)
noncomputable def kR(t:Sem α)(r:Result):Sem α:=nx t default 0 none [] none r
noncomputable def wq(M:Model)(Γ:Ctx)(Q:α→Shared→Prop)(E:Value→Shared→Prop)(p:Pos)(s:Shared)(t:Sem α):Prop:=Sem.wp M Γ t (fun a _ s'=>Q a s') (fun e _ s'=>E e s') p s
noncomputable def l7(M:Model)(Γ:Ctx)(Q:α→Shared→Prop)(E:Value→Shared→Prop)(p:Pos)(s:Shared)(t:Sem α)(h:Hd):Prop:=Hd.rec (motive:=fun _=>Prop) ((∀ p,wq M Γ Q E p s (kU t))→wq M Γ Q E p s t)
 (fun a=>∀ o,s.heap.get? a=some o→wq M Γ Q E p s (kO t o)→wq M Γ Q E p s t)
 (fun a f=>∀ o,s.heap.get? a=some o→wq M Γ Q E p { s with heap:=s.heap.update a f } (kU t)→wq M Γ Q E p s t)
 (fun o=>wq M Γ Q E p { s with heap:=s.heap.push o } (kN t s.heap.objs.size)→wq M Γ Q E p s t)
 (wq M Γ Q E p { s with toks:=s.toks+1 } (kN t s.toks)→wq M Γ Q E p s t)
 (wq M Γ Q E p s (kG t ⟨M.prog,M.w.params⟩)→wq M Γ Q E p s t)
 (wq M Γ Q E p s (nx t default 0 none [] Γ.handled (.ok .next))→wq M Γ Q E p s t)
 (wq M Γ Q E p s (kS t ((Γ.code,p) :: Γ.below))→wq M Γ Q E p s t)
 (fun c=>wpCode M (Γ.enter c none p) (fun r s'=>wq M Γ Q E p s' (kR t r)) p s→wq M Γ Q E p s t)
 True h
theorem iB(M:Model)(Γ:Ctx)(Q:α→Shared→Prop)(E:Value→Shared→Prop)(p:Pos)(s:Shared)(t:Sem α):l7 M Γ Q E p s t (w4 t) :=
 Sem.casesOn (motive:=fun t=>l7 M Γ Q E p s t (w4 t)) t (fun _=>trivial) (fun _=>trivial) (fun _=>trivial) (fun _=>trivial) (fun _ _ q=>q p) (fun g _ q=>q g) (fun _ _ _ o h q=>⟨o,h,q⟩) (fun _ _ _ _ o h q=>⟨h▸rfl,q⟩) (fun _ _ q=>q) (fun _ _=>trivial) (fun _ _ q=>q p) (fun _ _=>trivial) (fun _ q=>q) (fun _ q=>q)
  (fun _ _ _=>trivial) (fun _ _ _=>trivial) (fun c h _ _ _=>by cases h with | none=>exact fun q=>q | some _=>exact trivial) (fun b _=>by cases b with | false=>exact fun q=>q | true=>exact trivial) (fun _ _=>trivial) (fun _ _=>trivial) (fun _ _ _ _=>trivial) (fun _ _ _ _=>trivial) (fun _ q=>q) (fun _ _=>trivial) (fun _=>trivial) (fun _ _ _ _ _=>trivial)
section
variable{M:Model}{A:Around}{Q:α→Shared→Prop}{E:Value→Shared→Prop}{s:Shared}
section
variable{t:Sem α}
theorem Ii(e:w4 t = .u)(q:aT M A (kU t) Q E s):aT M A t Q E s:=fun Γ p hΓ d=>(e▸iB M Γ Q E p s t:l7 M Γ Q E p s t .u) fun p=>q Γ p hΓ d
theorem fO{a:Addr}{o:PySem.Obj}(h:s.heap.get? a=some o)(e:w4 t = .ld a)(q:aT M A (kO t o) Q E s):aT M A t Q E s:=fun Γ p hΓ d=>(e▸iB M Γ Q E p s t:l7 M Γ Q E p s t (.ld a)) o h (q Γ p hΓ d)
theorem Hq(hh:A.handled=none)(e:w4 t = .hn)(q:aT M A (kU t) Q E s):aT M A t Q E s:=fun Γ p hΓ d=>(e▸iB M Γ Q E p s t:l7 M Γ Q E p s t .hn) ((hΓ.1.trans hh)▸q Γ p hΓ d)
theorem Ch{c:Code}(e:w4 t = .cl c)(q:bO M A c (fun r s'=>aT M A (kR t r) Q E s') s):aT M A t Q E s:=fun Γ p hΓ d=>(e▸iB M Γ Q E p s t:l7 M Γ Q E p s t (.cl c)) (wpCode_mono (fun r s' z=>z Γ p hΓ d) (q _ p rfl (hΓ.enter c none p (by intro x;cases x)) (d.enter c none p)))
theorem BI{a:α}(e:t = .pure a)(q:Q a s):aT M A t Q E s:=e▸af q
end
end
end
section
variable{α:Type}{prog:Program}{w:World}{M:Model}{A:Around}{E:Value→Shared→Prop}{s:Shared}{Q:Value→Shared→Prop}{R:Result→Shared→Prop}
theorem ck{id:String}{args:Args}{b:Builtin}(hn:iZ (.builtin id args)=true)(hb:entryFor table id=some b)
 (h:aT (model prog w) (A.under (.builtin id args)) (b args) (fun fin s'=>match fin with | .done f=>R (.ok f) s' | .again c'=>c'.quiet=true∧bO (model prog w) A c' R s') (fun e s'=>R (.error e) s') s) :
 bO (model prog w) A (.builtin id args) R s:=by
 refine aG hn ?_
 show aT _ _ (match entryFor table id with | some b=>b args | none=>unsupported ((withoutEnding? id "#data").getD id)) _ _ s
 rw [hb];exact h
theorem bJ{id:String}{args:Args}{b:Builtin}(hq:plainId id=true)(hn:iZ (.builtin id args)=true)(hb:entryFor table id=some b)
 (h:wpAny (model prog w) A.in1 (checkBuiltinCall id args) (fun _ s₁=>aT (model prog w) A.in1 (b args) (fun fin s'=>match fin with | .done f=>R (.ok f) s' | .again c'=>c'.quiet=true∧bO (model prog w) A c' R s') (fun e s'=>R (.error e) s') s₁) (fun e s'=>R (.error e) s') s) :
 bO (model prog w) A (.call (.builtin id) args) R s :=
 aG rfl (ai (m:=checkBuiltinCall id args) (wpAny_mono h (fun _ s₁ h₁=>af ⟨plainId_quiet hq _,ck hn hb ((Around.under_plainId hq _).symm▸h₁)⟩) fun _ _ x=>x))
theorem cy{id:String}(h:Bytes.decodersThatHold.contains id=false)(a:Args):iZ (.builtin id a)=true:=(Bool.not_eq_true' _).mpr h
theorem oH{T:String}{name:Str}{id:String}{B:Builtin}{self:Value}{rest:List Value}(slot:Slot T name id)(hn:Bytes.decodersThatHold.contains id=false)(hT:s.TypeIs self T)(entry:entryFor table id=some B)(args:argsOk id ⟨self :: rest,[]⟩)
 (h:aT (model prog w) A.in1 (B ⟨self :: rest,[]⟩) (lU Q) E s):aT (model prog w) A (call (.builtin id) (self :: rest)) Q E s :=
 dh (bJ slot.plain (cy hn _) entry (slot.check _ _ _ _ _ _ _ _ hT args (bz h (fun fin s' z=>z.ok.elim fun v z=>by rw [z.1];exact z.2) fun _ _ z=>z)))
section
variable{a:Addr}{b:ae}{Q:α→Shared→Prop}{t:Sem α}
theorem uG{Q:Nat→Shared→Prop}(h:s.heap.get? a=some (aJ b))(q:Q 0 s):aT M A (Bytes.exportsOf (.ref a)) Q E s:=fO h (by kernel_rfl) (BI (a:=0) (by kernel_rfl) q)
noncomputable def By(a:Addr):Sem Bool:=Bytes.exported (.ref a) <||> (do return (← Bytes.exportsOf (.ref a)) > 0)
theorem wR{Q:Bool→Shared→Prop}(hg:A.guards=some [])(h:s.heap.get? a=some (aJ b))(q:Q false s):aT M A (By a) Q E s:=ab (um hg (ab (uG h (af q))))
theorem FT{u:Sem α}(hg:A.guards=some [])(h:s.heap.get? a=some (aJ b))(e:t=By a >>= fun c=>if c=true then u else kO (kS t []) (aJ b))(q:aT M A (kO (kS t []) (aJ b)) Q E s):aT M A t Q E s :=
 ah e (ab (wR hg h q))
theorem GM(hg:A.guards=some [])(h:s.heap.get? a=some (aJ b))(e:t=Bytes.checkResize (.ref a) >>= fun _=>kO (kS t []) (aJ b))(q:aT M A (kO (kS t []) (aJ b)) Q E s):aT M A t Q E s :=
 ah e (ab (show aT M A (By a >>= _) _ _ _ from ab (wR hg h (af q))))
theorem zF{b:ae}(h:b.length≤sizeLine):(aJ b).data.pastItsLine=none:=if_neg (Nat.not_lt.mpr h)
theorem zC{b':ae}{f:Array UInt8→Array UInt8}(h:s.heap.get? a=some (aJ b))(hf:f b.toArray=b'.toArray)(hz:b'.length≤sizeLine)(e:t=Bytes.write (.ref a) f >>= fun _=>kO (kU (kO t (aJ b))) (aJ []))
 (q:∀ h',Heap.SameBut a s.heap h'→h'.get? a=some (aJ b')→aT M A (kO (kU (kO t (aJ b))) (aJ [])) Q E { s with heap:=h' }):aT M A t Q E s:=by
 have eo:Obj.mapBytearray f (aJ b)=aJ b':=congrArg (fun x=>({ cls:=.type "bytearray",data:=.bytearray x 0 }:PySem.Obj)) hf
 have hat:(s.heap.update a (Obj.mapBytearray f)).get? a=some (aJ b'):=eo▸Heap.get?_update_self _ h (by rw [eo];rfl)
 refine ah e (ab (fO h (by kernel_rfl) ?_))
 exact ah (t':=update a (Obj.mapBytearray f) >>= fun _=>lookBehind a) (by kernel_rfl) (ai (wpAny_update h (am (wpAny_lookBehind hat (zF hz) (q _ (Heap.SameBut.update ..) hat)))))
theorem bL(h:s.heap.get? a=some (aJ b)):s.TypeIs (.ref a) "bytearray" := ⟨_,h,rfl⟩
end
theorem Cv(c:UInt8)(t:Tok):Bytes.byteValue (.int (c.toNat:Int) t)=pure c:=by
 unfold Bytes.byteValue
 show (if _ then _ else _)=_
 rw [if_neg (by simp only [Bool.or_eq_true,decide_eq_true_eq];have:=c.toNat_lt;omega)]
 exact congrArg _ (UInt8.ofNat_toNat (x:=c))
theorem qV{a:Addr}{b:ae}{c:UInt8}{t:Tok}(hg:A.guards=some [])(h:s.heap.get? a=some (aJ b))(hz:b.length < sizeLine)
 (q:∀ h',Heap.SameBut a s.heap h'→h'.get? a=some (aJ (b++[c]))→Q .none { s with heap:=h' }):aT (model prog w) A (call (.builtin "bytearray.append") [.ref a,.int (c.toNat:Int) t]) Q E s:=by
 refine oH F.slot_bytearray_append (by decide +kernel) (bL h) F.entry_bytearray_append (F.args_bytearray_append_2 _ _) ?_
 refine ah (t':=Bytes.byteValue (.int (c.toNat:Int) t) >>= fun b=>Bytes.checkResize (.ref a) >>= fun _=>Bytes.write (.ref a) (·.push b) >>= fun _=>ret .none) (by kernel_rfl) (cn (Cv c t) ?_)
 refine GM (A:=A.in1) hg h (by kernel_rfl) (zC h (f:=(·.push c)) (b':=b++[c]) (by simp) (by rw [List.length_append];exact hz) (by kernel_rfl) fun h' hs hat=>BI (a:=.done (.ret .none)) (by kernel_rfl) (q h' hs hat))
theorem qJ{a:Addr}{b y:ae}{t:Tok}(hg:A.guards=some [])(h:s.heap.get? a=some (aJ b))(hz:b.length+y.length≤sizeLine)
 (q:∀ h',Heap.SameBut a s.heap h'→h'.get? a=some (aJ (b++y))→Q .none { s with heap:=h' }):aT (model prog w) A (call (.builtin "bytearray.extend") [.ref a,.bytes y.toArray t]) Q E s:=by
 refine oH F.slot_bytearray_extend (by decide +kernel) (bL h) F.entry_bytearray_extend (F.args_bytearray_extend_2 _ _) ?_
 refine Ii (by kernel_rfl) (fO h (by kernel_rfl) ?_)
 have last:∀ {t:Sem PySem.Fin},t=(Bytes.write (.ref a) (·++y.toArray) >>= fun _=>ret .none)→aT (model prog w) A.in1 t (lU Q) E s:=fun e =>
  ah e (zC h (f:=(·++y.toArray)) (b':=b++y) (List.append_toArray ..) (by rw [List.length_append];exact hz) (by kernel_rfl) fun h' hs hat=>BI (a:=.done (.ret .none)) (by kernel_rfl) (q h' hs hat))
 cases y with
 | nil=>exact last (by kernel_rfl)
 | cons x y=>exact GM (A:=A.in1) hg h (by kernel_rfl) (last (by kernel_rfl))
end
namespace F
theorem entry_bytearray_new:entryFor table "bytearray.__new__" = some Builtin.«list.__new__» :=
 entryFor_alias (id' := "list.__new__") (by rw [fastTable_eq_tree];kernel_rfl) (by first | rfl | decide +kernel) (by decide +kernel) (by rw [fastTable_eq_tree];kernel_rfl)
theorem args_bytearray_init_1(a:Value):argsOk "bytearray.__init__" ⟨[a],[]⟩:=by
 unfold argsOk;rw [signature?_of (id := "bytearray.__init__") (n:=['_', '_', 't', 'i', 'n', 'i', '_', '_']) (o:=['y', 'a', 'r', 'r', 'a', 'e', 't', 'y', 'b']) (by kernel_rfl) bv];kernel_rfl
theorem args_bytearray_init_2(a b:Value):argsOk "bytearray.__init__" ⟨[a,b],[]⟩:=by
 unfold argsOk;rw [signature?_of (id := "bytearray.__init__") (n:=['_', '_', 't', 'i', 'n', 'i', '_', '_']) (o:=['y', 'a', 'r', 'r', 'a', 'e', 't', 'y', 'b']) (by kernel_rfl) bv];kernel_rfl
theorem owner_bytearray_new:("bytearray.__new__".splitOn ".__new__").headD "" = "bytearray" := by rw [split_bytearray];rfl
end F
section
variable{prog:Program}{w:World}{M:Model}{A:Around}{E:Value→Shared→Prop}{s:Shared}{Q:Value→Shared→Prop}{R:Result→Shared→Prop}
theorem Ek{α:Type}{Q:α→Shared→Prop}{t:Sem α}{o:PySem.Obj}{a:α}(e:w4 t = .al o)(e2:kN t s.heap.objs.size = .pure a)(q:Q a { s with heap:=s.heap.push o }):wpAny M A t Q E s:=fun Γ p _=>(e▸iB M Γ Q E p s t:l7 M Γ Q E p s t (.al o)) (e2▸q)
theorem xo{rest:List Value}(hck:checkBuiltinCall "bytearray.__new__" ⟨.type "bytearray" :: rest,[]⟩=pure ())(h:R (.ok (.ret (.ref s.heap.objs.size))) { s with heap:=s.heap.push (aJ []) }) :
 codeAny (model prog w) A (.call (.builtin "bytearray.__new__") ⟨.type "bytearray" :: rest,[]⟩) R s:=by
 refine codeAny_of_tree (wpAny_bind (m:=checkBuiltinCall "bytearray.__new__" ⟨.type "bytearray" :: rest,[]⟩) (wpAny_of_eq hck (wpAny_pure ⟨plainId_quiet (by decide +kernel) _,codeAny_builtin_stack F.entry_bytearray_new rfl fun p st=>?_⟩)))
 rw [Around.under_plainId (by decide +kernel) _]
 dsimp only
 rw [F.owner_bytearray_new]
 exact Ek (o:=aJ []) (by kernel_rfl) (a:=.done (.ret (.ref s.heap.objs.size))) (by kernel_rfl) h
noncomputable def tA(a:Addr):Sem PySem.Fin:=do
 if !(← Bytes.payload (.ref a)).isEmpty then Bytes.checkResize (.ref a)
 unsupported "bytearray.__init__:exported"
theorem vJ(hg:A.guards=some [])(q:∀ h',Keeps s.heap h'→h'.get? s.heap.objs.size=some (aJ [])→Q (.ref s.heap.objs.size) { s with heap:=h' }):aT (model prog w) A (call (.type "bytearray") []) Q E s:=by
 have hat:(s.heap.push (aJ [])).get? s.heap.objs.size=some (aJ []):=Heap.get?_push_size _ rfl
 refine dh (aG rfl (BI (a:=.again (.builtin "type.__call__" ⟨[.type "bytearray"],[]⟩)) (by kernel_rfl) ⟨Code.quiet_builtin _ (by decide +kernel),ck (cy (by decide +kernel) _) PySem.F.entry_type_call ?_⟩))
 rw [Around.under_plain (weight_type_call_type "bytearray" [] []) rfl]
 refine Ch (c:=.call (.builtin "bytearray.__new__") ⟨[.type "bytearray"],[]⟩) (by kernel_rfl) (ut (xo (by kernel_rfl) ?_))
 refine fO hat (by kernel_rfl) (fO hat (by kernel_rfl) (Ch (c:=.call (.builtin "bytearray.__init__") ⟨[.ref s.heap.objs.size],[]⟩) (by kernel_rfl) ?_))
 refine bJ F.slot_bytearray_init.plain (cy (by decide +kernel) _) F.entry_bytearray_init (F.slot_bytearray_init.check _ _ _ _ _ _ _ _ (bL (b:=[]) hat) (F.args_bytearray_init_1 _) ?_)
 refine fO hat (by kernel_rfl) (fO hat (by kernel_rfl) (FT (b:=[]) (u:=tA s.heap.objs.size) hg hat (by kernel_rfl) (zC (b:=[]) (b':=[]) (f:=fun _=>#[]) hat rfl (Nat.zero_le _) (by kernel_rfl) fun h' hs hat'=>?_)))
 exact BI (a:=.done (.ret .none)) (by kernel_rfl) (BI (a:=.done (.ret (.ref s.heap.objs.size))) (by kernel_rfl) (q h' (fun b o e=>hs.extBut b o (Nat.ne_of_lt (Heap.lt_size e)) (Heap.get?_push_of_some _ e)) hat'))
theorem vr{y:ae}{t:Tok}(hg:A.guards=some [])(hz:y.length≤sizeLine)(q:∀ h',Keeps s.heap h'→h'.get? s.heap.objs.size=some (aJ y)→Q (.ref s.heap.objs.size) { s with heap:=h' }):aT (model prog w) A (call (.type "bytearray") [.bytes y.toArray t]) Q E s:=by
 have hat:(s.heap.push (aJ [])).get? s.heap.objs.size=some (aJ []):=Heap.get?_push_size _ rfl
 refine dh (aG rfl (BI (a:=.again (.builtin "type.__call__" ⟨[.type "bytearray",.bytes y.toArray t],[]⟩)) (by kernel_rfl) ⟨Code.quiet_builtin _ (by decide +kernel),ck (cy (by decide +kernel) _) PySem.F.entry_type_call ?_⟩))
 rw [Around.under_plain (weight_type_call_type "bytearray" _ []) rfl]
 refine Ch (c:=.call (.builtin "bytearray.__new__") ⟨[.type "bytearray",.bytes y.toArray t],[]⟩) (by kernel_rfl) (ut (xo (by kernel_rfl) ?_))
 refine fO hat (by kernel_rfl) (fO hat (by kernel_rfl) (Ch (c:=.call (.builtin "bytearray.__init__") ⟨[.ref s.heap.objs.size,.bytes y.toArray t],[]⟩) (by kernel_rfl) ?_))
 refine bJ F.slot_bytearray_init.plain (cy (by decide +kernel) _) F.entry_bytearray_init (F.slot_bytearray_init.check _ _ _ _ _ _ _ _ (bL (b:=[]) hat) (F.args_bytearray_init_2 _ _) ?_)
 refine fO hat (by kernel_rfl) (fO hat (by kernel_rfl) (FT (b:=[]) (u:=tA s.heap.objs.size) hg hat (by kernel_rfl) (zC (b:=[]) (b':=[]) (f:=fun _=>#[]) hat rfl (Nat.zero_le _) (by kernel_rfl) fun h1 hs1 hat1=>?_)))
 refine Ii (by kernel_rfl) (zC (b:=[]) (b':=y) (f:=fun _=>y.toArray) hat1 rfl hz (by kernel_rfl) fun h2 hs2 hat2=>?_)
 exact BI (a:=.done (.ret .none)) (by kernel_rfl) (BI (a:=.done (.ret (.ref s.heap.objs.size))) (by kernel_rfl) (q h2 (fun b o e=>have hne:=Nat.ne_of_lt (Heap.lt_size e);hs2.extBut b o hne (hs1.extBut b o hne (Heap.get?_push_of_some _ e))) hat2))
end
section
variable{α:Type}{M:Model}{A:Around}{Q:α→Shared→Prop}{E:Value→Shared→Prop}{s:Shared}{t:Sem α}
theorem Ip(e:w4 t = .u)(q:wpAny M A (kU t) Q E s):wpAny M A t Q E s:=fun Γ p hΓ=>(e▸iB M Γ Q E p s t:l7 M Γ Q E p s t .u) fun p=>q Γ p hΓ
theorem bD{a:Addr}{o:PySem.Obj}(h:s.heap.get? a=some o)(e:w4 t = .ld a)(q:wpAny M A (kO t o) Q E s):wpAny M A t Q E s:=fun Γ p hΓ=>(e▸iB M Γ Q E p s t:l7 M Γ Q E p s t (.ld a)) o h (q Γ p hΓ)
theorem H9(e:w4 t = .fr)(q:wpAny M A (kN t s.toks) Q E { s with toks:=s.toks+1 }):wpAny M A t Q E s:=fun Γ p hΓ=>(e▸iB M Γ Q E p s t:l7 M Γ Q E p s t .fr) (q Γ p hΓ)
theorem FP{a:α}(e:t = .pure a)(q:Q a s):wpAny M A t Q E s:=e▸wpAny_pure q
theorem cK{t':Sem α}(e:t=t')(h:wpAny M A t' Q E s):wpAny M A t Q E s:=e▸h
end
section
variable{prog:Program}{w:World}{A:Around}{E:Value→Shared→Prop}{s:Shared}{Q:Value→Shared→Prop}{R:Result→Shared→Prop}{a:Addr}{b:ae}
theorem jM{x:Value}(h:wpAny (model prog w) A.in1.in1 (Builtin.«bytes.__new__» ⟨[.type "bytes",x],[]⟩) (lU fun v s=>s.TypeIs v "bytes"∧Q v s) E s) :
 wpAny (model prog w) A (call (.type "bytes") [x]) Q E s:=by
 refine callType_codes (Q₁:=fun obj s₁=>s₁.TypeIs obj "bytes"∧Q obj s₁) F.bm_called (F.bm_typeCall _) PySem.F.entry_object_init (codeAny_of_tree (aE (m:=checkBuiltinCall "bytes.__new__" ⟨[.type "bytes",x],[]⟩) (F.bm_newCall _) (wpAny_pure ⟨plainId_quiet F.bm_plain _,codeAny_builtin F.bm_entry ?_⟩))) fun obj s₁ h₁=>?_
 · rw [Around.under_plainId F.bm_plain _]
   exact wpAny_mono h (fun fin s' z=>z.ok.elim fun v z=>by rw [z.1];exact z.2) fun _ _ z=>z
 · exact ⟨h₁.1,PySem.F.args_object_init_2 obj _,object_init_meets F.bm_called.init.lookup F.bm_called.made (by decide) prog w A.in1 _ s₁ ⟨h₁.1,rfl,h₁.2⟩⟩
theorem ou(h:s.heap.get? a=some (aJ b))(hz:b.length≤sizeLine)(q:∀ t k,Q (.bytes b.toArray t) { s with toks:=k }):wpAny (model prog w) A (call (.type "bytes") [.ref a]) Q E s:=by
 refine jM (bD h (by kernel_rfl) (bD h (by kernel_rfl) (bD h (by kernel_rfl) (bD h (by kernel_rfl) (bD h (by kernel_rfl) (bD h (by kernel_rfl) (bD h (by kernel_rfl) (bD h (by kernel_rfl) (bD h (by kernel_rfl) (bD h (by kernel_rfl) (Ip (by kernel_rfl) ?_)))))))))))
 exact cK (t':=mkBytes b.toArray >>= ret) (by kernel_rfl) (wpAny_bind (wpAny_mkBytes (wpAny_pure ⟨PySem.W.typeIs_bytes _ _ _,q _ _⟩) hz))
noncomputable def C9(P:Nat→Prop):Nat→Prop
 | 0=>True
 | k+1=>C9 P k∧P k
theorem C9.at{P:Nat→Prop}{n:Nat}:∀ {k:Nat},C9 P k→n < k→P n:=by
 intro k
 induction k with
 | zero=>exact fun _ h=>absurd h (Nat.not_lt_zero _)
 | succ k ih=>exact fun p h=>(Nat.lt_or_eq_of_le (Nat.le_of_lt_succ h)).elim (ih p.1) fun e=>e▸p.2
noncomputable def bytesN(n:Nat):Sem PySem.Fin:=rule "bytes.__new__.count" >>= fun _=>mkBytes (List.replicate n (0:UInt8)).toArray >>= ret
noncomputable def bS(u:Tok)(n:Nat):Prop:=Builtin.«bytes.__new__» ⟨[.type "bytes",.int n u],[]⟩=bytesN n
theorem Dj{n:Nat}(u:Tok)(h:n≤16):Builtin.«bytes.__new__» ⟨[.type "bytes",.int n u],[]⟩=bytesN n :=
 C9.at (P:=bS u) (k:=17) ⟨⟨⟨⟨⟨⟨⟨⟨⟨⟨⟨⟨⟨⟨⟨⟨⟨trivial,by unfold bS;kernel_rfl⟩,by unfold bS;kernel_rfl⟩,by unfold bS;kernel_rfl⟩,by unfold bS;kernel_rfl⟩,by unfold bS;kernel_rfl⟩,by unfold bS;kernel_rfl⟩,by unfold bS;kernel_rfl⟩,by unfold bS;kernel_rfl⟩,by unfold bS;kernel_rfl⟩,by unfold bS;kernel_rfl⟩,by unfold bS;kernel_rfl⟩,by unfold bS;kernel_rfl⟩,by unfold bS;kernel_rfl⟩,by unfold bS;kernel_rfl⟩,by unfold bS;kernel_rfl⟩,by unfold bS;kernel_rfl⟩,by unfold bS;kernel_rfl⟩ (Nat.lt_succ_of_le h)
theorem oy{n:Nat}{u:Tok}(h1:n≤16)(q:∀ t k,Q (.bytes (List.replicate n (0:UInt8)).toArray t) { s with toks:=k }):wpAny (model prog w) A (call (.type "bytes") [.int n u]) Q E s:=by
 have z:=Dj u h1
 refine jM ?_
 rw [z]
 refine ((wpAny_bind (wpAny_rule (wpAny_bind (wpAny_mkBytes (wpAny_pure ⟨PySem.W.typeIs_bytes _ _ _,q _ _⟩) ?_)))))
 rw [List.size_toArray,List.length_replicate,sizeLine_eq];omega
end
noncomputable def eY(c:UInt8):ae→Nat→List Nat
 | [],_=>[]
 | x :: r,k=>if x=c then k :: eY c r (k+1) else eY c r (k+1)
noncomputable def bw(b:Array UInt8):List Nat→Array (Array UInt8)→Nat→List (Array UInt8)
 | [],parts,last=>(parts.push (b.extract last b.size)).toList
 | p :: ps,parts,last=>bw b ps (parts.push (b.extract last p)) (p+1)
theorem d4(c x:UInt8)(r:ae)(k:Nat):eY c (x :: r) k=if x=c then k :: eY c r (k+1) else eY c r (k+1):=rfl
theorem DB(c:UInt8)(k:Nat):eY c [] k=[]:=rfl
theorem CB(b:Array UInt8)(p:Nat)(ps:List Nat)(parts:Array (Array UInt8))(last:Nat):bw b (p :: ps) parts last=bw b ps (parts.push (b.extract last p)) (p+1):=rfl
theorem EY(b:Array UInt8)(parts:Array (Array UInt8))(last:Nat):bw b [] parts last=(parts.push (b.extract last b.size)).toList:=rfl
section
variable{b:ae}{c:UInt8}
theorem tN(c:UInt8)(l:ae):∃ y ys,aB c l=y :: ys:=by
 cases l with
 | nil=>exact ⟨_,_,rfl⟩
 | cons x r =>
  rw [aB]
  cases aB c r with
  | nil=>exact ⟨_,_,rfl⟩
  | cons y ys=>exact if q:x=c then ⟨_,_,if_pos q⟩ else ⟨_,_,if_neg q⟩
theorem mS(c:UInt8)(r:ae):aB c (c :: r)=[] :: aB c r:=(tN c r).elim fun y w=>w.elim fun ys e=>by rw [aB,e];exact if_pos rfl
theorem lB{x:UInt8}{r y:ae}{ys:List ae}(h:x≠c)(e:aB c r=y :: ys):aB c (x :: r)=(x :: y) :: ys:=by rw [aB,e];exact if_neg h
theorem ky{r y:ae}{ys:List ae}(e:aB c r=y :: ys):∀ {seg:ae},c∉seg→aB c (seg++r)=(seg++y) :: ys:=by
 intro seg
 induction seg with
 | nil=>exact fun _=>e
 | cons x seg ih=>exact fun h=>lB (fun q=>h (q ▸ .head _)) (ih fun m=>h (.tail _ m))
theorem qY(p seg l:ae):(p++(seg++l)).toArray.extract p.length (p.length+seg.length)=seg.toArray:=by
 apply Array.ext'
 rw [Array.toList_extract]
 show ((p++(seg++l)).drop p.length).take _=seg
 rw [List.drop_left,Nat.add_sub_cancel_left,List.take_left]
theorem Gd:∀ (l p seg:ae) (parts:Array (Array UInt8)),c∉seg→bw (p++(seg++l)).toArray (eY c l (p.length+seg.length)) parts p.length=parts.toList++(aB c (seg++l)).map (·.toArray):=by
 intro l
 induction l with
 | nil =>
  intro p seg parts h
  have e:=qY p seg []
  rw [DB,EY,ky (ys:=[]) (y:=[]) rfl h,Array.toList_push,List.append_nil,show (p++seg).toArray.size=p.length+seg.length from List.length_append]
  rw [List.append_nil] at e
  rw [e];rfl
 | cons x r ih =>
  intro p seg parts h
  by_cases q:x=c
  · subst q
    have e:=ih (p++(seg++[x])) [] (parts.push seg.toArray) List.not_mem_nil
    rw [List.nil_append,List.append_assoc,List.append_assoc,List.singleton_append,List.length_append,List.length_append,Array.toList_push,List.append_assoc] at e
    rw [d4,if_pos rfl,CB,qY,ky (mS x r) h,List.append_nil]
    exact e
  · have e:=ih p (seg++[x]) parts fun m=>(List.mem_append.mp m).elim h fun m=>q (List.mem_singleton.mp m).symm
    rw [List.append_assoc,List.singleton_append,List.length_append] at e
    rw [d4,if_neg q]
    exact e
theorem vO(b:Array UInt8)(ps:List Nat):Bytes.between b 1 ps=bw b ps #[] 0:=by
 unfold Bytes.between
 generalize (#[]:Array (Array UInt8))=parts
 generalize (0:Nat)=last
 induction ps generalizing parts last with
 | nil=>rfl
 | cons p ps ih=>exact ih _ _
theorem vP:Bytes.between b.toArray 1 (eY c b 0)=(aB c b).map (·.toArray):=(vO _ _).trans (Gd b [] [] #[] List.not_mem_nil)
noncomputable def BR(b:Array UInt8)(c:UInt8)(acc:List Nat×Nat)(i:Nat):List Nat×Nat:=if i ≥ acc.2&&b.extract i (i+[c].toArray.size)==[c].toArray then (i :: acc.1,i+[c].toArray.size) else acc
theorem Ac:∀ (l p:ae) (acc:List Nat) (nx:Nat),nx≤p.length→((List.range' p.length l.length).foldl (BR (p++l).toArray c) (acc,nx)).1=(eY c l p.length).reverse++acc:=by
 intro l
 induction l with
 | nil=>exact fun _ _ _ _=>rfl
 | cons x r ih =>
  intro p acc nx h
  have e:BR (p++x :: r).toArray c (acc,nx) p.length=if x=c then (p.length :: acc,p.length+1) else (acc,nx):=by
   unfold BR
   rw [show (p++x :: r).toArray.extract p.length (p.length+[c].toArray.size)=[x].toArray from qY p [x] r,show decide (p.length ≥ (acc,nx).2)=true from decide_eq_true h,Bool.true_and]
   exact if q:x=c then by rw [if_pos q,q,if_pos (beq_self_eq_true _)];rfl else by rw [if_neg q,if_neg fun z=>q (List.cons.inj (congrArg Array.toList (eq_of_beq z))).1]
  have ih':=fun a n=>ih (p++[x]) a n
  rw [List.append_assoc,List.singleton_append,List.length_append] at ih'
  rw [List.length_cons,List.range'_succ,List.foldl_cons,e,d4]
  by_cases q:x=c
  · rw [if_pos q,if_pos q,List.reverse_cons,List.append_assoc];exact ih' _ _ (Nat.le_refl _)
  · rw [if_neg q,if_neg q];exact ih' _ _ (Nat.le_succ_of_le h)
theorem Fp:Bytes.occurrences b.toArray [c].toArray 0 b.toArray.size=eY c b 0:=by
 have e:=Ac (c:=c) b [] [] 0 (Nat.le_refl _)
 rw [List.append_nil] at e
 refine Eq.trans ?_ ((congrArg List.reverse e).trans (List.reverse_reverse _))
 show (List.foldl (BR b.toArray c) ([],0) (List.map (·+0) (List.range (b.length+1 - 1)))).1.reverse=_
 rw [show (fun x:Nat=>x+0)=_root_.id from rfl,List.map_id,Nat.add_sub_cancel,List.range_eq_range'];rfl
theorem ye:∀ (l:ae) (k:Nat),(eY c l k).length≤l.length:=by
 intro l
 induction l with
 | nil=>exact fun _=>Nat.le_refl _
 | cons x r ih=>exact fun k=>by rw [d4];exact if q:x=c then by rw [if_pos q];exact Nat.succ_le_succ (ih _) else by rw [if_neg q];exact Nat.le_succ_of_le (ih _)
theorem yA:∀ {l:ae} {k:Nat},eY c l k=[]→c∉l:=by
 intro l
 induction l with
 | nil=>exact fun _=>List.not_mem_nil
 | cons x r ih =>
  intro k h
  rw [d4] at h
  by_cases q:x=c
  · rw [if_pos q] at h;cases h
  · rw [if_neg q] at h;exact fun m=>(List.mem_cons.mp m).elim (fun z=>q z.symm) (ih h)
theorem z6:∀ b:ae,(aB c b).length≤b.length+1∧∀ p∈aB c b,p.length≤b.length:=by
 intro b
 induction b with
 | nil=>exact ⟨Nat.le_refl _,fun p m=>by rw [List.mem_singleton.mp m];exact Nat.le_refl _⟩
 | cons x r ih =>
  by_cases q:x=c
  · subst q
    rw [mS]
    exact ⟨Nat.succ_le_succ ih.1,fun p m=>(List.mem_cons.mp m).elim (fun e=>e▸Nat.zero_le _) fun m=>Nat.le_succ_of_le (ih.2 p m)⟩
  · refine (tN c r).elim fun y w=>w.elim fun ys e=>?_
    rw [lB q e]
    rw [e] at ih
    exact ⟨Nat.le_succ_of_le ih.1,fun p m=>(List.mem_cons.mp m).elim (fun z=>z▸Nat.succ_le_succ (ih.2 y (.head _))) fun m=>Nat.le_succ_of_le (ih.2 p (.tail _ m))⟩
end
section
variable{prog:Program}{w:World}{M:Model}{A:Around}{E:Value→Shared→Prop}{s:Shared}{Q:Value→Shared→Prop}{a:Addr}{b:ae}{c:UInt8}{R:Rt}{h:Heap}{ρ:List Addr}
theorem qN(h:s.heap.get? a=some (aJ b))(hz:b.length≤1000000)(q:Q (.int b.length (s.toks+1)) { s with toks:=s.toks+1+1 }):wpAny (model prog w) A (call (.builtin "len") [.ref a]) Q E s :=
 call_len_meets (n:=b.length) (bL h) F.slot_bytearray_len F.entry_bytearray_len (F.args_bytearray_len_1 _) (.of_wp (S:=fun _ R s=>s.heap.get? a=some (aJ b)∧R (.ok (.ret (.int b.length s.toks))) { s with toks:=s.toks+1 }) fun prog w A R s z=>bD z.1 (by kernel_rfl) (H9 (by kernel_rfl) (FP (a:=.done (.ret (.int b.length s.toks))) (by kernel_rfl) ⟨_,rfl,z.2⟩))) (Int.not_lt.mpr (Int.natCast_nonneg _)) (by omega) (fun Q' hq=>⟨h,hq⟩) q
noncomputable def ID(o:Option Nat):Sem PySem.Fin:=match o with
 | some i=>retInt i
 | none=>do
  rule s!"{Bytes.Kind.bytes.name}.{"index"}.not-found"
  if true then raiseError "ValueError" "subsection not found" else retInt (-1)
noncomputable def Ij(b:ae)(c:UInt8)(w:Int×Int):Option Nat:=(if w.2 - w.1 < [c].toArray.size then none else some (w.1.toNat,w.2.toNat)).bind fun x=>Bytes.find? b.toArray [c].toArray x.1 x.2
theorem vd(n:Nat):Bytes.window n none none=(0,(n:Int)):=by
 show ((0:Int),min (n:Int) (if (n:Int) < 0 then _ else (n:Int)))=_
 rw [if_neg (Int.not_lt.mpr (Int.natCast_nonneg n)),Int.min_self]
theorem wA{t u:Tok}(hm:c∈b)(q:∀ tk k,Q (.int (b.idxOf c) tk) { s with toks:=k }):wpAny (model prog w) A (call (.builtin "bytes.index") [.bytes b.toArray t,.bytes [c].toArray u]) Q E s:=by
 refine dJ F.slot_bytes_index (typeIs_bytes s _ t) F.entry_bytes_index (F.args_bytes_index_2 _ _) (cK (t':=ID (Ij b c (Bytes.window b.length none none))) (by kernel_rfl) ?_)
 have e:Ij b c (Bytes.window b.length none none)=some (b.idxOf c):=by
  rw [vd]
  show Option.bind (if (b.length:Int) - 0 < 1 then _ else _) _=_
  rw [if_neg (Int.not_lt.mpr (by have:=List.length_pos_of_mem hm;omega))]
  exact zz hm
 rw [e]
 exact wpAny_bind (wpAny_mkInt (wpAny_pure (q _ _)))
theorem uZ{bs:List ae}:∀ {s:Shared} {Q:List Value→Shared→Prop},(∀ b∈bs,b.length≤sizeLine)→(∀ vs tk,VRels R h ρ (bs.map .bytes) vs→Q vs { s with toks:=tk })→wpAny M A ((bs.map (·.toArray)).mapM (Bytes.Kind.bytes).new) Q E s:=by
 induction bs with
 | nil=>exact fun _ q=>by rw [List.map_nil,List.mapM_nil];exact wpAny_pure (q [] _ .nil)
 | cons b r ih =>
  intro s Q hx q
  rw [List.map_cons,List.mapM_cons]
  exact wpAny_bind (wpAny_mkBytes (wpAny_bind (ih (fun y hy=>hx y (.tail _ hy)) fun vs tk hv=>wpAny_pure (q _ _ (.cons (.bytes b _) hv)))) (hx b (.head _)))
noncomputable def Gg(b:ae)(t:Tok)(c:UInt8)(ps:List Nat):Sem PySem.Fin :=
 if ps.isEmpty then do
  rule "bytes.split.no-separator"; ret (← newList [.bytes b.toArray t])
 else do
  ret (← newList (← (Bytes.between b.toArray [c].toArray.size ps).mapM (Bytes.Kind.bytes).new))
theorem u7{t u:Tok}(hz:b.length≤1000)(q:∀ vs tk,VRels R h ρ ((aB c b).map .bytes) vs→Q (.ref s.heap.objs.size) { s with heap:=s.heap.push (bb vs.toArray 0),toks:=tk }) :
 wpAny (model prog w) A (call (.builtin "bytes.split") [.bytes b.toArray t,.bytes [c].toArray u]) Q E s:=by
 refine dJ F.slot_bytes_split (typeIs_bytes s _ t) F.entry_bytes_split (F.args_bytes_split_2 _ _) (cK (t':=Gg b t c ((Bytes.occurrences b.toArray [c].toArray 0 b.toArray.size).take (b.length+1))) (by kernel_rfl) ?_)
 rw [Fp,List.take_of_length_le (Nat.le_succ_of_le (ye b 0))]
 have bd:=z6 (c:=c) b
 by_cases hp:eY c b 0=[]
 · rw [hp]
   refine wpAny_bind (wpAny_rule (wpAny_bind (wpAny_newList (wpAny_pure (q [.bytes b.toArray t] s.toks ?_)) (aU (by show 1≤lM;decide)))))
   rw [show aB c b=[b] from List.append_nil b▸ky (r:=[]) (y:=[]) (ys:=[]) rfl (yA hp)]
   exact .cons (.bytes _ _) .nil
 · unfold Gg
   rw [if_neg (fun z=>hp (List.isEmpty_iff.mp z)),show [c].toArray.size=1 from rfl,vP]
   refine wpAny_bind (uZ (R:=R) (h:=h) (ρ:=ρ) (fun p hp=>Nat.le_trans (bd.2 p hp) (Nat.le_trans hz (by rw [sizeLine_eq];decide))) fun vs tk hv=>wpAny_bind (wpAny_newList (wpAny_pure (q vs tk hv)) ?_))
   rw [← hv.length,List.length_map,sizeLine_eq]
   exact Nat.le_trans bd.1 (Nat.le_trans (Nat.succ_le_succ hz) (by decide))
end
theorem sL(sep:ae):∀ (l:List ae) (k:Nat) (out:Array UInt8),
 (((l.map (·.toArray)).zipIdx (k+1)).foldl (fun (out:Array UInt8) (x:Array UInt8×Nat)=>(if x.2 > 0 then out++sep.toArray else out)++x.1) out).toList=out.toList++(l.map (sep++·)).flatten:=by
 intro l
 induction l with
 | nil=>exact fun _ out=>(List.append_nil _).symm
 | cons x r ih =>
  intro k out
  rw [List.map_cons,List.zipIdx_cons,List.foldl_cons,ih (k+1),if_pos (Nat.succ_pos k),Array.toList_append,Array.toList_append,List.append_assoc,List.append_assoc,List.map_cons,List.flatten_cons,List.append_assoc]
theorem jP(sep:ae):∀ (r:List ae) (x:ae),aA sep (x :: r)=x++(r.map (sep++·)).flatten:=by
 intro r
 induction r with
 | nil=>exact fun x=>(List.append_nil x).symm
 | cons y r ih=>exact fun x=>(congrArg (x++sep++·) (ih y)).trans (by rw [List.map_cons,List.flatten_cons,List.append_assoc,List.append_assoc])
theorem yQ(sep:ae)(l:List ae):Bytes.joined sep.toArray (l.map (·.toArray))=(aA sep l).toArray:=by
 apply Array.ext'
 cases l with
 | nil=>rfl
 | cons x r=>exact (sL sep r 0 (#[]++x.toArray)).trans ((congrArg (·++_) (Array.toList_append ..)).trans (jP sep r x).symm)
theorem wm:∀ (l:List ae) (k:Nat),(l.map (·.toArray)).foldl (fun (n:Nat) (x:Array UInt8)=>n+x.size) k=k+(l.map (·.length)).sum:=by
 intro l
 induction l with
 | nil=>exact fun k=>rfl
 | cons x r ih=>exact fun k=>(ih _).trans (by rw [List.map_cons,List.sum_cons,Nat.add_assoc];rfl)
theorem AX(sep:ae):∀ (r:List ae),(r.map (sep++·)).flatten.length=sep.length * r.length+(r.map (·.length)).sum:=by
 intro r
 induction r with
 | nil=>rfl
 | cons y r ih=>rw [List.map_cons,List.flatten_cons,List.length_append,ih,List.length_append,List.map_cons,List.sum_cons,List.length_cons,Nat.mul_succ];omega
theorem sz(sep:ae)(l:List ae):(aA sep l).length=sep.length * (l.length - 1)+(l.map (·.length)).sum:=by
 cases l with
 | nil=>rfl
 | cons x r=>rw [jP,List.length_append,AX,List.map_cons,List.sum_cons];exact Nat.add_left_comm ..
section
variable{prog:Program}{w:World}{M:Model}{A:Around}{E:Value→Shared→Prop}{s:Shared}{Q:Value→Shared→Prop}{a:Addr}{R:Rt}{h:Heap}{ρ:List Addr}
theorem yc{σ:Type}(n:Nat)(b:σ)(f:Nat→σ→Sem (ForInStep σ)):(forIn [:n] b f:Sem σ)=forIn (List.range' 0 n) b f:=by
 rw [Std.Legacy.Range.forIn_eq_forIn_range'];simp [Std.Legacy.Range.size]
theorem CS{σ:Type}{f:Nat→σ→Sem (ForInStep σ)}{st:Nat→σ}{n:Nat}{Q:σ→Shared→Prop}(turn:∀ i,i < n→∀ Q:ForInStep σ→Shared→Prop,Q (.yield (st (i+1))) s→wpAny M A (f i (st i)) Q E s):∀ k i,i+k=n→Q (st n) s→wpAny M A (forIn (List.range' i k) (st i) f) Q E s:=by
 intro k
 induction k with
 | zero=>exact fun i e q=>wpAny_pure ((show i=n from e).symm▸q)
 | succ k ih =>
  intro i e q
  rw [List.range'_succ,List.forIn_cons]
  exact wpAny_bind (turn i (by omega) _ (ih (i+1) (by omega) q))
theorem Ci{x:Array UInt8}{t:Tok}:Bytes.takeBufferQuiet? "bytes.join" (.bytes x t) 0=pure (some (x,none)):=by kernel_rfl
noncomputable def Ho(v:Value):Value×Option Value:=(v,none)
theorem yO{Q:Unit→Shared→Prop}:∀ {vs keep:List Value},Q () s→wpAny M A (Bytes.joinLetGo (vs.map Ho) keep) Q E s:=by
 intro vs
 induction vs with
 | nil=>exact fun q=>wpAny_pure q
 | cons v vs ih =>
  intro keep q
  refine wpAny_bind ?_
  show wpAny _ _ (letGo [v] _) _ _ _
  unfold letGo
  exact wpAny_bind (wpAny_holding (wpAny_point (FP (a:=()) (by rw [letGo];rfl) (ih q))))
theorem Bh:∀ {bs:List ae} {vs:List Value} (i:Nat),VRels R h ρ (bs.map .bytes) vs→((vs.take i).map Ho).any (·.1.onHeap)=false:=by
 intro bs
 induction bs with
 | nil=>exact fun i r=>r.nil' (by cases i<;>rfl)
 | cons b bs ih =>
  intro vs i r
  refine r.cons' fun x xs r1 r2=>r1.bytes' fun t=>?_
  cases i with
  | zero=>rfl
  | succ i=>exact ih i r2
theorem AN{β:Type}{us:Array Value}(h1:¬∃ x,us=#[x])(f:Value→β)(g:β):(match (generalizing:=false) us with | #[x]=>f x | _=>g)=g:=by
 rcases us with ⟨l⟩
 rcases l with _ | ⟨x,_ | ⟨y,l⟩⟩
 · rfl
 · exact absurd ⟨x,rfl⟩ h1
 · rfl
noncomputable def EL(bs:List ae)(us:Array Value)(i:Nat):Array (Array UInt8)×List (Value×Option Value):=(((bs.take i).map (·.toArray)).toArray,(us.toList.take i).map Ho)
theorem z3{bs:List ae}{us:Array Value}{i:Nat}{b:ae}{x:Value}(hb:bs[i]? = some b)(hx:us.toList[i]? = some x):((EL bs us i).1.push b.toArray,(EL bs us i).2++[(x,none)])=EL bs us (i+1):=by
 unfold EL
 rw [List.take_add_one,List.take_add_one,hb,hx,List.map_append,List.map_append,List.push_toArray];rfl
theorem z8{sep:ae}{t:Tok}{x:Value}{n:Nat}{bs:List ae}(h:s.heap.get? a=some (bb #[x] n))(hu:VRels R s.heap ρ (bs.map .bytes) [x])
 (q:∀ tk k,Q (.bytes (aA sep bs).toArray tk) { s with toks:=k }):wpAny (model prog w) A (Builtin.«bytes.join» ⟨[.bytes sep.toArray t,.ref a],[]⟩) (lU Q) E s:=by
 cases bs with
 | nil=>cases hu.length
 | cons b bs =>
  cases bs with
  | nil =>
   have r:aq R s.heap ρ (.bytes b) x:=hu.cons' (P:=fun xs=>∀ x,xs=[x]→aq R s.heap ρ (.bytes b) x) (fun y ys r _ x e=>(List.cons.inj e).1▸r) x rfl
   revert h
   exact r.bytes' fun tb h=>bD h (by kernel_rfl) (bD h (by kernel_rfl) (Ip (by kernel_rfl) (FP (a:=.done (.ret (.bytes b.toArray tb))) (by kernel_rfl) (q tb s.toks))))
  | cons _ _=>cases hu.length
theorem yS{sep:ae}{t:Tok}{us:Array Value}{n:Nat}{bs:List ae}(h:s.heap.get? a=some (bb us n))(hu:VRels R s.heap ρ (bs.map .bytes) us.toList)(hz:(aA sep bs).length≤1000000)
 (q:∀ tk k,Q (.bytes (aA sep bs).toArray tk) { s with toks:=k }):wpAny (model prog w) A (call (.builtin "bytes.join") [.bytes sep.toArray t,.ref a]) Q E s:=by
 refine dJ F.slot_bytes_join (typeIs_bytes s _ t) F.entry_bytes_join (F.args_bytes_join_2 _ _) ?_
 have hl:us.size=bs.length:=(Array.length_toList (xs:=us)).symm.trans (hu.length.symm.trans (List.length_map _))
 by_cases h1:∃ x,us=#[x]
 · exact h1.elim fun x e=>z8 (e▸h) (e▸hu) q
 unfold Builtin.«bytes.join» Bytes.joinM
 refine aE (a:=(Value.bytes sep.toArray t,Value.ref a)) (by kernel_rfl) (wpAny_bind (bD h (by kernel_rfl) (FP (a:=.ref a) (by kernel_rfl) (wpAny_bind (wpAny_seqItems h rfl ?_)))))
 refine bm_if_true rfl (cK (AN h1 _ _) (wpAny_bind (cK (yc _ _ _) (CS (st:=EL bs us) (n:=us.size) (fun i hi Q q=>?_) us.size 0 (Nat.zero_add _) ?_))))
 · have hb:bs[i]? = some bs[i]:=List.getElem?_eq_getElem (hl▸hi)
   refine (hu.get (List.getElem?_map ..▸congrArg (Option.map V.bytes) hb)).elim fun x hx=>?_
   have hg:us.getD i .none=x:=by rw [Array.getD_eq_getD_getElem?,← Array.getElem?_toList,hx.1];rfl
   refine wpAny_bind (wpAny_seqItems h rfl (bm_if_false ((congrArg (false||·) (Bh i hu)).trans rfl) ?_))
   rw [hg]
   have hx1:=hx.1
   revert hx1
   refine hx.2.bytes' fun tb hx1=>?_
   refine wpAny_bind (wpAny_holding (wpAny_of_eq Ci (wpAny_bind (wpAny_seqItems h rfl ?_))))
   refine bm_if_false (bne_self_eq_false _) (wpAny_pure (z3 hb hx1▸q))
 · have e:EL bs us us.size=((bs.map (·.toArray)).toArray,us.toList.map Ho):=by unfold EL;rw [List.take_of_length_le (Nat.le_of_eq hl.symm),List.take_of_length_le (Nat.le_of_eq Array.length_toList)]
   rw [e]
   have hsum:Array.foldl (fun (n:Nat) (x:Array UInt8)=>n+x.size) (sep.toArray.size * ((bs.map (·.toArray)).toArray.size - 1)) (bs.map (·.toArray)).toArray=(aA sep bs).length:=by
    rw [List.foldl_toArray,wm,sz,List.size_toArray,List.size_toArray,List.length_map]
   refine aE (a:=sep.toArray) rfl (bm_if_false ?_ ?_)
   · show Bytes.tooLong (Array.foldl (fun (n:Nat) (x:Array UInt8)=>n+x.size) (sep.toArray.size * ((bs.map (·.toArray)).toArray.size - 1)) (bs.map (·.toArray)).toArray)=false
     rw [hsum]
     exact decide_eq_false (Nat.not_lt.mpr (aU hz))
   · rw [List.toList_toArray,yQ]
     exact wpAny_bind (wpAny_mkBytes (wpAny_bind (wpAny_holding (wpAny_point (wpAny_bind (yO (wpAny_pure (q _ _))))))) (aU hz))
end
theorem uN{bt:Int→Int→Bool}{op:Int→Int→Int}(h:∀ x y,(if bt y x=true then y else x)=op x y)(num:Nat→Int):∀ k,num (argBest (fun i j=>bt (num i) (num j)) k)=((List.range' 1 k).map num).foldl op (num 0):=by
 intro k
 induction k with
 | zero=>rfl
 | succ k ih =>
  rw [List.range'_concat,List.map_append,List.foldl_append,← ih,Nat.one_mul,Nat.add_comm 1 k]
  show num (if _ then _ else _)=op _ _
  rw [← h]
  exact apply_ite num _ _ _
theorem uJ(ns:List Int):(List.range ns.length).map (fun i=>(ns[i]?).getD 0)=ns:=List.ext_getElem (by rw [List.length_map,List.length_range]) fun i h1 h2=>by
 rw [List.getElem_map,List.getElem_range,List.getElem?_eq_getElem h2];rfl
theorem BW(f:Nat→Int):∀ k,preSum f k=((List.range k).map f).sum:=by
 intro k
 induction k with
 | zero=>rfl
 | succ k ih=>rw [List.range_succ,List.map_append,List.sum_append_int,← ih];exact congrArg (preSum f k+·) (Int.add_zero _).symm
section
variable{R:Rt}{h:Heap}{ρ:List Addr}
theorem wM{ns:List Int}:∀ {us:List Value},VRels R h ρ (ns.map .int) us→IntsAre us ns∧∃ ps:List (Int×Tok),us=ps.map (fun p=>.int p.1 p.2)∧ps.map (·.1)=ns:=by
 induction ns with
 | nil=>exact fun r=>r.nil' ⟨.nil,[],rfl,rfl⟩
 | cons n ns ih=>exact fun r=>r.cons' fun x xs r1 r2=>r1.int' fun t=>⟨.cons _ _ (ih r2).1,(ih r2).2.elim fun ps e=>⟨(n,t) :: ps,congrArg (Value.int n t :: ·) e.1,congrArg (n :: ·) e.2⟩⟩
theorem FC(ps:List (Int×Tok)):numAt ps.toArray=fun i=>((ps.map (·.1))[i]?).getD 0:=funext fun i=>congrArg (Option.getD · 0) (by rw [List.getElem?_toArray,List.getElem?_map])
end
section
variable{R:Rt}{σ:List O}{Q:ag}{ρ:List Addr}{s:Shared}{A:Around}{Qr Er:Value→Shared→Prop}{i:Nat}{a:Addr}
theorem lb{ns:List Int}{us:Array Value}{n:Nat}(ho:s.heap.get? a=some (bb us n))(r:VRels R s.heap ρ (ns.map .int) us.toList):∃ xs:Array (Int×Tok),s.heap.IsList a (intItems xs)∧xs.size=ns.length∧numAt xs=fun i=>(ns[i]?).getD 0 :=
 (wM r).2.elim fun ps e=>⟨ps.toArray,(by rw [show intItems ps.toArray=us from Array.ext' (e.1▸Array.toList_map ..)];exact aM ho),e.2▸(List.length_map _).symm,e.2▸FC ps⟩
theorem tw(op:Int→Int→Int)(c:Int)(r:List Int):((List.range' 1 r.length).map fun i=>((c :: r)[i]?).getD 0).foldl op c=r.foldl op c :=
 congrArg (List.foldl op c) ((by rw [List.range'_eq_map_range,List.map_map];exact List.map_congr_left fun i _=>by show ((c :: r)[1+i]?).getD 0=_;rw [Nat.add_comm];rfl:_=(List.range r.length).map fun i=>(r[i]?).getD 0).trans (uJ r))
theorem xG(x y:Int):(if y > x then y else x)=max x y:=by rw [Int.max_def];split<;>split<;>omega
theorem wZ(x y:Int):(if y < x then y else x)=min x y:=by rw [Int.min_def];split<;>split<;>omega
theorem E7(x y:Int):(if decide (y > x)=true then y else x)=max x y:=by simp only [decide_eq_true_eq];exact xG x y
theorem Fj(x y:Int):(if decide (y < x)=true then y else x)=min x y:=by simp only [decide_eq_true_eq];exact wZ x y
theorem uM{c:Prop}[Decidable c]{i j n:Int}{t u:Tok}{h:Heap}(e:(if c then j else i)=n):aq R h ρ (.int n) (if c then .int j u else .int i t):=by
 subst e;split<;>exact .int _ _
theorem Ht(ok:aZ R){b:B}{args:List V}{ras:List Value}(hh:A.handled=none)(hg:A.guards=some [])(S:St R σ ρ s.heap)(hv:VRels R s.heap ρ args ras)(hp:Bi σ Q b args)(k:KQ R ρ s Q Qr):aT R.M A (call b.val ras) Qr Er s:=by
 induction hp with
 | lenB hl h=>exact hv.one' fun x r=>r.bytes' fun t=>am <| PySem.W.len_bytes (Nat.le_trans hl (by decide)) (k.int S rfl h)
 | lenL hi hl h=>exact hv.one' fun x r=>r.ref' fun a ea=>(S.obj _ _ _ ea hi).list' fun us n ho r=>am <| call_len_list (aM ho) (Int.lt_of_le_of_lt (Int.ofNat_le.mpr (sE r hl)) (by decide)) (k.int S (by rw [fH (i:=0) r]) h)
 | lenA hi hl h=>exact hv.one' fun x r=>r.ref' fun a ea=>am <| qN (S.obj _ _ _ ea hi).bar' hl (k.int S rfl h)
 | abs h=>exact hv.one' fun x r=>r.int' fun t=>am <| call_abs_int fun u tk=>k.int S (by split<;>omega) h
 | min e h=>exact hv.two' fun x y r r'=>r.int' fun t=>r'.int' fun u=>am <| min_two_ints hh fun h' tk kp=>k.keep S kp h (uM ((wZ _ _).trans e))
 | max e h=>exact hv.two' fun x y r r'=>r.int' fun t=>r'.int' fun u=>am <| max_two_ints hh fun h' tk kp=>k.keep S kp h (uM ((xG _ _).trans e))
 | @minL _ c n r xs hi hx e h =>
  subst hx
  exact hv.one' fun x r1=>r1.ref' fun a ea=>(S.obj _ _ _ ea hi).list' fun us n ho r2=>(lb ho r2).elim fun xs w=>am <| min_intList hh w.1 (w.2.1▸Nat.succ_pos _) fun v h' tk hP kp=>(intItems_at hP).elim fun t ev=>by
   rw [ev,w.2.2,w.2.1]
   exact k.keep S kp h ((((uN Fj (fun i=>((c :: r)[i]?).getD 0) r.length).trans (tw min c r)).trans e) ▸ .int _ _)
 | @maxL _ c n r xs hi hx e h =>
  subst hx
  exact hv.one' fun x r1=>r1.ref' fun a ea=>(S.obj _ _ _ ea hi).list' fun us n ho r2=>(lb ho r2).elim fun xs w=>am <| max_intList hh w.1 (w.2.1▸Nat.succ_pos _) fun v h' tk hP kp=>(intItems_at hP).elim fun t ev=>by
   rw [ev,w.2.2,w.2.1]
   exact k.keep S kp h ((((uN E7 (fun i=>((c :: r)[i]?).getD 0) r.length).trans (tw max c r)).trans e) ▸ .int _ _)
 | sum hi hx e h =>
  subst hx
  exact hv.one' fun x r=>r.ref' fun a ea=>(S.obj _ _ _ ea hi).list' fun us n ho r=>(lb ho r).elim fun xs w=>am <| sum_intListG hh w.1 fun h' tk t' kp=>by
   rw [w.2.2,w.2.1,BW,uJ]
   exact k.keep S kp h (e ▸ .int _ _)
 | isB h=>exact hv.two' fun x y r r'=>r.bytes' fun t=>r'.blt' (am <| call_isinstance_yes (typeIs_bytes _ _ _) F.isi_meta_bytes F.bm_sub (k.here S h (.bool _)))
 | isT h=>exact hv.two' fun x y r r'=>r.tup' fun a xs n sl e _=>r'.blt' (am <| IsiPair.tuple_bytes e rfl (k.tk S h (.bool _)))
 | isL hi h=>exact hv.two' fun x y r r'=>r.ref' fun a ea=>r'.blt' ((S.obj _ _ _ ea hi).list' fun us n ho _=>am <| IsiPair.list_int ho rfl (k.tk S h (.bool _)))
 | bytesA hi hl h=>exact hv.one' fun x r=>r.ref' fun a ea=>am <| ou (S.obj _ _ _ ea hi).bar' (aU hl) fun t n=>k.bytes S rfl h
 | @bytesL _ xs x hi hx hl h =>
  subst hx
  exact hv.one' fun y r=>r.ref' fun a ea=>(S.obj _ _ _ ea hi).list' fun us n ho r=>by
   have r:VRels R s.heap ρ ((x.map fun o=>(o.toNat:Int)).map .int) us.toList:=by rw [List.map_map];exact r
   refine am <| call_bytes_ints (vs:=us.toList) (aM ho) (wM r).1 (fun n m=>(List.mem_map.mp m).elim fun o w=>w.2▸⟨Int.natCast_nonneg _,Int.ofNat_lt.mpr o.toNat_lt⟩) ?_ hh fun h' t n kp=>?_
   · rw [← r.length,List.length_map,List.length_map];exact aU hl
   · refine k.keep S kp h ((?_:byteArr _=x.toArray) ▸ .bytes _ _)
     exact congrArg List.toArray ((List.map_map ..).trans ((List.map_congr_left fun o _=>UInt8.ofNat_toNat).trans (List.map_id x)))
 | bytesN h0 h1 e h=>exact hv.one' fun x r=>r.int' fun t=>am <| Int.toNat_of_nonneg h0▸oy (by omega) fun t n=>k.bytes S e h
 | bar0 h=>exact hv.nil' (vJ hg fun h' kp hat=>k.new S kp (.bar hat) h)
 | barB hl h=>exact hv.one' fun x r=>r.bytes' fun t=>vr hg (aU hl) fun h' kp hat=>k.new S kp (.bar hat) h
 | intI h=>exact hv.one' fun x r=>r.int' fun t=>am <| call_int_int (k.here S h (.int _ _))
 | @intB b n e h=>exact hv.one' fun x r=>r.bool' (am <| call_int_bool (k.int S ((by cases b<;>rfl:(if b=true then (1:Int) else 0)=_).trans e) h))
 | list hi hl h=>exact hv.one' fun x r=>r.ref' fun a ea=>(S.obj _ _ _ ea hi).list' fun us n ho r=>am <| call_list_seq _ (.inl rfl) ho rfl rfl (fun h' c' kp hat=>k.new S kp (.list hat (r.mono (Keeps.tups kp) (dF _))) h) (aU (sE r hl))
 | tuple hi hl h=>exact hv.one' fun x r=>r.ref' fun a ea=>(S.obj _ _ _ ea hi).list' fun us n ho r=>am <| call_tuple_list (aM ho) (fun h' kp=>k.keep S (Keeps.trans kp (Mine.Keeps.push _ _)) h (.tup (n:=0) (xs:=us.toList) (Heap.get?_push_size _ rfl) (r.mono (Keeps.trans kp (Mine.Keeps.push _ _)).tups (.refl _)))) (aU (sE r hl))
end
section
variable{α:Type}
theorem wc(xs:List α):∀ (k a:Nat),(List.range' a k).filterMap (fun i=>xs[i]?)=(xs.drop a).take k:=by
 intro k
 induction k with
 | zero=>exact fun _=>rfl
 | succ k ih =>
  intro a
  rw [List.range'_succ,List.filterMap_cons,ih (a+1)]
  by_cases h:a < xs.length
  · rw [List.getElem?_eq_getElem h,List.drop_eq_getElem_cons h,List.take_succ_cons]
  · rw [List.getElem?_eq_none (Nat.le_of_not_lt h),List.drop_eq_nil_of_le (Nat.le_of_not_lt h),List.drop_eq_nil_of_le (Nat.le_succ_of_le (Nat.le_of_not_lt h))];exact List.take_nil
theorem yr(a b:Nat):sliceRange (a:Int) (b:Int) 1=List.range' a (b - a):=by
 show (List.range (if (a:Int) < b then ((b:Int) - a+1 - 1) / 1 else 0).toNat).map _=_
 rw [Int.add_sub_cancel,Int.ediv_one,apply_ite Int.toNat,Int.toNat_sub,List.range'_eq_map_range,show (if (a:Int) < b then b - a else (0:Int).toNat)=b - a from if h:(a:Int) < b then if_pos h else (if_neg h).trans (Nat.sub_eq_zero_of_le (Nat.le_of_not_lt fun z=>h (Int.ofNat_lt.mpr z))).symm]
 exact List.map_congr_left fun k _=>(congrArg (fun z:Int=>(a+z).toNat) (Int.one_mul _)).trans (Int.toNat_natCast (a+k))
theorem zB(a b:Nat):((min a b:Nat):Int)=min (a:Int) b:=(Nat.le_total a b).elim (fun h=>by rw [Nat.min_eq_left h,Int.min_eq_left (Int.ofNat_le.mpr h)]) fun h=>by rw [Nat.min_eq_right h,Int.min_eq_right (Int.ofNat_le.mpr h)]
theorem uE(i n:Nat):max 0 (min (if (i:Int) < 0 then (i:Int)+n else i) (n:Int))=((min i n:Nat):Int):=by
 rw [if_neg (Int.not_lt.mpr (Int.natCast_nonneg i)),← zB];exact Int.max_eq_right (Int.natCast_nonneg _)
noncomputable def lN(o:Option Nat):Option Int:=o.map fun n=>(n:Int)
theorem rM(lo hi:Option Nat)(n:Nat):sliceBounds (lN lo) (lN hi) none n=(((min (lo.getD 0) n:Nat):Int),((min (hi.getD n) n:Nat):Int),1):=by
 have h1:∀ o:Option Nat,(match lN o with | none=>(0:Int) | some i=>max 0 (min (if i < 0 then i+n else i) (n:Int)))=((min (o.getD 0) n:Nat):Int):=fun o=>by
  cases o with
  | none=>exact congrArg Nat.cast (Nat.zero_min n).symm
  | some i=>exact uE i n
 have h2:∀ o:Option Nat,(match lN o with | none=>(n:Int) | some i=>max 0 (min (if i < 0 then i+n else i) (n:Int)))=((min (o.getD n) n:Nat):Int):=fun o=>by
  cases o with
  | none=>exact congrArg Nat.cast (Nat.min_self n).symm
  | some i=>exact uE i n
 exact Prod.ext (h1 lo) (Prod.ext (h2 hi) rfl)
theorem zS(xs:List α)(a:Nat):xs.drop (min a xs.length)=xs.drop a:=(Nat.le_total a xs.length).elim (fun h=>by rw [Nat.min_eq_left h]) fun h=>by rw [Nat.min_eq_right h,List.drop_eq_nil_of_le h,List.drop_length]
theorem Cy(b a n:Nat):min (min b n - min a n) (n - a)=min (b - a) (n - a):=(Nat.le_total a n).elim (fun h=>by rw [Nat.min_eq_left h,← Nat.sub_min_sub_right,Nat.min_assoc,Nat.min_self]) fun h=>by rw [Nat.sub_eq_zero_of_le h,Nat.min_zero,Nat.min_zero]
theorem sf(xs:List α)(lo hi:Option Nat) :
 (sliceRange (sliceBounds (lN lo) (lN hi) none xs.length).1 (sliceBounds (lN lo) (lN hi) none xs.length).2.1 (sliceBounds (lN lo) (lN hi) none xs.length).2.2).filterMap (fun i=>xs[i]?)=cP xs (lo.getD 0) hi:=by
 rw [rM,yr,wc,zS]
 cases hi with
 | none=>exact List.take_of_length_le (by rw [List.length_drop];show _≤min xs.length xs.length - _;rw [Nat.min_self];exact Nat.sub_le_sub_left (Nat.min_le_left ..) _)
 | some b =>
  show _=(xs.take b).drop _
  rw [List.drop_take]
  exact List.take_eq_take_iff.mpr (by rw [List.length_drop];exact Cy b _ _)
theorem ni(xs:List α)(a:Nat)(hi:Option Nat):(cP xs a hi).length≤xs.length:=by
 cases hi with
 | none=>exact List.length_drop▸Nat.sub_le ..
 | some b=>exact List.length_drop▸Nat.le_trans (Nat.sub_le ..) (List.length_take▸Nat.min_le_right ..)
end
theorem qt(b:ae)(lo hi:Option Nat):Bytes.sliced b.toArray (sliceBounds (lN lo) (lN hi) none b.length).1 (sliceBounds (lN lo) (lN hi) none b.length).2.1 (sliceBounds (lN lo) (lN hi) none b.length).2.2=(cP b (lo.getD 0) hi).toArray:=by
 rw [← sf b lo hi]
 exact congrArg (fun f:Nat→Option UInt8=>(List.filterMap f _).toArray) (funext fun x=>List.getElem?_toArray)
theorem fB(xs:Array Value)(lo hi:Option Nat):(slicePick xs (lN lo) (lN hi) none).toList=cP xs.toList (lo.getD 0) hi:=by
 have e:=sf xs.toList lo hi
 rw [Array.length_toList] at e
 rw [← e]
 exact congrArg (fun f:Nat→Option Value=>List.filterMap f _) (funext fun x=>Array.getElem?_toList.symm)
section
variable{R:Rt}{σ:List O}{Q:ag}{ρ ρ' own:List Addr}{s:Shared}{A:Around}{Qr Er:Value→Shared→Prop}{h h':Heap}
theorem VRels.slice{vs:List V}{xs:List Value}(r:VRels R h ρ vs xs)(a:Nat)(b:Option Nat):VRels R h ρ (cP vs a b) (cP xs a b):=by
 cases b with
 | none=>exact r.drop _
 | some b=>exact (r.take _).drop _
inductive bT(R:Rt)(h:Heap)(ρ:List Addr):List V→Value→Prop
 | nil:bT R h ρ [] .none
 | one {x v} (r:aq R h ρ x v):bT R h ρ [x] v
theorem bT.next{vs:List V}{v:Value}(r:bT R h ρ vs v)(x:lK ρ own h ρ' h'):bT R h' ρ' vs v:=bT.rec (motive:=fun vs v _=>bT R h' ρ' vs v) .nil (fun r=>.one (x.vrel r)) r
theorem bT.lo{vs:List V}{v:Value}{a:Nat}(r:bT R h ρ vs v)(l:Lo vs a):∃ o:Option Nat,o.getD 0=a∧IsPart v (lN o):=by
 induction l with
 | nil=>cases r;exact ⟨none,rfl,.none⟩
 | int e _=>cases r with | one r=>subst e;exact r.int' fun t=>⟨some _,rfl,.int _ _⟩
theorem bT.hi{vs:List V}{v:Value}{b:Option Nat}(r:bT R h ρ vs v)(l:Hi vs b):IsPart v (lN b):=by
 induction l with
 | nil=>cases r;exact .none
 | int e _=>cases r with | one r=>subst e;exact r.int' fun t=>.int _ _
end
section
variable{prog:Program}{w:World}{A:Around}{E:Value→Shared→Prop}{s:Shared}{Q:Value→Shared→Prop}{a sl:Addr}{b:ae}
theorem yv{l u:Value}{lo hi:Option Int}(hl:IsPart l lo)(hu:IsPart u hi)(h:s.heap.get? a=some (aJ b))(ho:s.heap.get? sl=some ⟨.type "slice",none,.fields #[l,u,.none],#[]⟩){z:ae}(hz:z.length≤sizeLine)
 (e:Bytes.sliced b.toArray (sliceBounds lo hi none b.length).1 (sliceBounds lo hi none b.length).2.1 (sliceBounds lo hi none b.length).2.2=z.toArray) (q:Q (.ref s.heap.objs.size) { s with heap:=s.heap.push (aJ z) }) :
 wpAny (model prog w) A («bytearray.__getitem__» ⟨[.ref a,.ref sl],[]⟩) (lU Q) E s:=by
 have fin:∀ {t:Sem PySem.Fin},t=(sliceIndices (rawPart lo) (rawPart hi) (rawPart none) b.length >>= fun z=>Bytes.newBytearray (Bytes.sliced b.toArray z.1 z.2.1 z.2.2) >>= ret)→wpAny (model prog w) A t (lU Q) E s:=fun {t} et=>cK et (aE (sliceIndices_raw lo hi none b.length (fun x=>nomatch x)) (by
  rw [e]
  exact wpAny_bind (wpAny_newObj_type (wpAny_pure q) (show z.toArray.size≤sizeLine from hz))))
 have rd:∀ {t:Sem PySem.Fin},w4 t = .ld sl∧w4 (kO t ⟨.type "slice",none,.fields #[l,u,.none],#[]⟩) = .ld sl→wpAny (model prog w) A (kO (kO t ⟨.type "slice",none,.fields #[l,u,.none],#[]⟩) ⟨.type "slice",none,.fields #[l,u,.none],#[]⟩) (lU Q) E s→wpAny (model prog w) A t (lU Q) E s:=fun z q=>bD ho z.1 (bD ho z.2 q)
 induction hl with
 | none=>induction hu with
  | none=>exact rd ⟨by kernel_rfl,by kernel_rfl⟩ (rd ⟨by kernel_rfl,by kernel_rfl⟩ (bD ho (by kernel_rfl) (bD h (by kernel_rfl) (fin (by kernel_rfl)))))
  | int i t=>exact rd ⟨by kernel_rfl,by kernel_rfl⟩ (rd ⟨by kernel_rfl,by kernel_rfl⟩ (bD ho (by kernel_rfl) (bD h (by kernel_rfl) (fin (by kernel_rfl)))))
 | int i t=>induction hu with
  | none=>exact rd ⟨by kernel_rfl,by kernel_rfl⟩ (rd ⟨by kernel_rfl,by kernel_rfl⟩ (bD ho (by kernel_rfl) (bD h (by kernel_rfl) (fin (by kernel_rfl)))))
  | int i t=>exact rd ⟨by kernel_rfl,by kernel_rfl⟩ (rd ⟨by kernel_rfl,by kernel_rfl⟩ (bD ho (by kernel_rfl) (bD h (by kernel_rfl) (fin (by kernel_rfl)))))
end
section
variable{R:Rt}{σ:List O}{Q:ag}{ρ:List Addr}{s:Shared}{A:Around}{Qr Er:Value→Shared→Prop}{i:Nat}{a:Addr}
theorem oz.getD{h:Heap}{o:Option V}{o':Option Value}{v:V}{x:Value}(r:oz R h ρ o o')(d:aq R h ρ v x):aq R h ρ (o.getD v) (o'.getD x):=oz.rec (motive:=fun o o' _=>aq R h ρ (o.getD v) (o'.getD x)) (fun q=>q) d r
theorem KQ.updL(k:KQ R ρ s Q Qr)(S:St R σ ρ s.heap){vs ws zs:List V}{ys:Array Value}{m n:Nat}{f:PySem.Obj→PySem.Obj}{ob:PySem.Obj}{v:V}{x:Value}(ei:σ[i]? = some (.list vs))(ea:ρ[i]? = some a)(ho:s.heap.get? a=some ob)(hf:f ob=bb ys m)
 (hr:VRels R s.heap ρ ws ys.toList) (e:ws=zs) (r:aq R s.heap ρ v x) (h:Q v (σ.set i (.list zs))):Qr x { s with heap:=s.heap.update a f,toks:=n } :=
 have hat:(s.heap.update a f).get? a=some (bb ys m):=hf▸Heap.get?_update_self f ho (by rw [hf];rfl)
 k.upd S ei ea (Heap.SameBut.update ..) (fun ht=>.list hat (e▸hr.mono ht (.refl _))) r h
theorem VRels.snoc{h:Heap}{vs:List V}{v:V}:∀ {xs:List Value},VRels R h ρ (vs++[v]) xs→∃ ys y,xs=ys++[y]∧VRels R h ρ vs ys∧aq R h ρ v y:=by
 induction vs with
 | nil=>exact fun r=>r.one' fun x r=>⟨[],x,rfl,.nil,r⟩
 | cons w vs ih=>exact fun r=>r.cons' fun x xs r1 r2=>(ih r2).elim fun ys z=>z.elim fun y z=>⟨x :: ys,y,congrArg (x :: ·) z.1,.cons r1 z.2.1,z.2.2⟩
theorem Cj(ys:List Value)(y:Value):(ys++[y]).toArray.eraseIdxIfInBounds ((ys++[y]).toArray.size - 1)=ys.toArray:=by
 apply Array.ext'
 rw [Array.toList_eraseIdxIfInBounds,List.size_toArray,List.length_append]
 show (ys++[y]).eraseIdx ys.length=ys
 rw [List.eraseIdx_append_of_length_le (Nat.le_refl _),Nat.sub_self];exact List.append_nil ys
theorem Cq(ys:List Value)(y:Value)(n:Nat):Obj.mapSeq (fun w=>w.eraseIdxIfInBounds ((ys++[y]).toArray.size - 1)) (bb (ys++[y]).toArray n)=bb ys.toArray (n+1):=by
 show bb ((ys++[y]).toArray.eraseIdxIfInBounds ((ys++[y]).toArray.size - 1)) (if (((ys++[y]).toArray.eraseIdxIfInBounds ((ys++[y]).toArray.size - 1)).size==(ys++[y]).toArray.size)=true then n else n+1)=_
 rw [Cj,if_neg (by rw [List.size_toArray,List.size_toArray,List.length_append,beq_iff_eq];exact Nat.ne_of_lt (Nat.lt_succ_self _))]
noncomputable def Gr(R:Rt):yg→Value
 | .own f=>.ref (R.fa f)
 | .lAppend=>.builtin "list.append" | .lExtend=>.builtin "list.extend" | .lPop=>.builtin "list.pop"
 | .bAppend=>.builtin "bytearray.append" | .bExtend=>.builtin "bytearray.extend"
 | .index=>.builtin "bytes.index" | .split=>.builtin "bytes.split" | .join=>.builtin "bytes.join"
 | .get=>.builtin "dict.get" | .bits=>.builtin "int.bit_length"
theorem Hz(ok:aZ R){t:yg}{o:V}{args:List V}{ro:Value}{ras:List Value}(hg:A.guards=some [])(S:St R σ ρ s.heap)(hr:aq R s.heap ρ o ro)(hv:VRels R s.heap ρ args ras)(hp:Me σ Q t o args)(k:KQ R ρ s Q Qr):aT R.M A (call (Gr R t) (ro :: ras)) Qr Er s:=by
 induction hp with
 | lApp hi hl e h=>exact hr.ref' fun a ea=>hv.one' fun x r=>(S.obj _ _ _ ea hi).list' fun us n ho q=>am <| call_meets PySem.F.slot_list_append ⟨_,ho,rfl⟩ PySem.F.entry_list_append (PySem.F.args_list_append_2 _ _) (list_append _ us n x (aU (sE q hl))) ⟨ho,k.updL S hi ea ho (f:=Obj.mapSeq fun z=>z.push x) (ys:=us.push x) rfl (by rw [Array.toList_push];exact q.append (.cons r .nil)) e .none h⟩
 | lExt hi hj n hl e h =>
  refine hr.ref' fun a ea=>hv.one' fun x r=>r.ref' fun b eb=>(S.obj _ _ _ ea hi).list' fun us n1 ho q=>(S.obj _ _ _ eb hj).list' fun ws n2 hw q2=>am ?_
  have hz:us.size+ws.size≤sizeLine:=by rw [fH (i:=0) q,fH (i:=0) q2];exact aU hl
  exact call_meets PySem.F.slot_list_extend ⟨_,ho,rfl⟩ PySem.F.entry_list_extend (PySem.F.args_list_extend_2 _ _) (AutoSeq1.list_extend_list_list_0 _ us n1 _ ws n2 (by rw [show Builtin.List.listTooLong (us.size+ws.size)=false from decide_eq_false (Nat.not_lt.mpr hz),Bool.and_false];exact Bool.false_ne_true) (Nat.le_trans (Nat.le_add_right ..) hz) (Nat.le_succ_of_le hz))
   ⟨ho,hw,k.updL S hi ea ho (f:=Obj.mapSeq fun z=>z++ws) (ys:=us++ws) rfl (by rw [Array.toList_append];exact q.append q2) e .none h⟩
 | lPop hi e hl h =>
  subst e
  refine hr.ref' fun a ea=>hv.nil' ((S.obj _ _ _ ea hi).list' fun us n ho q=>q.snoc.elim fun ys z=>z.elim fun y z=>am ?_)
  have e:us=(ys++[y]).toArray:=Array.ext' z.1
  subst e
  exact call_meets PySem.F.slot_list_pop ⟨_,ho,rfl⟩ PySem.F.entry_list_pop (PySem.F.args_list_pop_1 _) (PySem.MeetsSeq.list_pop_last _ _ n y (by rw [List.size_toArray,List.length_append,List.getElem?_toArray];exact List.getElem?_concat_length)
   (by rw [List.size_toArray,List.length_append,← z.2.1.length];exact aU hl)) ⟨ho,k.updL S hi ea ho (ys:=ys.toArray) (m:=n+1) (Cq ys y n) z.2.1 rfl z.2.2 h⟩
 | bApp hi hl hn e h=>subst hn;exact hr.ref' fun a ea=>hv.one' fun x r=>r.int' fun t=>qV hg (S.obj _ _ _ ea hi).bar' (Nat.lt_of_le_of_lt hl (by rw [sizeLine_eq];decide)) fun h' hs hat=>k.upd (n:=s.toks) S hi ea hs (fun _=>.bar (e▸hat)) .none h
 | bExt hi hl e h=>exact hr.ref' fun a ea=>hv.one' fun x r=>r.bytes' fun t=>qJ hg (S.obj _ _ _ ea hi).bar' (aU hl) fun h' hs hat=>k.upd (n:=s.toks) S hi ea hs (fun _=>.bar (e▸hat)) .none h
 | index hc hl e h=>exact hr.bytes' fun u=>hv.one' fun x r=>r.bytes' fun t=>am <| wA hc fun tk n=>k.int S e h
 | split hl e h=>exact hr.bytes' fun u=>hv.one' fun x r=>r.bytes' fun t=>am <| u7 (R:=R) (h:=s.heap) (ρ:=ρ) hl fun vs tk q=>k.list S e q h
 | join hi hx hl e hz h=>subst hx;exact hr.bytes' fun u=>hv.one' fun x r=>r.ref' fun a ea=>(S.obj _ _ _ ea hi).list' fun us n ho q=>am <| yS ho q (e▸hz) fun tk n=>k.bytes S e h
 | get hi e h=>exact hr.ref' fun a ea=>hv.two' fun x y r r'=>r.int' fun t=>(S.obj _ _ _ ea hi).idict' fun kvs hd hl hm=>am <| call_meetsIn PySem.F.slot_dict_get hd.mapOf.typeIs PySem.F.entry_dict_get (PySem.F.args_dict_get_3 _ _ _) (meets_dict_get_default (intKind R.prog R.w) _ (beq_self_eq_true _) (ok.notSys S ea) _) ⟨_,hd.mapOf,k.tk S h (e▸(hm _ trivial).getD r')⟩
 | bits hi e h=>exact hr.int' fun t=>hv.nil' (am <| call_gives PySem.F.slot_int_bit_length (typeIs_int s _ t) PySem.F.entry_int_bit_length (PySem.F.args_int_bit_length_1 _) (AutoIntG2.int_bit_length_int_0 _ t) (k.int S e h))
theorem xD{xs:Array Value}{n:Nat}{x:Value}(e:xs.toList[n]? = some x):xs[n]? = some x:=Array.getElem?_toList▸e
theorem Bj{n:Nat}{α:Type}{xs:List α}{x:α}(e:xs[n]? = some x)(hl:xs.length≤lM):(n:Int) < 2 ^ 63:=Int.lt_trans (Int.ofNat_lt.mpr (Nat.lt_of_lt_of_le (List.getElem?_eq_some_iff.mp e).1 hl)) (by decide)
theorem BV(n:Nat):((-1:Int)+n).toNat=n - 1:=by rw [Int.add_comm];exact Int.toNat_sub n 1
theorem H1(ok:aZ R){o k:V}{ro rk:Value}(S:St R σ ρ s.heap)(ho:aq R s.heap ρ o ro)(hk:aq R s.heap ρ k rk)(hp:Sb σ Q o k)(kq:KQ R ρ s Q Qr):wpAny R.M A (getItem ro rk) Qr Er s:=by
 induction hp with
 | bytes hn e hl h=>subst hn;exact ho.bytes' fun t=>hk.int' fun u=>PySem.W.getItem_bytes (Nat.le_trans hl (by decide)) (Int.natCast_nonneg _) (Int.ofNat_lt.mpr (List.getElem?_eq_some_iff.mp e).1) (kq.int S (congrArg (fun x:UInt8=>(x.toNat:Int)) (by rw [Int.toNat_natCast,List.getD_eq_getElem?_getD,e];rfl)) h)
 | tup hn e hl h =>
  subst hn
  exact ho.tup' fun a xs n sl ea r=>hk.int' fun u=>(r.get e).elim fun y w=>PyProof.Rows.getItem_tuple ⟨_,ea,rfl,_,rfl⟩ (Int.le_trans (by decide) (Int.natCast_nonneg _)) (Bj e hl) (by
   have hlt:(_:Nat) < xs.length:=(List.getElem?_eq_some_iff.mp w.1).1
   unfold seqIndex?
   rw [List.size_toArray]
   simp only [if_neg (Int.not_lt.mpr (Int.natCast_nonneg _)),decide_eq_true (Int.natCast_nonneg _),decide_eq_true (Int.ofNat_lt.mpr hlt),Bool.and_self,if_true,Int.toNat_natCast]) (List.getElem?_toArray▸w.1) (kq.here S h w.2)
 | list hj hn e hl h=>subst hn;exact ho.ref' fun a ea=>hk.int' fun u=>(S.obj _ _ _ ea hj).list' fun us m hob r=>(r.get e).elim fun y w=>wpAny_getItem_list (aM hob) (Int.natCast_nonneg _) (Bj e hl) (xD w.1) (kq.here S h w.2)
 | last hj e hl h =>
  refine ho.ref' fun a ea=>hk.int' fun u=>(S.obj _ _ _ ea hj).list' fun us m hob r=>?_
  rw [List.getLast?_eq_getElem?] at e
  have hlt:=(List.getElem?_eq_some_iff.mp e).1
  refine (r.get e).elim fun y w=>wpAny_getItem_list_neg (aM hob) (by decide) ?_ (by decide) ?_ (kq.here S h w.2)
  · rw [fH (i:=0) r];omega
  · exact xD (by rw [fH (i:=0) r,BV];exact w.1)
 | idict hj e h=>exact ho.ref' fun a ea=>hk.int' fun u=>(S.obj _ _ _ ea hj).idict' fun kvs hd hl hm=>(e▸hm _ trivial:oz R s.heap ρ (some _) _).some' (P:=fun o=>valueAt kvs _=o→_) (fun y r ey=>wpAny_getItem_of (knd:=intKind R.prog R.w) (beq_self_eq_true _) hd.mapOf ey (kq.tk S h r)) rfl
 | sdict hj e h=>exact ho.ref' fun a ea=>hk.str' fun u hs=>(S.obj _ _ _ ea hj).sdict' fun kvs hd hl hm=>(e▸hm _ hs:oz R s.heap ρ (some _) _).some' (P:=fun o=>valueAt kvs _=o→_) (fun y r ey=>wpAny_getItem_of (knd:=PySem.strKind R.prog R.w) (beq_self_eq_true _) hd.mapOf ey (kq.tk S h r)) rfl
end
section
variable{R:Rt}{σ:List O}{Q:ag}{ρ:List Addr}{s:Shared}{A:Around}{Qr Er:Value→Shared→Prop}{sl:Addr}
inductive dy(s:Shared)(ro:Value):Prop
 | mk {T:String} {id:String} (hT:s.TypeIs ro T) (hl:typeLookup (.type T) "__getitem__" = pure (some (.builtin id))):dy s ro
theorem dy.here{ro:Value}{Qr:Bool→Shared→Prop}(h:dy s ro)(q:Qr false s):wpAny R.M A (getitemInPython ro) Qr Er s:=by
 induction h with
 | mk hT hl=>exact wpAny_bind (wpAny_specialOf hT hl (wpAny_pure q))
theorem dy.list{a:Addr}{xs:Array Value}{n:Nat}(e:s.heap.get? a=some (bb xs n)):dy s (.ref a):=.mk (T := "list") ⟨_,e,rfl⟩ PySem.F.slot_list_getitem.lookup
theorem dy.dict{K:Type}[DecidableEq K]{knd:PySem.KeyKind R.prog R.w K}{a:Addr}{kvs:List (K×Value)}(d:s.heap.DictOf knd a kvs):dy s (.ref a):=.mk d.mapOf.typeIs PySem.F.slot_dict_getitem.lookup
theorem zD{o k:V}{ro:Value}(S:St R σ ρ s.heap)(ho:aq R s.heap ρ o ro)(hp:Sb σ Q o k):dy s ro:=by
 induction hp with
 | bytes=>exact ho.bytes' fun t=>.mk (typeIs_bytes _ _ _) FB.slot_bytes_getitem.lookup
 | tup=>exact ho.tup' fun a xs n sl e _=>.mk (T := "tuple") ⟨_,e,rfl⟩ PySem.F.slot_tuple_getitem.lookup
 | list hj=>exact ho.ref' fun a ea=>(S.obj _ _ _ ea hj).list' fun us m hob r=>.list hob
 | last hj=>exact ho.ref' fun a ea=>(S.obj _ _ _ ea hj).list' fun us m hob r=>.list hob
 | idict hj=>exact ho.ref' fun a ea=>(S.obj _ _ _ ea hj).idict' fun kvs hd _ _=>.dict hd
 | sdict hj=>exact ho.ref' fun a ea=>(S.obj _ _ _ ea hj).sdict' fun kvs hd _ _=>.dict hd
theorem Ad{o:V}{lo hi:List V}{ro:Value}(ok:aZ R)(S:St R σ ρ s.heap)(ho:aq R s.heap ρ o ro)(hp:Sl σ Q o lo hi):dy s ro:=by
 induction hp with
 | bytes=>exact ho.bytes' fun t=>.mk (typeIs_bytes _ _ _) FB.slot_bytes_getitem.lookup
 | list hj=>exact ho.ref' fun a ea=>(S.obj _ _ _ ea hj).list' fun us m hob r=>.list hob
 | bar hj=>exact ho.ref' fun a ea=>.mk (bL (S.obj _ _ _ ea hj).bar') F.slot_bytearray_getitem.lookup
 | scr=>exact ho.fn' (ok.scr.elim fun zs w=>w.elim fun xs w=>w.elim fun n w=>.list (S.base _ _ w.2.1))
theorem Bw{o:V}{ro:Value}(S:St R σ ρ s.heap)(ho:aq R s.heap ρ o ro)(hp:Rv σ Q o):dy s ro:=by
 induction hp with
 | list hj=>exact ho.ref' fun a ea=>(S.obj _ _ _ ea hj).list' fun us m hob r=>.list hob
theorem xT{o:V}{ro:Value}(S:St R σ ρ s.heap)(ho:aq R s.heap ρ o ro)(hp:Hk σ Q o):dy s ro:=by
 induction hp with
 | list hj=>exact ho.ref' fun a ea=>(S.obj _ _ _ ea hj).list' fun us m hob r=>.list hob
noncomputable abbrev oG(l u t:Value):PySem.Obj:=⟨.type "slice",none,.fields #[l,u,t],#[]⟩
theorem tg:seqItemTypes.contains "bytearray" = false:=by decide +kernel
theorem oT:seqItemTypes.contains "bytes" = false:=by decide +kernel
theorem KQ.cut(k:KQ R ρ s Q Qr)(S:St R σ ρ s.heap){a:Addr}{xs:Array Value}{m:Nat}{vs zs:List V}{l u st:Value}{lo hi so:Option Int}(ho:s.heap.get? a=some (bb xs m))(hs:s.heap.get? sl=some (oG l u st))(hl:IsPart l lo)(hu:IsPart u hi)(hs2:IsPart st so)(h0:so≠some 0)
 (hz:xs.size≤lM) (r:VRels R s.heap ρ vs (slicePick xs lo hi so).toList) (e:vs=zs) (h:Q (.ref σ.length) (σ++[.list zs])):wpAny R.M A (getItem (.ref a) (.ref sl)) Qr Er s :=
 wpAny_getItem_list_slice (aM ho) ⟨_,hs,rfl,rfl⟩ hl hu hs2 h0 (k.list S e r h) (aU hz)
theorem HQ{o:V}{ro:Value}{lo hi:List V}{l u:Value}(ok:aZ R)(S:St R σ ρ s.heap)(ho:aq R s.heap ρ o ro)(hs:s.heap.get? sl=some (oG l u .none))(hl:bT R s.heap ρ lo l)(hu:bT R s.heap ρ hi u)(hp:Sl σ Q o lo hi)(k:KQ R ρ s Q Qr):wpAny R.M A (getItem ro (.ref sl)) Qr Er s:=by
 induction hp with
 | @bytes x z lo hi a b ha hb hz e h =>
  refine ho.bytes' fun t=>(hl.lo ha).elim fun pl w=>getItem_meets (typeIs_bytes s _ t) oT FB.slot_bytes_getitem FB.entry_bytes_getitem (FB.args_bytes_getitem_2 _ _) (KBc.meets_slice2 x.toArray t sl w.2 (hu.hi hb)) ?_
  have ez:KBy.picked x.toArray (lN pl) (lN b)=z.toArray:=(qt x pl b).trans (congrArg List.toArray (w.1▸e))
  refine ⟨⟨_,hs,rfl,rfl⟩,?_,fun t' n=>?_⟩
  · rw [ez,← e];exact aU (Nat.le_trans (ni x a b) hz)
  · rw [ez];exact k.bytes S rfl h
 | list hj ha hb hz e h=>exact ho.ref' fun a ea=>(hl.lo ha).elim fun pl w=>(S.obj _ _ _ ea hj).list' fun us m hob r=>k.cut S hob hs w.2 (hu.hi hb) .none (fun x=>nomatch x) (sE r hz) (by rw [fB,w.1];exact r.slice _ _) e h
 | @bar i x z lo hi a b hj ha hb hz e h =>
  refine ho.ref' fun ad ea=>(hl.lo ha).elim fun pl w=>?_
  have hx:=(S.obj _ _ _ ea hj).bar'
  exact getItem_meets (bL hx) tg F.slot_bytearray_getitem F.entry_bytearray_getitem (F.args_bytearray_getitem_2 _ _) (.of_wp (S:=fun A R' s'=>s'=s∧R' (.ok (.ret (.ref s.heap.objs.size))) { s with heap:=s.heap.push (aJ z) }) fun prog w2 A R' s' q =>
   q.1▸wpAny_mono (yv (Q:=fun v s'=>R' (.ok (.ret v)) s') w.2 (hu.hi hb) hx hs (aU (Nat.le_trans (e▸ni x a b) hz)) ((qt x pl b).trans (congrArg List.toArray (w.1▸e))) q.2) (fun fin s' z=>z.ok) fun _ _ z=>z)
   ⟨rfl,k.new (n:=s.toks) S (Mine.Keeps.push _ _) (.bar (Heap.get?_push_size _ rfl)) h⟩
 | scr ha hb h=>exact ho.fn' (ok.scr.elim fun zs w=>w.elim fun xs w=>w.elim fun n w=>(hl.lo ha).elim fun pl w2=>k.cut S (S.base _ _ w.2.1) hs w2.2 (hu.hi hb) .none (fun x=>nomatch x) (by rw [fH (i:=0) (w.2.2 s.heap ρ),List.length_map];exact Nat.le_trans w.1 (by decide)) (by rw [fB,w2.1];exact (w.2.2 s.heap ρ).slice _ _) rfl (h zs w.1))
theorem H3{o:V}{ro:Value}{t:Tok}(S:St R σ ρ s.heap)(ho:aq R s.heap ρ o ro)(hs:s.heap.get? sl=some (oG .none .none (.int (-1) t)))(hp:Rv σ Q o)(k:KQ R ρ s Q Qr):wpAny R.M A (getItem ro (.ref sl)) Qr Er s:=by
 induction hp with
 | list hj hz e h=>exact ho.ref' fun a ea=>(S.obj _ _ _ ea hj).list' fun us m hob r=>k.cut S hob hs .none .none (.int _ _) (by decide) (sE r hz) (by rw [krv_pick];exact r.reverse) e h
theorem uu(n:Nat):sliceBounds none (some (-1)) none n=sliceBounds none (lN (some (n - 1))) none n:=by
 refine Prod.ext rfl (Prod.ext ?_ rfl)
 show max 0 (min (if (-1:Int) < 0 then (-1:Int)+n else _) (n:Int))=max 0 (min (if ((n - 1:Nat):Int) < 0 then _ else ((n - 1:Nat):Int)) (n:Int))
 rw [if_pos (by decide),if_neg (Int.not_lt.mpr (Int.natCast_nonneg _))]
 cases n with
 | zero=>rfl
 | succ n=>exact congrArg (fun x:Int=>max 0 (min x _)) (by rw [Int.add_comm];exact Int.add_sub_cancel (n:Int) 1)
theorem Gs{o:V}{ro:Value}{t:Tok}(S:St R σ ρ s.heap)(ho:aq R s.heap ρ o ro)(hs:s.heap.get? sl=some (oG .none (.int (-1) t) .none))(hp:Hk σ Q o)(k:KQ R ρ s Q Qr):wpAny R.M A (getItem ro (.ref sl)) Qr Er s:=by
 induction hp with
 | @list i vs zs hj hz e h =>
  refine ho.ref' fun a ea=>(S.obj _ _ _ ea hj).list' fun us m hob r=>k.cut (vs:=vs.dropLast) S hob hs .none (.int _ _) .none (fun x=>nomatch x) (sE r hz) ?_ e h
  rw [show slicePick us none (some (-1)) none=slicePick us (lN none) (lN (some (us.size - 1))) none by unfold slicePick;rw [uu];rfl,fB,List.dropLast_eq_take,← fH (i:=0) r]
  exact r.take _
end
inductive GQ(R:Rt)(c a:Nat):Prop
 | meth {f} (e:fZ c a=some f) (h:findIn R.K (.ref (R.ca c)) (R.nm a)=some (some (.ref (R.fa f)))) (t:typeIn R.K (.ref (R.fa f))=some (.type "function"))
 | prop {f} (e:fZ c a=none) (e2:gL c a=some f)
 | no (e:fZ c a=none) (e2:gL c a=none) (h:findIn R.K (.ref (R.ca c)) (R.nm a)=some none)
noncomputable def Hn(R:Rt)(c a:Nat):Bool:=Option.rec (Option.rec (findIn R.K (.ref (R.ca c)) (R.nm a)==some none) (fun _=>true) (gL c a)) (fun f=>findIn R.K (.ref (R.ca c)) (R.nm a)==some (some (.ref (R.fa f)))&&typeIn R.K (.ref (R.fa f))==some (.type "function")) (fZ c a)
theorem Fh{R:Rt}{c a:Nat}(h:Hn R c a=true):GQ R c a:=by
 unfold Hn at h
 cases e:fZ c a with
 | some f =>
  rw [e] at h
  have h:=(Bool.and_eq_true _ _).mp h
  exact .meth e (eq_of_beq h.1) (eq_of_beq h.2)
 | none =>
  rw [e] at h
  cases e2:gL c a with
  | none=>rw [e2] at h;exact .no e e2 (eq_of_beq h)
  | some f=>exact .prop e e2
inductive zH(R:Rt)(c a f:Nat):Prop
 | mk {p rest} (h:findIn R.K (.ref (R.ca c)) (R.nm a)=some (some (.ref p))) (g:specialIn R.K (.ref p) "__get__" = some (some (.builtin "property.__get__"))) (t:takesIn R.K (.ref p)=some true) (r:recIn R.K p "property" = some (.ref (R.fa f) :: rest)):zH R c a f
noncomputable def rY(d:Data):ClassData:=match d with
 | .cls cd=>cd
 | _=>{ name := "",bases:=[],mro:=[],ns:=0 }
noncomputable def GB(o:PySem.Obj):Option PySem.Obj:=some ⟨o.cls,o.dict,.cls { rY o.data with hasDict:=true },o.slots⟩
structure oO(R:Rt)(c:Nat):Prop where
 dict:R.K.lookup (R.ca c)=GB ((R.K.lookup (R.ca c)).getD default)
 ga:findIn R.K (.ref (R.ca c)) "__getattribute__" = some (some (.builtin "object.__getattribute__"))
 gx:findIn R.K (.ref (R.ca c)) "__getattr__" = some none
 sa:findIn R.K (.ref (R.ca c)) "__setattr__" = some (some (.builtin "object.__setattr__"))
 po:plainOver R.K (R.ca c)=true
 mkd:makesIn R.K (R.ca c)=true
 keep:keepIn R.K (.ref (R.ca c))=true
 init:∀ f,xA c=some f→findIn R.K (.ref (R.ca c)) "__init__" = some (some (.ref (R.fa f)))∧typeIn R.K (.ref (R.fa f))=some (.type "function")
 nms:(List.range R.nn).all (Hn R c)=true
structure yt(R:Rt):Prop where
 cls:∀ c,0 < c→c < R.nc→oO R c
 init:∀ c f,xA c=some f→0 < c∧c < R.nc
 prop:∀ c a f,gL c a=some f→zH R c a f
theorem oO.nm{R:Rt}{c a:Nat}(C:oO R c)(h:a < R.nn):GQ R c a:=Fh (List.all_eq_true.mp C.nms a (List.mem_range.mpr h))
theorem oO.no{R:Rt}{c a:Nat}(C:oO R c)(h:a < R.nn)(e:fZ c a=none)(e2:gL c a=none):findIn R.K (.ref (R.ca c)) (R.nm a)=some none:=by
 cases C.nm h with
 | meth q=>rw [e] at q;cases q
 | prop _ q=>rw [e2] at q;cases q
 | no _ _ h=>exact h
section
variable{R:Rt}{σ:List O}{ρ:List Addr}{s:Shared}{A:Around}{h:Heap}{a:Nat}{es:List (Nat×V)}{ds:List DictEntry}
theorem tX(ok:aZ R){k:Nat}{t:Tok}(ha:a < R.nn)(hk:k < R.nn):(Value.str (R.nm k) t).isStr (R.nm a)=(a==k) :=
 (show (R.nm k==R.nm a)=(a==k) from Bool.eq_iff_iff.mpr ⟨fun e=>beq_iff_eq.mpr (ok.inj _ _ ha hk (eq_of_beq e).symm),fun e=>beq_iff_eq.mpr (congrArg R.nm (eq_of_beq e).symm)⟩)
theorem dj.refKey(r:dj R h ρ es ds):ds.any (·.refKey)=false:=dj.rec (motive:=fun _ ds _=>ds.any (·.refKey)=false) rfl (fun _ _ _ q=>q) r
theorem dj.len(r:dj R h ρ es ds):ds.length=es.length:=dj.rec (motive:=fun es ds _=>ds.length=es.length) rfl (fun _ _ _ q=>congrArg (·+1) q) r
theorem dj.look(ok:aZ R)(ha:a < R.nn)(r:dj R h ρ es ds):∃ o,getL (R.nm a) ds=some o∧oz R h ρ (es.lookup a) o:=by
 have key:∃ o:Option DictEntry,ds.find? (·.key.isStr (R.nm a))=o∧oz R h ρ (es.lookup a) (o.map (·.val)):=dj.rec (motive:=fun es ds _=>∃ o:Option DictEntry,ds.find? (·.key.isStr (R.nm a))=o∧oz R h ρ (es.lookup a) (o.map (·.val))) ⟨none,rfl,.none⟩ (fun {k v hs t x es ds} hk r _ q=>by
  rw [List.lookup_cons,List.find?_cons,tX ok ha hk]
  cases a==k with
  | true=>exact ⟨_,rfl,.some r⟩
  | false=>exact q) r
 refine key.elim fun o w=>⟨o.map (·.val),?_,w.2⟩
 unfold getL
 rw [w.1]
 cases o with
 | none=>rw [r.refKey];rfl
 | some e=>rfl
theorem dj.put(ok:aZ R)(ha:a < R.nn){v:V}{x:Value}(hx:aq R h ρ v x)(hs:Int)(t:Tok)(r:dj R h ρ es ds):dj R h ρ (putL a v es) (PySem.W.putL (R.nm a) hs (.str (R.nm a) t) x ds) :=
 dj.rec (motive:=fun es ds _=>dj R h ρ (putL a v es) (PySem.W.putL (R.nm a) hs (.str (R.nm a) t) x ds)) (.cons ha hx .nil) (fun {k w hs' t' y es ds} hk r rs q=>by
  unfold PySem.W.putL
  show dj R h ρ (if (a==k)=true then _ else _) _
  rw [tX ok ha hk]
  cases a==k with
  | true=>exact .cons hk hx rs
  | false=>exact .cons hk r q) r
theorem yK{α:Type}[BEq α][LawfulBEq α](a:α)(v:V):∀ es:List (α×V),(putL a v es).map (·.1)=if (es.map (·.1)).contains a then es.map (·.1) else es.map (·.1)++[a]:=by
 intro es
 induction es with
 | nil=>rfl
 | cons p r ih =>
  show List.map _ (if (a==p.1)=true then _ else _)=_
  rw [List.map_cons,List.contains_cons]
  cases a==p.1 with
  | true=>rfl
  | false=>rw [Bool.false_or,if_neg Bool.false_ne_true,List.map_cons,ih,apply_ite (p.1 :: ·)];rfl
theorem vS{α:Type}[BEq α][LawfulBEq α]{a:α}{v:V}{es:List (α×V)}(h:(es.map (·.1)).Nodup):((putL a v es).map (·.1)).Nodup:=by
 rw [yK]
 by_cases q:(es.map (·.1)).contains a=true
 · rw [if_pos q];exact h
 · rw [if_neg q]
   exact List.nodup_append.mpr ⟨h,by simp,fun x hx y hy e=>q (List.contains_iff_mem.mpr (List.mem_singleton.mp hy▸e▸hx))⟩
theorem A3{α:Type}[BEq α](a:α)(v:V):∀ es:List (α×V),(putL a v es).length≤es.length+1:=by
 intro es
 induction es with
 | nil=>exact Nat.le_refl _
 | cons p r ih =>
  show List.length (if (a==p.1)=true then _ else _)≤_
  cases a==p.1 with
  | true=>exact Nat.le_succ _
  | false=>exact Nat.succ_le_succ ih
theorem qd{v:V}{rv:Value}(r:aq R h ρ v rv):handedIn rv=true :=
 aq.casesOn (motive_1:=fun _ rv _=>handedIn rv=true) r rfl (fun _=>rfl) (fun _ _=>rfl) (fun _ _=>rfl) (fun _ _ _=>rfl) (fun _ _=>rfl) (fun _=>rfl) (fun _=>rfl) (fun _=>rfl) fun b _ e=>e▸B.rec (by kernel_rfl) (by kernel_rfl) (by kernel_rfl) (by kernel_rfl) (by kernel_rfl) (by kernel_rfl) (by kernel_rfl) (by kernel_rfl) (by kernel_rfl) (by kernel_rfl) (by kernel_rfl) (by kernel_rfl) (by kernel_rfl) b
inductive Bf(R:Rt)(ρ:List Addr)(h:Heap)(c d:Nat)(es:List (Nat×V))(a:Addr):Prop
 | mk {dx ds n} (h0:0 < c) (h1:c < R.nc) (ed:ρ[d]? = some dx) (r:dj R h ρ es ds) (nd:(es.map (·.1)).Nodup) (ho:h.get? dx=some (dictOf ds n)) (I:PySem.W.InstAt h a { cls:=.ref (R.ca c),dict:=some dx,data:=.plain } (R.ca c) (some (dictOf ds n))):Bf R ρ h c d es a
theorem mh{i c d:Nat}{a:Addr}(S:St R σ ρ h)(ea:ρ[i]? = some a)(e:σ[i]? = some (.inst c d))(ed:σ[d]? = some (.attrs es)):Bf R ρ h c d es a :=
 (S.obj _ _ _ ea e).inst' fun dx h0 h1 hd hi=>(S.obj _ _ _ hd ed).attrs' fun ds n ho r z=>.mk h0 h1 hd r z ho ⟨hi,rfl,rfl,ho⟩
noncomputable def qS(dx:Addr)(name:Str)(x:Value):Sem PySem.Fin:=nsSet dx name x >>= fun _=>lookBehind dx (some (.str name 0)) >>= fun _=>ret .none
theorem x3{name:Str}{hs hs':Int}{k k' x:Value}:∀ ds:List DictEntry,(PySem.W.putL name hs k x ds).length=(PySem.W.putL name hs' k' x ds).length:=by
 intro ds
 induction ds with
 | nil=>rfl
 | cons e r ih =>
  unfold PySem.W.putL
  split
  · rfl
  · exact congrArg (·+1) ih
theorem sD{M:Model}{Er:Value→Shared→Prop}{dx:Addr}{n:Nat}{name:Str}{x:Value}{Q:PySem.Fin→Shared→Prop}(ho:s.heap.get? dx=some (dictOf ds n))(hr:ds.any (·.refKey)=false)(hz:(PySem.W.putL name 0 (.str name 0) x ds).length≤1000)
 (k:∀ h' hs t,h'.get? dx=some (dictOf (PySem.W.putL name hs (.str name t) x ds) (putN name ds n))→Heap.SameBut dx s.heap h'→Q (.done (.ret .none)) { s with heap:=h',toks:=s.toks+1 }):wpAny M A (qS dx name x) Q Er s:=by
 refine wpAny_bind ?_
 unfold nsSet
 refine wpAny_bind (wpAny_bind (wpAny_askSetting (wpAny_pure (wpAny_bind (wpAny_mkText (wpAny_bind (wpAny_loadPart ho ?_)))))))
 have c2:aRefKeyMayBeTheName name ds.toArray=false:=by rw [aRefKeyMayBeTheName_at,List.any_toArray,List.any_toArray,hr,Bool.and_false]
 show wpAny _ _ (if aRefKeyMayBeTheName name ds.toArray=true then _ else _) _ _ _
 rw [c2]
 have pn:=putName_dict name (PyData.keyHash M.w.params name) (.str name s.toks) x ds n
 have D:(s.heap.update dx (Obj.putName name (PyData.keyHash M.w.params name) (.str name s.toks) x)).get? dx=some (dictOf (PySem.W.putL name (PyData.keyHash M.w.params name) (.str name s.toks) x ds) (putN name ds n)):=pn▸Heap.get?_update_self _ ho (by rw [pn];rfl)
 exact wpAny_updatePart ho (wpAny_bind (wpAny_lookBehind D (pastItsLine_dict (by rw [List.size_toArray,sizeLine_eq,x3];exact Nat.le_trans hz (by decide))) (wpAny_pure (k _ _ _ D (Heap.SameBut.update ..)))))
theorem G7(ok:aZ R)(pk:yt R){Q:bn}{o v:V}{a:Nat}{ro x:Value}{Qr:Unit→Shared→Prop}{Er:Value→Shared→Prop}(S:St R σ ρ s.heap)(ha:a < R.nn)(ho:aq R s.heap ρ o ro)(hx:aq R s.heap ρ v x)(hp:Sa σ Q o a v)(k:KO R ρ s Q Qr):wpAny R.M A (setAttr ro (R.nm a) x) Qr Er s:=by
 induction hp with
 | @mk i c d a v es es' hi hd e hpr hm hl h =>
  refine ho.ref' fun ad ea=>?_
  induction mh S ea hi hd with
  | @mk dx ds n h0 h1 ed r nd hob I =>
   have C:=pk.cls c h0 h1
   have K:=ok.X.keeps S.base
   refine set_plain K I C.sa (osa_open (s:={ s with toks:=s.toks+1 }) K I C.po (name:=R.nm a) (r:=none) (by unfold takerIn;rw [C.no ha hm hpr];rfl) fun b=>?_)
   refine bD I.at_ (by kernel_rfl) (bD (K _ _ C.dict) (by kernel_rfl) ?_)
   have rp:=fun hs t=>r.put ok ha hx hs t
   exact cK (t':=qS dx (R.nm a) x) (by kernel_rfl) (sD hob r.refKey ((by rw [(rp 0 0).len];exact Nat.le_trans (A3 a v es) (Nat.le_trans (Nat.succ_le_succ (Nat.le_of_ble_eq_true hl)) (by decide)))) fun h' hs t D sb=>k.upd S hd ed sb (fun ht=>.attrs D (e▸(rp hs t).mono ht (.refl _)) (e▸vS nd)) h)
end
noncomputable def Ok(R:Rt)(call:aw)(lx:bN)(d n:Nat)(e:E)(pe:PySem.Expr):Prop :=
 ∀ {env σ Q X A l renv ρ s Qr Er},bW call e env σ Q X→br R d n A l→bM R lx l renv env σ ρ s.heap→KQ R ρ s Q Qr→KX R l ρ [] s X Er→aT R.M A (eval pe renv) Qr Er s
noncomputable def wY(R:Rt)(call:aw)(lx:bN)(d n:Nat)(e:E)(pe:PySem.Expr):Prop :=
 ∀ {env σ Q X A l renv ρ s Qr Er},vcT call e env σ Q X→br R d n A l→bM R lx l renv env σ ρ s.heap→KB R ρ s Q Qr→KX R l ρ [] s X Er→aT R.M A (isTrue pe renv (eval pe renv)) Qr Er s
structure Pl(pe:PySem.Expr):Prop where
 st:∀ r env,starEach (pe :: r) env=(false,eval pe env) :: starEach r env
 be:∀ op,behindInMarks op pe=false
 su:∀ o i,subscripted pe false o i=operate [o,i] (getItem o i)
 ba:∀ a env m,attributeBase pe a env m=m
 fo:∀ env x,foldedSetIterable pe env x=pure x
structure Ex(R:Rt)(call:aw)(lx:bN)(d n:Nat)(e:E)(pe:PySem.Expr):Prop where
 ev:Ok R call lx d n e pe
 te:wY R call lx d n e pe
 pl:Pl pe
inductive jf(R:Rt)(call:aw)(lx:bN)(d n:Nat):List E→List PySem.Expr→Prop
 | nil:jf R call lx d n [] []
 | cons {e pe es pes} (h:Ex R call lx d n e pe) (r:jf R call lx d n es pes):jf R call lx d n (e :: es) (pe :: pes)
section
variable{R:Rt}{call:aw}{lx:bN}{d n:Nat}{l:List Env}{renv:Env}{env:au}{σ:List O}{Q:ag}{X:ak}{ρ:List Addr}{s:Shared}{A:Around}{Qr Er:Value→Shared→Prop}
theorem KQ.boolQ(k:KQ R ρ s Q Qr):KB R ρ s (xh Q) fun b=>Qr (.bool b):=fun b _ _ _ o q=>k _ _ _ _ _ o (.bool b) q
theorem KB.kc{Q:aX}{Qr:Bool→Shared→Prop}(k:KB R ρ s Q Qr){Qv:Value→Shared→Prop}(f:∀ b s',Qr b s'→Qv (.bool b) s'):KC R ρ s σ Q Qv:=fun b s' o q=>f b s' (k _ _ _ _ o q)
theorem AS{v:V}{Q:aX}{G:Prop}(h:lS v σ Q)(k:∀ b,v = .bool b→Q b σ→G):G:=by
 cases v with
 | bool b=>exact k b rfl h
 | _=>exact h.elim
theorem kJ{v:V}{rv:Value}{h:Heap}{Q:aX}{Qr:Bool→Shared→Prop}(r:aq R h ρ v rv)(hp:lS v σ Q)(k:∀ b,v = .bool b→Q b σ→Qr b s):wpAny R.M A (truthy rv) Qr Er s :=
 AS hp fun b e q=>(e▸r:aq R h ρ (.bool b) rv).bool' (wpAny_truthy_bool (k b e q))
noncomputable def eL(lx:bN)(i:Nat)(x:Str):Bool:=lx.nm[i]?==some (some x)&&(lx.names.lookup x==some .local||lx.names.lookup x==some .cell)&&x != "__debug__"
noncomputable def gN(R:Rt)(v:V)(rv:Value):Bool :=
 V.casesOn (motive_1:=fun _=>Bool) v (rv == .none) (fun b=>rv == .bool b) (fun i=>Value.casesOn (motive:=fun _=>Bool) rv false false false (fun _=>false) (fun j _=>j==i) (fun _ _=>false) (fun _ _=>false) (fun _ _=>false) (fun _=>false) (fun _=>false) (fun _=>false))
  (fun b=>Value.casesOn (motive:=fun _=>Bool) rv false false false (fun _=>false) (fun _ _=>false) (fun _ _=>false) (fun _ _=>false) (fun a _=>a==b.toArray) (fun _=>false) (fun _=>false) (fun _=>false))
  (fun i=>Nat.blt i R.nn&&Value.casesOn (motive:=fun _=>Bool) rv false false false (fun _=>false) (fun _ _=>false) (fun _ _=>false) (fun a _=>a==R.nm i) (fun _ _=>false) (fun _=>false) (fun _=>false) (fun _=>false))
  (fun _=>false) (fun _=>false) (fun i=>rv == .ref (R.fa i)) (fun i=>rv == .ref (R.ca i)) (fun b=>Value.casesOn (motive:=fun _=>Bool) rv false false false (fun _=>false) (fun _ _=>false) (fun _ _=>false) (fun _ _=>false) (fun _ _=>false) (fun _=>rv==b.val) (fun _=>rv==b.val) (fun _=>false))
theorem mC{h:Heap}{v:V}{rv:Value}(e:gN R v rv=true):aq R h ρ v rv:=by
 cases v with
 | none=>exact eq_of_beq e ▸ .none
 | bool b=>exact eq_of_beq e ▸ .bool b
 | fn i=>exact eq_of_beq e ▸ .fn i
 | cls i=>exact eq_of_beq e ▸ .cls i
 | blt b=>cases rv with
  | type _=>exact .blt b (eq_of_beq e)
  | builtin _=>exact .blt b (eq_of_beq e)
  | _=>exact absurd e Bool.false_ne_true
 | int i=>cases rv with
  | int j t=>exact eq_of_beq e ▸ .int j t
  | _=>exact absurd e Bool.false_ne_true
 | bytes b=>cases rv with
  | bytes a t=>exact eq_of_beq e ▸ .bytes b t
  | _=>exact absurd e Bool.false_ne_true
 | str i=>cases rv with
  | str x t=>have e:=(Bool.and_eq_true _ _).mp e;exact eq_of_beq e.2 ▸ .str i t (Nat.blt_eq▸e.1)
  | _=>exact absurd ((Bool.and_eq_true _ _).mp e).2 Bool.false_ne_true
 | _=>exact absurd e Bool.false_ne_true
noncomputable def Io(R:Rt)(x:Str)(v:V):Bool :=
 Option.casesOn (motive:=fun _=>Bool) (nsIn R.K mainGlobals x) false fun o=>Option.casesOn (motive:=fun _=>Bool) o (Option.casesOn (motive:=fun _=>Bool) (bootBuiltins x) false (gN R v)&&x != "__name__") (gN R v)
noncomputable def yB(R:Rt)(lx:bN)(x:Str)(v:V):Bool:=lx.names.lookup x==some .globalImplicit&&x != "__debug__" && Io R x v
noncomputable def AV(R:Rt)(v:V)(c:Const):Bool :=
 Const.casesOn (motive:=fun _=>Bool) c (gN R v .none) (fun b=>gN R v (.bool b)) (fun i=>gN R v (.int i 0)) (fun _=>false) (fun _ _=>false) (fun x=>gN R v (.str x 0)) (fun b=>gN R v (.bytes b.toArray 0)) false
theorem Bb{v:V}{i:Int}{t:Tok}:gN R v (.int i 0)=gN R v (.int i t):=by cases v<;>rfl
theorem Ab{v:V}{i:Str}{t:Tok}:gN R v (.str i 0)=gN R v (.str i t):=by cases v<;>rfl
theorem v9{v:V}{i:Array UInt8}{t:Tok}:gN R v (.bytes i 0)=gN R v (.bytes i t):=by cases v<;>rfl
theorem d8{x:Str}{k:NameKind}(E:Ak R lx renv env s.heap ρ)(e:lx.names.lookup x=some k):renv.kindOf x=some k:=(congrArg (List.lookup x) E.names).trans e
theorem rP{x:Str}(h:(x != "__debug__")=true):(x==("__debug__" : Str))=false:=(Bool.not_eq_true' _).mp h
theorem DH{i:Nat}{x:Str}{p:Pos}(hc:eL lx i x=true):Ok R call lx d n (.var i) (.Name x p):=by
 intro env σ Q X A l renv ρ s Qr Er h H I k _
 have c:=(Bool.and_eq_true _ _).mp hc
 have c1:=(Bool.and_eq_true _ _).mp c.1
 have hd:=rP c.2
 have E:=I.env
 have e1:=eq_of_beq c1.1
 have key:∃ v,env[i]? = some (some v)∧Q v σ:=by
  have h:CI env[i]? σ Q:=h
  cases e:env[i]? with
  | none=>rw [e] at h;exact h.elim
  | some o=>cases o with
   | none=>rw [e] at h;exact h.elim
   | some v=>rw [e] at h;exact ⟨v,rfl,h⟩
 refine key.elim fun v w=>E.vars.elim fun m z=>am (wpAny_Name ?_ hd)
 induction z.2 i x e1 with
 | loc k1 hv=>exact (hv v w.1).elim fun rv q=>wpAny_loadName_local E.kind (d8 E k1) z.1 q.1 (k.here I.st w.2 q.2)
 | cel k1 e dd hv=>exact (hv v w.1).elim fun rv q=>wpAny_loadName_cell E.kind (d8 E k1) e (q.1▸dd) (k.here I.st w.2 q.2)
 | no k1 k2=>exact ((Bool.or_eq_true _ _).mp c1.2).elim (fun q=>absurd (eq_of_beq q) k1) fun q=>absurd (eq_of_beq q) k2
theorem jU{x:Str}{p:Pos}{v:V}(ok:aZ R)(hg:yB R lx x v=true)(I:bM R lx l renv env σ ρ s.heap)(k:∀ rv,aq R s.heap ρ v rv→Qr rv s):wpAny R.M A (eval (.Name x p) renv) Qr Er s:=by
 have c:=(Bool.and_eq_true _ _).mp hg
 have c1:=(Bool.and_eq_true _ _).mp c.1
 have E:=I.env
 have hg':s.heap.Ns renv.globals R.mg:=E.glob▸ok.g.keeps I.st.base
 refine Name_function_global E.kind (d8 E (eq_of_beq c1.1)) ?_ (rP c1.2)
 have c2:=c.2
 unfold Io at c2
 cases e:nsIn R.K mainGlobals x with
 | none=>rw [e] at c2;cases c2
 | some o =>
  rw [e] at c2
  cases o with
  | some rv=>exact loadGlobal_global hg' (mg_of ok.X ok.g e) (k rv (mC c2))
  | none =>
   have c2:=(Bool.and_eq_true _ _).mp c2
   cases e':bootBuiltins x with
   | none=>rw [e'] at c2;exact Bool.noConfusion c2.1
   | some rv=>rw [e'] at c2;exact loadGlobal_builtin hg' (mg_none_of ok.X ok.g e) (E.blt▸ok.b.keeps I.st.base) ((ok.builtins x (bne_iff_ne.mp c2.2)).trans e') (k rv (mC c2.1))
theorem F3{x:Str}{p:Pos}{v:V}(ok:aZ R)(hg:yB R lx x v=true):Ok R call lx d n (.cst v) (.Name x p):=fun h _ I k _=>am (jU ok hg I fun rv r=>k.here I.st h r)
theorem wP{c:Const}{kd:Nat}{p:Pos}{v:V}(hc:AV R v c=true):Ok R call lx d n (.cst v) (.Constant c kd p):=by
 intro env σ Q X A l renv ρ s Qr Er h H I k _
 have z:∀ {rv:Value} {t:Nat},gN R v rv=true→Qr rv { s with toks:=t }:=fun e=>k.tk I.st h (mC e)
 cases c with
 | none=>exact af (z (t:=s.toks) hc)
 | bool b=>exact af (z (t:=s.toks) hc)
 | int i=>exact am (wpAny_Constant_int (z (Bb.symm.trans hc)))
 | str x=>exact am (wpAny_mkText (z (Ab.symm.trans hc)))
 | bytes b=>exact am (wpAny_mkTextBytes (z (v9.symm.trans hc)))
 | _=>cases hc
end
section
variable{R:Rt}{call:aw}{lx:bN}{d n:Nat}
section
variable{l:List Env}{renv:Env}{env:au}{σ:List O}{Q:ag}{X:ak}{ρ:List Addr}{s:Shared}{A:Around}{Qr Er:Value→Shared→Prop}
theorem Cz{α:Type}{Qr:α→Shared→Prop}{x y:E}{a b:PySem.Expr}{K:V→ag}{f:Value→Value→Sem α}(hx:Ok R call lx d n x a)(hy:Ok R call lx d n y b)(h:bW call x env σ (fun v σ=>bW call y env σ (K v) X) X)(H:br R d n A l)(I:bM R lx l renv env σ ρ s.heap)(kx:KX R l ρ [] s X Er)
 (k:∀ v w rv rw σ' ρ' s',bV R ρ [] s σ' ρ' s'→aq R s'.heap ρ' v rv→aq R s'.heap ρ' w rw→K v w σ'→aT R.M A (f rv rw) Qr Er s'):aT R.M A (eval a renv >>= fun rv=>holding [rv] (eval b renv) >>= f rv) Qr Er s :=
 ab (hx (Qr:=fun rv s'=>aT R.M A (holding [rv] (eval b renv) >>= f rv) Qr Er s') h H I (fun v σ1 ρ1 rv s1 o1 r1 q1=>ay (hy q1 H (o1.inv I) (fun w σ2 ρ2 rw s2 o2 r2 q2=>k _ _ _ _ _ _ _ (o1.trans o2) (o2.stp.vrel r1) r2 q2) (kx.after o1))) kx)
inductive yE(R:Rt)(call:aw)(lx:bN)(d n:Nat):List E→Option PySem.Expr→Prop
 | nil:yE R call lx d n [] none
 | one {e pe} (h:Ok R call lx d n e pe):yE R call lx d n [e] (some pe)
theorem Bc{lo:List E}{l':Option PySem.Expr}{Q:aL}(hl:yE R call lx d n lo l')(h:vcEs call lo env σ Q X)(H:br R d n A l)(I:bM R lx l renv env σ ρ s.heap)
 (k:∀ vs σ' ρ' rv s',bV R ρ [] s σ' ρ' s'→bT R s'.heap ρ' vs rv→Q vs σ'→Qr rv s') (kx:KX R l ρ [] s X Er):aT R.M A (valueOrNone (evalOpt l' renv)) Qr Er s:=by
 induction hl with
 | nil=>exact af (k _ _ _ _ _ (.refl I.st) .nil h)
 | @one e pe he=>exact ah (t':=eval pe renv) (congrArg valueOrNone (arm_evalOpt_some pe renv)) (he h H I (fun v σ' ρ' rv s' o r q=>k _ _ _ _ _ o (.one r) q) kx)
theorem kM{pos:Pos}{es:List E}{pes:List PySem.Expr}(hs:jf R call lx d n es pes):∀ {σ:List O} {Q:aL} {s:Shared} {ρ:List Addr} {Qr:List Value→Shared→Prop},vcEs call es env σ Q X→br R d n A l→bM R lx l renv env σ ρ s.heap →
 (∀ vs σ' ρ' rvs s',bV R ρ [] s σ' ρ' s'→VRels R s'.heap ρ' vs rvs→Q vs σ'→rvs.length=pes.length→Qr rvs s')→KX R l ρ [] s X Er→aT R.M A (spliced (backTo pos (starEach pes renv))) Qr Er s:=by
 induction hs with
 | nil=>exact fun h _ I k _=>af (k _ _ _ _ _ (.refl I.st) .nil h rfl)
 | @cons e pe es pes he r ih =>
  intro σ Q s ρ Qr h H I k kx
  refine ah (t':=eval pe renv >>= fun v=>pure [v] >>= fun here=>holding here (spliced (backTo pos (starEach pes renv))) >>= fun r=>pure (here++r)) (by rw [he.pl.st];rfl) ?_
  exact ab (he.ev h H I (fun v σ1 ρ1 ra s1 o1 r1 q1=>b9 (ay (ih q1 H (o1.inv I) (fun vs σ' ρ' rvs s' o r' q' z=>af (k _ _ _ _ _ (o1.trans o) (.cons (o.stp.vrel r1) r') q' (congrArg (·+1) z))) (kx.after o1)))) kx)
end
section
variable{x y z:E}{a b c:PySem.Expr}{p:Pos}
theorem GF{op:Op}(hl:Ok R call lx d n x a)(hr:Ok R call lx d n y b):Ok R call lx d n (.bin op x y) (.BinOp a op.py b p) :=
 fun h H I k kx=>ah (arm_eval_BinOp ..) (Cz hl hr h H I kx fun _ _ _ _ _ _ _ o r1 r2 q=>ao (dq (am (HE o.st r1 r2 q (k.after o)))))
theorem Gf(he:Ok R call lx d n x a):Ok R call lx d n (.neg x) (.UnaryOp .USub a p):=fun h H I k kx =>
 ah (arm_eval_UnaryOp ..) (ab (he h H I (fun v σ1 ρ1 ra s1 o1 r1 q1=>by
  cases v with
  | int i=>exact r1.int' fun t=>ao (aO (am (neg_int ((k.after o1).tk o1.st q1 (.int _ _)))))
  | _=>exact q1.elim) kx))
theorem mE{vs:List Value}{ra rk:Value}{Q:ag}{ρ:List Addr}{s:Shared}{A:Around}{Qr Er:Value→Shared→Prop}(hb:dy s ra)(e:subscripted b false ra rk=operate vs (getItem ra rk))(k:KQ R ρ s Q Qr)
 (g:∀ {Qr':Value→Shared→Prop},KQ R ρ s Q Qr'→wpAny R.M A (getItem ra rk) Qr' Er s):aT R.M A (standAt p >>= fun _=>getitemInPython ra >>= fun h=>subscripted b h ra rk >>= fun r=>letTemporaryGo a ra r >>= fun _=>pure r) Qr Er s :=
 ao (ai (hb.here (e▸ab (dq (am (g fun v σ' ρ' rv s' o r q=>ai (wpAny_letTemporaryGo (af (k _ _ _ _ _ o r q)))))))))
theorem Gp(ok:aZ R)(hn:Pl b)(he:Ok R call lx d n x a)(hi:Ok R call lx d n y b):Ok R call lx d n (.sub x y) (.Subscript a b p):=fun h H I k kx =>
 ah (arm_eval_Subscript ..) (Cz he hi h H I kx fun v w rv rw σ' ρ' s' o r1 r2 q=>mE (zD o.st r1 q) (hn.su _ _) (k.after o) fun k=>H1 ok o.st r1 r2 q k)
theorem BK{lo hi:List E}{l' u:Option PySem.Expr}{p':Pos}(ok:aZ R)(he:Ok R call lx d n x a)(hl:yE R call lx d n lo l')(hu:yE R call lx d n hi u):Ok R call lx d n (.slice x lo hi) (.Subscript a (.Slice l' u none p') p):=fun h H I k kx=>by
 refine ah (arm_eval_Subscript ..) (ab (he h H I (fun v σ1 ρ1 ra s1 o1 r1 q1=>ay (ah (arm_eval_Slice ..) ?_)) kx))
 refine ab (Bc hl q1 H (o1.inv I) (fun vl σ2 ρ2 rl s2 o2 r2 q2=>?_) (kx.after o1))
 have o12:=o1.trans o2
 refine ay (Bc hu q2 H (o12.inv I) (fun vu σ3 ρ3 ru s3 o3 r3 q3=>ay (af (am (wpAny_newObj_type ?_)))) (kx.after o12))
 have o4:bV R ρ3 [] s3 σ3 ρ3 { s3 with heap:=s3.heap.push (oG rl ru .none) }:=.keep o3.st (Mine.Keeps.push _ _) _
 have o34:=o3.trans o4
 have r1:=(o2.trans o34).stp.vrel r1
 exact mE (Ad ok o4.st r1 q3) rfl (k.after (o12.trans o34)) fun k=>HQ ok o4.st r1 (Heap.get?_push_size _ rfl) (r2.next o34.stp) (r3.next o4.stp) q3 k
theorem z7{kd:Nat}{p1 p2:Pos}{renv:Env}{ρ:List Addr}{s:Shared}{σ:List O}{A:Around}{Qr Er:Value→Shared→Prop}(S:St R σ ρ s.heap)(k:∀ t n,Qr (.int (-1) t) { s with toks:=n }):aT R.M A (valueOrNone (evalOpt (some (.UnaryOp .USub (.Constant (.int 1) kd p1) p2)) renv)) Qr Er s :=
 ah (t':=eval (.UnaryOp .USub (.Constant (.int 1) kd p1) p2) renv) (congrArg valueOrNone (arm_evalOpt_some ..)) (ah (arm_eval_UnaryOp ..) (ai (wpAny_Constant_int (ao (aO (am (neg_int (k _ _))))))))
theorem Gx{p' p1 p2:Pos}{kd:Nat}(he:Ok R call lx d n x a):Ok R call lx d n (.rev x) (.Subscript a (.Slice none none (some (.UnaryOp .USub (.Constant (.int 1) kd p1) p2)) p') p):=fun h H I k kx=>by
 refine ah (arm_eval_Subscript ..) (ab (he h H I (fun v σ1 ρ1 ra s1 o1 r1 q1=>ay (ah (arm_eval_Slice ..) (b9 (ay (af (ay (z7 o1.st fun t m=>am (wpAny_newObj_type ?_)))))))) kx))
 have o4:bV R ρ1 [] s1 σ1 ρ1 { s1 with heap:=s1.heap.push (oG .none .none (.int (-1) t)),toks:=m }:=.keep o1.st (Mine.Keeps.push _ _) m
 have r1:=o4.stp.vrel r1
 exact mE (Bw o4.st r1 q1) rfl (k.after (o1.trans o4)) fun k=>H3 o4.st r1 (Heap.get?_push_size _ rfl) q1 k
theorem ED{p' p1 p2:Pos}{kd:Nat}(he:Ok R call lx d n x a):Ok R call lx d n (.init x) (.Subscript a (.Slice none (some (.UnaryOp .USub (.Constant (.int 1) kd p1) p2)) none p') p):=fun h H I k kx=>by
 refine ah (arm_eval_Subscript ..) (ab (he h H I (fun v σ1 ρ1 ra s1 o1 r1 q1=>ay (ah (arm_eval_Slice ..) (b9 (ay (z7 o1.st fun t m=>ay (af (am (wpAny_newObj_type ?_)))))))) kx))
 have o4:bV R ρ1 [] s1 σ1 ρ1 { s1 with heap:=s1.heap.push (oG .none (.int (-1) t) .none),toks:=m }:=.keep o1.st (Mine.Keeps.push _ _) m
 have r1:=o4.stp.vrel r1
 exact mE (xT o4.st r1 q1) rfl (k.after (o1.trans o4)) fun k=>Gs o4.st r1 (Heap.get?_push_size _ rfl) q1 k
theorem Gq(he:Ok R call lx d n x a):Ok R call lx d n (.not x) (.UnaryOp .Not a p):=fun h H I k kx =>
 ah (arm_eval_UnaryOp ..) (ab (he h H I (fun v σ1 ρ1 ra s1 o1 r1 q1=>ao (aO (ah (t':=holding [ra] (truthy ra >>= fun t=>pure (Value.bool !t))) rfl (aO (ai (kJ r1 q1 fun b _ hb=>af ((k.after o1).here o1.st hb (.bool _)))))))) kx))
theorem GI(hc:wY R call lx d n x a)(ha:Ok R call lx d n y b)(hb:Ok R call lx d n z c):Ok R call lx d n (.ife x y z) (.IfExp a b c p):=fun h H I k kx =>
 ah (arm_eval_IfExp ..) (ab (hc h H I (fun t σ1 ρ1 s1 o1 q1=>by
  cases t with
  | true=>exact ha q1 H (o1.inv I) (k.after o1) (kx.after o1)
  | false=>exact hb q1 H (o1.inv I) (k.after o1) (kx.after o1)) kx))
theorem GK(hc:wY R call lx d n x a)(ha:wY R call lx d n y b)(hb:wY R call lx d n z c):wY R call lx d n (.ife x y z) (.IfExp a b c p):=fun h H I k kx =>
 ah (arm_isTrue_IfExp ..) (ab (hc h H I (fun t σ1 ρ1 s1 o1 q1=>by
  cases t with
  | true=>exact ha q1 H (o1.inv I) (k.after o1) (kx.after o1)
  | false=>exact hb q1 H (o1.inv I) (k.after o1) (kx.after o1)) kx))
theorem FZ(he:wY R call lx d n x a):wY R call lx d n (.not x) (.UnaryOp .Not a p):=fun h H I k kx =>
 ah (arm_isTrue_UnaryOp ..) (ab (he h H I (fun b σ1 ρ1 s1 o1 q1=>af (k _ _ _ _ o1 q1)) kx))
theorem Gb(he:Ok R call lx d n x a)(hq:∀ {env σ Q X},vcT call x env σ Q X→bW call x env σ (wB Q) X)(hi:∀ renv (m:Sem Value),isTrue a renv m=(m >>= fun v=>standAt a.pos >>= fun _=>holding [v] (truthy v))):wY R call lx d n x a:=fun h H I k kx =>
 ah (hi ..) (ab (he (hq h) H I (fun v σ1 ρ1 ra s1 o1 r1 q1=>ao (aO (am (kJ r1 q1 fun b _ hb=>k _ _ _ _ o1 hb)))) kx))
theorem Fa{es:List E}{pes:List PySem.Expr}(hz:pes.length≤lM)(hs:jf R call lx d n es pes):Ok R call lx d n (.list es) (.List pes p):=fun h H I k kx =>
 ah (arm_eval_List ..) (ao (ab (kM hs h H I (fun vs σ1 ρ1 rvs s1 o1 r1 q1 z=>am (wpAny_newList ((k.after o1).list (n:=s1.toks) o1.st rfl r1 q1) (z▸aU hz))) kx)))
theorem Gz{es:List E}{pes:List PySem.Expr}{kd:Nat}(hz:pes.length≤lM)(hs:jf R call lx d n es pes):Ok R call lx d n (.tup es) (.Tuple pes kd p):=fun h H I k kx =>
 ah (arm_eval_Tuple ..) (ao (ab (kM hs h H I (fun vs σ1 ρ1 rvs s1 o1 r1 q1 z=>am (wpAny_newTuple ((k.after o1).keep (n:=s1.toks) o1.st (Mine.Keeps.push _ _) q1 (.tup (Heap.get?_push_size _ rfl) (r1.mono (Mine.Keeps.push _ _).tups (.refl _)))) (z▸aU hz))) kx)))
end
end
section
variable{R:Rt}{call:aw}{lx:bN}{d n:Nat}{x y z:E}{a b c:PySem.Expr}{p:Pos}
theorem br.lt{A:Around}{l:List Env}(H:br R d n A l):A.units < 9000:=Nat.lt_of_le_of_lt (Nat.le_trans (Nat.le_add_right _ _) (Nat.le_add_right _ _)) H.units
theorem w9{o:CmpOp}{env:Env}(h:Pl b):markedEach [o] [b] (evalEach [b] env)=[eval b env]:=congrArg (fun m=>[m]) (markedBehindIn_of_false (h.be o))
theorem xP{o o':CmpOp}{env:Env}(h:Pl c):markedEach [o,o'] [b,c] (evalEach [b,c] env)=[eval b env,eval c env]:=congrArg (fun m=>[eval b env,m]) (markedBehindIn_of_false (h.be o'))
section
variable{l:List Env}{renv:Env}{env:au}{σ:List O}{X:ak}{ρ:List Addr}{s:Shared}{A:Around}{Er:Value→Shared→Prop}{op:Cp}{v:V}{rv:Value}{Q:aX}
theorem AQ{α:Type}{Qr:α→Shared→Prop}{f:Value→Sem α}{K:V→aX}(ok:aZ R)(hr:Ok R call lx d n y b)(h:bW call y env σ (fun w σ=>Cm σ (K w) op v w) X)(H:br R d n A l)(I:bM R lx l renv env σ ρ s.heap)(r:aq R s.heap ρ v rv)(kx:KX R l ρ [] s X Er)
 (k:∀ w σ' ρ' rw s',bV R ρ [] s σ' ρ' s'→aq R s'.heap ρ' w rw→(∀ {Q':Value→Shared→Prop},KC R ρ' s' σ' (K w) Q'→aT R.M A (compareOp op.py rv rw) Q' Er s')→aT R.M A (f rw) Qr Er s'):aT R.M A (holding [rv] (eval b renv) >>= f) Qr Er s :=
 ay (hr h H I (fun w σ1 ρ1 rw s1 o1 r1 q1=>k _ _ _ _ _ o1 r1 fun kc=>am (HM ok H.lt H.handled o1.st (o1.stp.vrel r) r1 q1 kc)) kx)
theorem xQ{Qr:Value→Shared→Prop}(ok:aZ R)(hr:Ok R call lx d n y b)(h:bW call y env σ (tD op v Q) X)(H:br R d n A l)(I:bM R lx l renv env σ ρ s.heap)(r:aq R s.heap ρ v rv)(k:KB R ρ s Q fun t=>Qr (.bool t))(kx:KX R l ρ [] s X Er):aT R.M A (compareChain p rv [op.py] [eval b renv]) Qr Er s :=
 AQ (K:=fun _=>Q) (f:=fun w=>standAt p >>= fun _=>operate [rv,w] (compareOp op.py rv w)) ok hr h H I r kx fun w σ1 ρ1 rw s1 o1 r1 g=>ao (dq (g ((k.after o1).kc fun _ _ q=>q)))
theorem w3{Qr:Bool→Shared→Prop}(ok:aZ R)(hr:Ok R call lx d n y b)(h:bW call y env σ (tD op v Q) X)(H:br R d n A l)(I:bM R lx l renv env σ ρ s.heap)(r:aq R s.heap ρ v rv)(k:KB R ρ s Q Qr)(kx:KX R l ρ [] s X Er):aT R.M A (testChain p rv [op.py] [eval b renv]) Qr Er s :=
 AQ (K:=fun _=>Q) (f:=fun w=>standAt p >>= fun _=>operate [rv,w] (compareOp op.py rv w) >>= fun c=>holding [c] (truthy c)) ok hr h H I r kx fun w σ1 ρ1 rw s1 o1 r1 g=>ao (ab (dq (g ((k.after o1).kc fun _ _ q=>aO (am (wpAny_truthy_bool q))))))
theorem Bo{α:Type}{Qr:α→Shared→Prop}{f:Value→Sem α}{g:Value→Sem α}{op':Cp}(ok:aZ R)(hm:Ok R call lx d n y b)(h:bW call y env σ (D9 op op' v (bW call z) env Q X) X)(H:br R d n A l)(I:bM R lx l renv env σ ρ s.heap)(r:aq R s.heap ρ v rv)(kx:KX R l ρ [] s X Er)
 (k0:∀ σ' ρ' s',bV R ρ [] s σ' ρ' s'→Q false σ'→aT R.M A (g (.bool false)) Qr Er s')
 (k1:∀ w σ' ρ' rw s',bV R ρ [] s σ' ρ' s'→bW call z env σ' (tD op' w Q) X→aq R s'.heap ρ' w rw→aT R.M A (f rw) Qr Er s'):aT R.M A (holding [rv] (eval b renv) >>= fun rw=>standAt p >>= fun _=>holding [rv,rw] (compareOp op.py rv rw) >>= fun c=>release [rv,rw] [c] >>= fun _=>holding [c,rw] (truthy c) >>= fun t=>if t=true then f rw else g c) Qr Er s :=
 AQ (K:=fun w=>zv op' w (bW call z) env Q X) ok hm h H I r kx fun w σ1 ρ1 rw s1 o1 r1 q=>ao (ay (q fun t s2 o2 q2=>ai (wpAny_release (ay (am (wpAny_truthy_bool (by
  cases t with
  | true=>exact k1 _ _ _ _ _ (o1.trans o2) q2 (o2.stp.vrel r1)
  | false=>exact k0 _ _ _ (o1.trans o2) q2)))))))
end
theorem FU{op:Cp}(ok:aZ R)(hn:Pl b)(hl:Ok R call lx d n x a)(hr:Ok R call lx d n y b):Ok R call lx d n (.cmp x op y) (.Compare a [op.py] [b] p):=fun h H I k kx =>
 ah (arm_eval_Compare ..) (ab (hl h H I (fun v σ1 ρ1 ra s1 o1 r1 q1=>ah (congrArg (compareChain p ra [op.py]) (w9 hn)) (xQ ok hr q1 H (o1.inv I) r1 (k.after o1).boolQ (kx.after o1))) kx))
theorem GV{op:Cp}(ok:aZ R)(hn:Pl b)(hl:Ok R call lx d n x a)(hr:Ok R call lx d n y b):wY R call lx d n (.cmp x op y) (.Compare a [op.py] [b] p):=fun h H I k kx =>
 ah (arm_isTrue_Compare ..) (ab (hl h H I (fun v σ1 ρ1 ra s1 o1 r1 q1=>ah (congrArg (testChain p ra [op.py]) (w9 hn)) (w3 ok hr q1 H (o1.inv I) r1 (k.after o1) (kx.after o1))) kx))
theorem EZ{op op':Cp}(ok:aZ R)(hn:Pl c)(hl:Ok R call lx d n x a)(hm:Ok R call lx d n y b)(hr:Ok R call lx d n z c):Ok R call lx d n (.cmp2 x op y op' z) (.Compare a [op.py,op'.py] [b,c] p):=fun {_ _ _ _ _ _ renv _ _ _ _} h H I k kx =>
 ah (arm_eval_Compare ..) (ab (hl h H I (fun v σ1 ρ1 ra s1 o1 r1 q1=>ah (congrArg (compareChain p ra [op.py,op'.py]) (xP hn)) (Bo (f:=fun rw=>compareChain p rw [op'.py] [eval c renv]) (g:=pure) ok hm q1 H (o1.inv I) r1 (kx.after o1)
  (fun σ2 ρ2 s2 o2 q2=>af (((k.after o1).after o2).here o2.st q2 (.bool _))) fun w σ2 ρ2 rw s2 o2 q2 r2=>xQ ok hr q2 H ((o1.trans o2).inv I) r2 ((k.after o1).after o2).boolQ ((kx.after o1).after o2))) kx))
theorem EV{op op':Cp}(ok:aZ R)(hn:Pl c)(hl:Ok R call lx d n x a)(hm:Ok R call lx d n y b)(hr:Ok R call lx d n z c):wY R call lx d n (.cmp2 x op y op' z) (.Compare a [op.py,op'.py] [b,c] p):=fun {_ _ _ _ _ _ renv _ _ _ _} h H I k kx =>
 ah (arm_isTrue_Compare ..) (ab (hl h H I (fun v σ1 ρ1 ra s1 o1 r1 q1=>ah (congrArg (testChain p ra [op.py,op'.py]) (xP hn)) (Bo (f:=fun rw=>testChain p rw [op'.py] [eval c renv]) (g:=fun _=>pure false) ok hm q1 H (o1.inv I) r1 (kx.after o1)
  (fun σ2 ρ2 s2 o2 q2=>af ((k.after o1) _ _ _ _ o2 q2)) fun w σ2 ρ2 rw s2 o2 q2 r2=>w3 ok hr q2 H ((o1.trans o2).inv I) r2 ((k.after o1).after o2) ((kx.after o1).after o2))) kx))
noncomputable def Bz:Bool→BoolOp
 | true=>.And
 | false=>.Or
theorem C6{k:Bool}{l:List Env}{renv:Env}{env:au}{X:ak}{A:Around}{Er:Value→Shared→Prop}{Q:ag}{Qr:Value→Shared→Prop}{es:List E}{pes:List PySem.Expr}(hs:jf R call lx d n es pes):∀ {σ:List O} {s:Shared} {ρ:List Addr},
 vcBv call k es env σ Q X→br R d n A l→bM R lx l renv env σ ρ s.heap→KQ R ρ s Q Qr→KX R l ρ [] s X Er→aT R.M A (boolOp p (Bz k) (evalEach pes renv)) Qr Er s:=by
 induction hs with
 | nil=>exact fun h _ _ _ _=>h.elim
 | @cons e pe es pes he r ih =>
  intro σ s ρ h H I kq kx
  cases r with
  | nil=>exact he.ev h H I kq kx
  | @cons e2 pe2 es pes he2 r =>
   refine ab (he.ev (Q:=Iq k (vcBv call k (e2 :: es)) env Q X) h H I (fun v σ1 ρ1 ra s1 o1 r1 q1=>ao (ay (am (kJ r1 q1 fun t e q=>?_)))) kx)
   have kq:=kq.after o1
   have kx:=kx.after o1
   have I:=o1.inv I
   cases k with
   | true=>cases t with
    | true=>exact ih q H I kq kx
    | false=>exact af (kq.here o1.st q r1)
   | false=>cases t with
    | false=>exact ih q H I kq kx
    | true=>exact af (kq.here o1.st q r1)
theorem E0{k:Bool}{es:List E}{pes:List PySem.Expr}(hs:jf R call lx d n es pes):Ok R call lx d n (.bool k es) (.BoolOp (Bz k) pes p):=fun h H I kq kx=>ah (arm_eval_BoolOp ..) (C6 hs h H I kq kx)
theorem Co{k:Bool}{l:List Env}{renv:Env}{env:au}{X:ak}{A:Around}{Er:Value→Shared→Prop}{Q:aX}{Qr:Bool→Shared→Prop}{es:List E}{pes:List PySem.Expr}(hs:jf R call lx d n es pes):∀ {σ:List O} {s:Shared} {ρ:List Addr},
 vcBt call k es env σ Q X→br R d n A l→bM R lx l renv env σ ρ s.heap→KB R ρ s Q Qr→KX R l ρ [] s X Er→aT R.M A (allTrue (Bz k) pes renv) Qr Er s:=by
 induction hs with
 | nil=>exact fun h _ I kq _=>ah (t':=pure k) (by rw [arm_allTrue_nil];cases k<;>rfl) (af (kq _ _ _ _ (.refl I.st) h))
 | @cons e pe es pes he r ih =>
  intro σ s ρ h H I kq kx
  refine ah (arm_allTrue_cons ..) (ab (he.te (Q:=FL k (vcBt call k es) env Q X) h H I (fun t σ1 ρ1 s1 o1 q=>?_) kx))
  have kq:=kq.after o1
  have kx:=kx.after o1
  have I:=o1.inv I
  cases k with
  | true=>cases t with
   | true=>exact ih q H I kq kx
   | false=>exact af (kq _ _ _ _ (.refl I.st) q)
  | false=>cases t with
   | false=>exact ih q H I kq kx
   | true=>exact af (kq _ _ _ _ (.refl I.st) q)
theorem Fy{k:Bool}{es:List E}{pes:List PySem.Expr}(hs:jf R call lx d n es pes):wY R call lx d n (.bool k es) (.BoolOp (Bz k) pes p):=fun h H I kq kx=>ah (arm_isTrue_BoolOp ..) (Co hs h H I kq kx)
end
end
section
open PySem Builtin PySem.Calls PyProof.Rows PySem.W PySem.SeqAt Builtin.ObjectAttr Builtin.Getset_descriptor
noncomputable def RV(Q E:Value→Shared→Prop):Result→Shared→Prop:=fun r s'=>match r with
 | .ok (.ret v)=>Q v s'
 | .ok _=>False
 | .error e=>E e s'
theorem RV.mono{Q Q' E E':Value→Shared→Prop}(h:∀ v s,Q v s→Q' v s)(h':∀ v s,E v s→E' v s)(r:Result)(s:Shared):RV Q E r s→RV Q' E' r s:=by
 cases r with
 | error e=>exact h' e s
 | ok f=>cases f with
  | ret v=>exact h v s
  | _=>exact fun z=>z
structure Fs(R:Rt)(l:List Env)(σ:List O)(ρ:List Addr)(h:Heap):Prop where
 st:St R σ ρ h
 ff:h.FunFrames R.h₀ l
 fs:∀ a∈sY l,a∉ρ
noncomputable def eP(R:Rt)(d:Nat)(call:aw):Prop:=∀ {f vs σ Q X},call f vs σ Q X→keepIn R.K (.ref (R.fa f))=true ∧
 ∀ {A l ρ s rvs Qr Er},br R d 0 A l→Fs R l σ ρ s.heap→VRels R s.heap ρ vs rvs→KQ R ρ s Q Qr→KX R l ρ [] s X Er→bO R.M A (.call (.ref (R.fa f)) ⟨rvs,[]⟩) (RV Qr Er) s
section
variable{R:Rt}{call:aw}{lx:bN}{d n m:Nat}{l:List Env}{σ σ':List O}{Q:ag}{X:ak}{ρ ρ':List Addr}{s s':Shared}{A:Around}{Qr Er:Value→Shared→Prop}
theorem bM.fs{renv:Env}{env:au}{h:Heap}(I:bM R lx l renv env σ ρ h):Fs R l σ ρ h:=⟨I.st,I.ff,I.fsep⟩
theorem Fs.next(F:Fs R l σ ρ s.heap)(o:bV R ρ [] s σ' ρ' s'):Fs R l σ' ρ' s'.heap :=
 ⟨o.st,bA (fun a m ob ho hd=>⟨ob,o.stp.keep a ob ho (F.fs a m) (fun z=>nomatch z),hd⟩) F.ff,fun a m q=>(o.stp.fresh a q).elim (F.fs a m) fun z=>(F.ff.mem m).2.elim fun ob w=>aK z w.1⟩
theorem br.mono(H:br R d n A l)(h:m≤n):br R d m A l:=⟨Nat.lt_of_le_of_lt (Nat.add_le_add_left h _) H.depth,Nat.lt_of_le_of_lt (Nat.add_le_add_left (Nat.mul_le_mul_left 10 h) _) H.units,H.handled,H.guards,H.frames,H.lone⟩
theorem br.zero(H:br R d n A l):br R d 0 A l:=H.mono (Nat.zero_le _)
theorem br.more(H:br R d (n+1) A l){A':Around}{k:Nat}(hk:k≤1)(h1:A'.depth=A.depth+k){u:Nat}(hu:u≤10)(h2:A'.units=A.units+u)(h3:A'.handled=A.handled)(h4:A'.guards=A.guards)(h5:A'.frames=A.frames):br R d n A' l :=
 ⟨by rw [h1,Nat.add_right_comm A.depth,Nat.add_right_comm _ k];exact Nat.lt_of_le_of_lt (Nat.add_le_add_left hk _) H.depth,by rw [h2,Nat.add_right_comm A.units,Nat.add_right_comm _ u];exact Nat.lt_of_le_of_lt (Nat.add_le_add_left hu _) H.units,h3.trans H.handled,h4.trans H.guards,h5.trans H.frames,H.lone⟩
theorem br.in1(H:br R d (n+1) A l):br R d n A.in1 l:=H.more (k:=0) (Nat.zero_le _) rfl (u:=1) (by decide) rfl rfl rfl rfl
theorem AP(hc:eP R d call){f:Nat}{vs:List V}{rvs:List Value}(h:call f vs σ Q X)(H:br R d n A l)(F:Fs R l σ ρ s.heap)(r:VRels R s.heap ρ vs rvs)(k:KQ R ρ s Q Qr)(kx:KX R l ρ [] s X Er):aT R.M A (PySem.call (.ref (R.fa f)) rvs) Qr Er s :=
 dh ((hc h).2 H.zero F r k kx)
theorem oO.cd{c:Nat}{G:Option ClassData→Prop}(C:oO R c)(h:∀ cd:ClassData,G (some { cd with hasDict:=true })):G (clsIn R.K (R.ca c)):=by
 unfold clsIn;rw [C.dict];exact h _
theorem yi{x p C fget:Addr}{rest:List Value}{ox:PySem.Obj}{od:Option PySem.Obj}{name:Str}{K:Frag}(X:K.In s.heap)(I:PySem.W.InstAt s.heap x ox C od)(hga:findIn K (.ref C) "__getattribute__" = some (some (.builtin "object.__getattribute__")))(hgx:findIn K (.ref C) "__getattr__" = some none)
 (hf:findObj K C od name=some (.bind (.builtin "property.__get__") (.ref p))) (hp:recIn K p "property" = some (.ref fget :: rest)) (h:bO R.M A.in1 (.call (.ref fget) ⟨[.ref x],[]⟩) (RV (fun v s'=>handedIn v=true∧Qr v s') fun _ _=>False) { s with toks:=s.toks+1 }):aT R.M A (getAttr (.ref x) name true) Qr Er s:=by
 have L0:=I.type (M:=R.M)
 refine ai (wpAny_mkText (aO (ai (L0.at (ai ((looks_findIn (M:=R.M) X hga).at ?_))))))
 refine ab (bh (js (ck (cy (by decide +kernel) _) PySem.F.plainObj_entry_getattr_hooked ?_)))
 unfold Builtin.«proto.getattr_hooked»
 refine b9 (ai (L0.at (ai ((looks_find (M:=R.M) X I hf).at (ai ((looks_findIn (M:=R.M) X hgx).at ?_))))))
 refine ah (t':=holding [.ref p] (PySem.call (.builtin "property.__get__") [.ref p,.ref x,.ref C]) >>= ret) rfl (ay (dh ?_))
 refine (rec_of X hp).elim fun d w=>w.elim fun sl ho=>bJ KF.slot_prop.plain (cy (by decide +kernel) _) KF.entry_prop (KF.slot_prop.check _ _ _ _ _ _ _ _ ⟨_,ho,rfl⟩ (KF.args_prop _ _ _) ?_)
 refine fO ho (by kernel_rfl) ?_
 exact BI (a:=.again (.call (.ref fget) ⟨[.ref x],[]⟩)) (by kernel_rfl) ⟨rfl,dS h (RV.mono (fun v s z=>af (ah (handedOut_of z.1) (af z.2))) fun _ _ z=>z.elim)⟩
theorem GD(ok:aZ R)(pk:yt R)(hc:eP R d call){v:V}{a:Nat}{rv:Value}(ha:a < R.nn)(hp:At σ Q call v a)(H:br R d (n+1) A l)(F:Fs R l σ ρ s.heap)(hv:aq R s.heap ρ v rv)(k:KQ R ρ s Q Qr):aT R.M A (getAttr rv (R.nm a) true) Qr Er s:=by
 have S:=F.st
 have K:=ok.X.keeps S.base
 induction hp with
 | @val i c d a es x hi hd e hp hm h =>
  refine hv.ref' fun ad ea=>?_
  induction mh S ea hi hd with
  | @mk dx ds n h0 h1 ed r nd hob I =>
   have C:=pk.cls c h0 h1
   refine (r.look ok ha).elim fun o w=>(e▸w.2:oz R s.heap ρ (some x) o).some' (P:=fun o=>getL (R.nm a) ds=some o→_) (fun y r' ey=>am (get_value K I C.ga (findObj_own (C.cd (G:=fun o=>o.any _=true) fun _=>rfl) (C.no ha hm hp) rfl ?_) (qd r') (k.tk S h r'))) w.1
   rw [lookIn_dict];exact ey
 | @prop i c d a f es hi hd hp hm h =>
  refine hv.ref' fun ad ea=>?_
  induction mh S ea hi hd with
  | @mk dx ds n h0 h1 ed r nd hob I =>
   have C:=pk.cls c h0 h1
   induction pk.prop c a f hp with
   | mk hf hg ht hr =>
    have o0:bV R ρ [] s σ ρ { s with toks:=s.toks+1 }:=.toks S _
    exact yi K I C.ga C.gx (findObj_data (C.cd (G:=fun o=>o.isSome=true) fun _=>rfl) hf hg ht) hr ((hc h).2 (l:=l) H.in1.zero (F.next o0) (.cons (.ref ea) .nil) (fun v σ' ρ' rv s' o r q=>⟨qd r,k _ _ _ _ _ (o0.trans o) r q⟩) .none)
theorem FH(ok:aZ R)(pk:yt R)(hc:eP R d call){x:E}{b:PySem.Expr}{a:Nat}{p:Pos}(ha:a < R.nn)(hb:Pl b)(he:Ok R call lx d (n+1) x b):Ok R call lx d (n+1) (.attr x a) (.Attribute b (R.nm a) p):=fun h H I k kx =>
 ah (arm_eval_Attribute ..) (ah (congrArg (· >>= _) (hb.ba ..)) (ab (he h H I (fun v σ1 ρ1 ra s1 o1 r1 q1=>ao (ay (GD ok pk hc ha q1 H (o1.inv I).fs r1 fun v σ' ρ' rv s' o r q=>ai (wpAny_letTemporaryGo (af ((k.after o1) _ _ _ _ _ o r q)))))) kx)))
end
end
section
open PySem Builtin PySem.Calls PyProof.Rows PySem.W PySem.SeqAt Builtin.ObjectAttr
section
variable{R:Rt}{call:aw}{d n:Nat}{l:List Env}{σ:List O}{Q:ag}{X:ak}{ρ:List Addr}{s s':Shared}{A:Around}{Qr Er:Value→Shared→Prop}
theorem uc{C x:Addr}{id:String}{init oc:Value}{od:Option Addr}{cd:ClassData}{sl:Array (Option Value)}{rest:List Value}(hC:s.heap.get? C=some ⟨oc,od,.cls cd,sl⟩)(cal:Looks R.M s.heap (specialOf (.ref C) "__call__") (some (.builtin "type.__call__")))(typ:Looks R.M s.heap (isInstance (.ref C) (.type "type")) true)
 (hm:cd.mro.isEmpty=false) (made:Looks R.M s.heap (Bind.madeBy (.ref C)) (some id)) (hnew:∀ {A' R'},R' (.ok (.ret (.ref x))) s'→codeAny R.M A' (.call (.builtin id) ⟨.ref C :: rest,[]⟩) R' s) (is1:Looks R.M s'.heap (isInstance (.ref x) (.ref C)) true)
 (l1:Looks R.M s'.heap (specialOf (.ref x) "__init__") (some init)) (b1:Looks R.M s'.heap (bindSpecial init (.ref x)) (init,[.ref x])) (hq:bO R.M (A.under (.builtin "type.__call__" ⟨.ref C :: rest,[]⟩)) (.call init ⟨.ref x :: rest,[]⟩) (RV (fun v s'=>v = .none∧Qr (.ref x) s') Er) s'):aT R.M A (PySem.call (.ref C) rest) Qr Er s:=by
 refine dh (aG rfl ?_)
 show aT _ _ (callAny (.ref C) _) _ _ _
 unfold callAny
 refine ai (wpAny_load hC ?_)
 show aT _ _ (callAny.viaDunder _ _) _ _ _
 unfold callAny.viaDunder
 refine ai (cal.at (cn (tc_bind _) (b9 (af ⟨rfl,aG rfl ?_⟩))))
 refine ai (m:=checkBuiltinCall "type.__call__" _) (check_slot tc_kind tc_split typ (tc_args _ _ _) (af ⟨Code.quiet_builtin _ (by decide +kernel),ck (cy (by decide +kernel) _) PySem.F.entry_type_call ?_⟩))
 unfold Builtin.«type.__call__»
 refine cH rfl (ai ((((Looks.ld hC).andThen .now).andThen .now:Looks R.M s.heap (mroOf (.ref C)) cd.mro).at (cH hm (ai (made.at (b9 ?_))))))
 refine ay (am (wpAny_call (hnew (ai (is1.at (cH rfl (ay (ai (l1.at (aO (ai (b1.at (ab (dh (dS hq (RV.mono (fun v s' z=>?_) fun _ _ z=>z))))))))))))))))
 rw [z.1]
 exact af (af z.2)
end
section
variable{R:Rt}{call:aw}{lx:bN}{d n:Nat}{l:List Env}{renv:Env}{env:au}{σ:List O}{Q:ag}{X:ak}{ρ:List Addr}{s s':Shared}{A:Around}{Qr Er:Value→Shared→Prop}
inductive Kp(M:Model)(h:Heap)(f:Value):Prop
 | frame (L:Looks M h (keeperOf f) .frame)
 | machine (L:Looks M h (keeperOf f) .machine)
noncomputable def eE(pes:List PySem.Expr)(renv:Env):List (Bool×Sem Value):=pes.map fun pe=>(false,eval pe renv)
theorem parts{pos:Pos}{es:List E}{pes:List PySem.Expr}(hs:jf R call lx d n es pes):backTo pos (starEach pes renv)=eE pes renv:=by
 induction hs with
 | nil=>rfl
 | @cons e pe es pes he r ih=>rw [he.pl.st];exact congrArg ((false,eval pe renv) :: ·) ih
theorem yj(pes:List PySem.Expr):(eE pes renv).any (·.1)=false:=by
 induction pes with
 | nil=>rfl
 | cons pe pes ih=>exact ih
noncomputable def Bp(vs:List Value):Sem Args:=holding (vs++(none:Option Value).toList) (evalAll (([]:List (Option Str×Sem Value)).map (·.2)) >>= fun x=>pure vs >>= fun y=>pure ⟨y,(([]:List (Option Str×Sem Value)).filterMap (·.1)).zip x⟩)
theorem Da(f:Value)(pes:List PySem.Expr):evalArgs f true (eE pes renv) []=(spliced (eE pes renv) >>= fun vs=>pure (vs,(none:Option Value)) >>= fun x=>Bp x.1):=by
 cases pes with
 | nil=>rfl
 | cons pe pes=>cases pes with
  | nil=>rfl
  | cons pe' pes=>rfl
theorem n6{f:Value}{first:List Value}{pos pos':Pos}{es:List E}{pes:List PySem.Expr}{Q:aL}(hs:jf R call lx d n es pes)(h:vcEs call es env σ Q X)(H:br R d n A l)(I:bM R lx l renv env σ ρ s.heap)(kx:KX R l ρ [] s X Er)
 (k:∀ vs σ' ρ' rvs s',bV R ρ [] s σ' ρ' s'→VRels R s'.heap ρ' vs rvs→Q vs σ'→Kp R.M s'.heap f∧aT R.M A (PySem.call f (first++rvs)) Qr Er s'):aT R.M A (callWith pos' f first (backTo pos (starEach pes renv)) []) Qr Er s:=by
 have e:=parts (pos:=pos) (renv:=renv) hs
 have sp:=kM (pos:=pos) (Qr:=fun rvs s'=>Kp R.M s'.heap f∧aT R.M A (PySem.call f (first++rvs)) Qr Er s') hs h H I (fun vs σ' ρ' rvs s' o r q _=>k vs σ' ρ' rvs s' o r q) kx
 rw [e] at sp ⊢
 refine ay (ah (Da ..) (ab (bz sp (fun rvs s1 h1=>b9 (aO (ai (wpAny_of_eq (a:=[]) rfl (ab (af (af (ao ?_)))))))) fun _ _ x=>x)))
 have tail:∀ {t:Sem Value},aT R.M A t Qr Er s1→aT R.M A (t >>= fun r=>holding [r] point >>= fun _=>pure r) Qr Er s1:=fun ht=>ab (bz ht (fun r s₂ hr=>ai (wpAny_holding (wpAny_point (af hr)))) fun _ _ x=>x)
 have ea:((eE pes renv).any (·.1)||([]:List (Option Str×Sem Value)).any (·.1.isNone))=false:=(Bool.or_false _).trans (yj pes)
 rw [ea]
 cases h1.1 with
 | machine L=>exact ai (L.at (tail h1.2))
 | frame L =>
  refine ai (L.at ?_)
  show aT R.M A (if (eE pes renv).length+2 * ([]:List (Option Str×Sem Value)).length > 30 then _ else _) _ _ _
  split
  · exact tail h1.2
  · exact tail (zj h1.2)
end
section
variable{R:Rt}{call:aw}{lx:bN}{d n:Nat}{l:List Env}{renv:Env}{env:au}{σ:List O}{Q:ag}{X:ak}{ρ:List Addr}{s s':Shared}{A:Around}{Qr Er:Value→Shared→Prop}
theorem Kp.of{f:Value}{h:Heap}(K:R.K.In h)(e:keepIn R.K f=true):Kp R.M h f:=(looks_keep (M:=R.M) e K).elim fun k w=>w.1.elim (fun e=>.frame (e▸w.2)) fun e=>.machine (e▸w.2)
theorem kt(h:Heap){o o':PySem.Obj}(ho:o'.isFreed=false):((h.push o).push o').get? (h.objs.size+1)=some o':=Heap.size_push h o▸Heap.get?_push_size (h.push o) ho
theorem br.call1(H:br R d (n+1) A l)(x:Addr)(xs:List Value):br R d n (A.under (.builtin "type.__call__" ⟨.ref x :: xs,[]⟩)) l :=
 H.more (A':=A.under (.builtin "type.__call__" ⟨.ref x :: xs,[]⟩)) (k:=1) (Nat.le_refl _) (congrArg (A.depth+·) (by kernel_rfl)) (u:=1) (by decide) rfl rfl rfl rfl
theorem CL(ok:aZ R)(pk:yt R)(hc:eP R d call){c:Nat}{vs:List V}{rvs:List Value}(hp:t9 call c vs σ Q)(H:br R d (n+1) A l)(F:Fs R l σ ρ s.heap)(r:VRels R s.heap ρ vs rvs)(k:KQ R ρ s Q Qr):Kp R.M s.heap (.ref (R.ca c))∧aT R.M A (PySem.call (.ref (R.ca c)) rvs) Qr Er s:=by
 unfold t9 at hp
 cases ef:xA c with
 | none=>rw [ef] at hp;exact hp.elim
 | some f =>
  rw [ef] at hp
  have c01:=pk.init c f ef
  have C:=pk.cls c c01.1 c01.2
  have S:=F.st
  have K:=ok.X.keeps S.base
  refine ⟨.of K C.keep,?_⟩
  have Y:=makes_of (M:=R.M) K C.mkd
  refine Y.obj.elim fun oc w=>w.elim fun od w=>w.elim fun cd w=>w.elim fun sl w=>?_
  have k1:=Mine.Keeps.push s.heap emptyDict
  have k2:=Mine.Keeps.push (s.heap.push emptyDict) (instObj (R.ca c) s.heap.objs.size)
  have k12:=k1.trans k2
  have hx:=kt s.heap (o:=emptyDict) (o':=instObj (R.ca c) s.heap.objs.size) rfl
  have o1:bV R ρ [] s (σ++[.attrs []]) (ρ++[s.heap.objs.size]) { s with heap:=s.heap.push emptyDict } :=
   ⟨S.add k1 (Heap.get?_none_of_le (Nat.le_refl _)) (.attrs (Heap.get?_push_size _ rfl) .nil .nil),.add k1 (Heap.get?_none_of_le (Nat.le_refl _)),rfl,rfl,rfl⟩
  have hn:(s.heap.push emptyDict).get? (s.heap.objs.size+1)=none:=Heap.get?_none_of_le (Nat.le_of_eq (Heap.size_push ..))
  have o2:bV R (ρ++[s.heap.objs.size]) [] { s with heap:=s.heap.push emptyDict } (σ++[.attrs []]++[.inst c σ.length]) (ρ++[s.heap.objs.size]++[s.heap.objs.size+1]) { s with heap:=(s.heap.push emptyDict).push (instObj (R.ca c) s.heap.objs.size) } :=
   ⟨o1.st.add k2 hn (.inst c01.1 c01.2 (dF _ _ _ (S.len▸List.getElem?_concat_length)) hx),.add k2 hn,rfl,rfl,rfl⟩
  have o12:=o1.trans o2
  have rx:aq R ((s.heap.push emptyDict).push (instObj (R.ca c) s.heap.objs.size)) (ρ++[s.heap.objs.size]++[s.heap.objs.size+1]) (.ref (σ.length+1)) (.ref (s.heap.objs.size+1)) :=
   .ref (by have:=List.getElem?_concat_length (l:=ρ++[s.heap.objs.size]) (a:=s.heap.objs.size+1);rwa [List.length_append,S.len] at this)
  have hi:=C.init f ef
  have t1:Looks R.M ((s.heap.push emptyDict).push (instObj (R.ca c) s.heap.objs.size)) (typeOf (.ref (s.heap.objs.size+1))) (.ref (R.ca c)):=(Looks.ld hx).andThen .now
  have eσ:σ++[O.attrs []]++[O.inst c σ.length]=σ++[O.attrs [],O.inst c σ.length]:=List.append_assoc ..
  refine uc (x:=s.heap.objs.size+1) w.1 Y.call Y.typ w.2.2.2 Y.made (fun q=>new_K Y (looks_findIn K hi.1) (.inl rfl) q) (t1.andThen (Y.self.keeps k12)) (t1.andThen ((looks_findIn K hi.1).keeps k12)) (bind_fn (K.keeps k12) _ hi.2) ?_
  exact dS ((hc hp).2 (l:=l) (A:=A.under (.builtin "type.__call__" ⟨.ref (R.ca c) :: rvs,[]⟩)) (H.call1 _ _).zero (F.next (eσ▸o12)) (.cons rx (o12.stp.vrels r)) (fun v σ' ρ' rv s' o r q=>⟨(q.1▸r:aq R s'.heap ρ' .none rv).none' rfl,(k.after (eσ▸o12)) _ _ _ _ _ o (o.stp.vrel rx) q.2⟩) .none) (RV.mono (fun _ _ z=>z) fun _ _ z=>z)
end
namespace F
theorem plainAttrs_bytearray:PlainAttrs "bytearray" := ⟨⟨"bytearray.__getattribute__",by rw [typeLookup_type,builtinLookup_eq_fast];kernel_rfl,by decide +kernel⟩,by rw [typeLookup_type,builtinLookup_eq_fast];kernel_rfl⟩
theorem md{id:String}(h:fastBuiltinType id=pure (.type "method_descriptor")):typeOf (.builtin id)=pure (.type "method_descriptor"):=(congrFun builtinType_eq_fast id).trans h
end F
section
variable{R:Rt}{call:aw}{lx:bN}{d n:Nat}{l:List Env}{renv:Env}{env:au}{σ:List O}{Q:ag}{X:ak}{ρ:List Addr}{s s':Shared}{A:Around}{Qr Er:Value→Shared→Prop}
theorem vX{h:Heap}(b:B):Kp R.M h b.val:=.machine (B.rec (.of_pure rfl) (.of_pure rfl) (.of_pure rfl) (.of_pure rfl) (.of_pure rfl) (.of_pure rfl) (.of_pure rfl) (.of_pure rfl) (.of_pure rfl) (.of_pure rfl) (.of_pure rfl) (.of_pure rfl) (.of_pure rfl) b)
theorem GA(ok:aZ R)(pk:yt R)(hc:eP R d call){f:V}{vs:List V}{rf:Value}{rvs:List Value}(hp:GZ call f vs σ Q X)(H:br R d (n+1) A l)(F:Fs R l σ ρ s.heap)(hf:aq R s.heap ρ f rf)(hv:VRels R s.heap ρ vs rvs)(k:KQ R ρ s Q Qr)(kx:KX R l ρ [] s X Er) :
 Kp R.M s.heap rf∧aT R.M A (PySem.call rf rvs) Qr Er s:=by
 cases f with
 | fn i=>exact hf.fn' ⟨.of (ok.X.keeps F.st.base) (hc hp).1,AP hc hp H F hv k kx⟩
 | cls c=>exact hf.cls' (CL ok pk hc hp H F hv k)
 | blt b=>exact hf.blt' ⟨vX b,Ht ok H.handled H.guards F.st hv hp k⟩
 | _=>exact hp.elim
theorem Ft(ok:aZ R)(pk:yt R)(hc:eP R d call){f:E}{es:List E}{x:Str}{px p:Pos}{as:List PySem.Expr}(hf:Ok R call lx d (n+1) f (.Name x px))(ha:jf R call lx d (n+1) es as):Ok R call lx d (n+1) (.call f es) (.Call (.Name x px) as [] p):=fun {_ _ _ _ _ _ renv _ _ _ _} h H I k kx =>
 ah (t':=eval (.Name x px) renv >>= fun g=>callWith p g [] (backTo p (starEach as renv)) []) rfl (ab (hf h H I (fun v σ1 ρ1 ra s1 o1 r1 q1=>n6 ha q1 H (o1.inv I) (kx.after o1) fun vs σ2 ρ2 rvs s2 o2 r2 q2 =>
  GA ok pk hc q2 H ((o1.trans o2).inv I).fs (o2.stp.vrel r1) r2 ((k.after o1).after o2) ((kx.after o1).after o2)) kx))
theorem B8(pes:List PySem.Expr)(hz:pes.length < 29):methodCallForm (pes.length+0) (eE pes renv) []=true:=by
 have e:(eE pes renv).all (!·.1)=true:=by
  induction pes with
  | nil=>rfl
  | cons pe pes ih=>exact ih (Nat.lt_of_succ_lt hz)
 unfold methodCallForm
 rw [e]
 exact decide_eq_true (Nat.lt_of_lt_of_le hz (by decide))
noncomputable def IB(call:aw)(v:V)(Q:ag)(X:ak)(t:yg):aL :=
 yg.casesOn (motive:=fun _=>aL) t (fun f=>Ck call f v Q X) (qk .lAppend v Q) (qk .lExtend v Q) (qk .lPop v Q) (qk .bAppend v Q) (qk .bExtend v Q) (qk .index v Q) (qk .split v Q) (qk .join v Q) (qk .get v Q) (qk .bits v Q)
theorem pc(ok:aZ R){i:Nat}{x:Str}{T:String}{id:String}{rv:Value}{pl:Sem Bool}{Qr:Value×List Value→Shared→Prop}(e:BB[i]? = some x)(hT:s.TypeIs rv T)(pa:PlainAttrs T)(slot:Slot T x id)(hty:typeOf (.builtin id)=pure (.type "method_descriptor"))
 (hd:∀ a,rv = .ref a→∃ o,s.heap.get? a=some o∧o.dict=none) (k:Qr (.builtin id,[rv]) s):wpAny R.M A (getMethod rv (R.nm i) pl) Qr Er s:=(ok.fix i x e).1▸getMethod_builtin hT pa slot hty hd k
theorem ib{a:Addr}{o:PySem.Obj}(h:s.heap.get? a=some o)(e:o.dict=none):∀ b,Value.ref a = .ref b→∃ o,s.heap.get? b=some o∧o.dict=none:=fun _ q=>Value.ref.inj q▸⟨o,h,e⟩
theorem HW(ok:aZ R)(pk:yt R){as:pJ}{v:V}{a:Nat}{rv:Value}{pl:Sem Bool}{Qr:Value×List Value→Shared→Prop}(ha:a < R.nn)(hp:Mt call as env σ Q X v a)(S:St R σ ρ s.heap)(hv:aq R s.heap ρ v rv)
 (k:∀ t,as env σ (IB call v Q X t) X→Qr (Gr R t,[rv]) s):wpAny R.M A (getMethod rv (R.nm a) pl) Qr Er s:=by
 induction hp with
 | @own i c d a f es hi hd e hm h =>
  revert k
  refine hv.ref' fun ad ea k=>?_
  induction mh S ea hi hd with
  | @mk dx ds n h0 h1 ed r nd hob I =>
   have C:=pk.cls c h0 h1
   cases C.nm ha with
   | @meth g e1 hf ht =>
    rw [hm] at e1;cases e1
    refine method_fn (ok.X.keeps S.base) I C.ga C.gx hf ht ((r.look ok ha).elim fun o w=>?_) (k (.own f) h)
    have z:=(e▸w.2:oz R s.heap ρ none o).isSome
    cases o with
    | none=>show (lookIn (R.nm a) (dictOf ds n)).map _=_;rw [lookIn_dict,w.1];rfl
    | some _=>cases z
   | prop e1=>rw [hm] at e1;cases e1
   | no e1=>rw [hm] at e1;cases e1
 | lApp hi h=>revert k;exact hv.ref' fun ad ea k=>(S.obj _ _ _ ea hi).list' fun us m ho r=>pc ok (i:=1) rfl ⟨_,ho,rfl⟩ PySem.F.plainAttrs_list PySem.F.slot_list_append PySem.F.type_list_append (ib ho rfl) (k .lAppend h)
 | lExt hi h=>revert k;exact hv.ref' fun ad ea k=>(S.obj _ _ _ ea hi).list' fun us m ho r=>pc ok (i:=2) rfl ⟨_,ho,rfl⟩ PySem.F.plainAttrs_list PySem.F.slot_list_extend PySem.F.type_list_extend (ib ho rfl) (k .lExtend h)
 | lPop hi h=>revert k;exact hv.ref' fun ad ea k=>(S.obj _ _ _ ea hi).list' fun us m ho r=>pc ok (i:=3) rfl ⟨_,ho,rfl⟩ PySem.F.plainAttrs_list PySem.F.slot_list_pop PySem.F.type_list_pop (ib ho rfl) (k .lPop h)
 | bApp hi h=>revert k;exact hv.ref' fun ad ea k=>have ho:=(S.obj _ _ _ ea hi).bar';pc ok (i:=1) rfl (bL ho) F.plainAttrs_bytearray F.slot_bytearray_append (F.md (by kernel_rfl)) (ib ho rfl) (k .bAppend h)
 | bExt hi h=>revert k;exact hv.ref' fun ad ea k=>have ho:=(S.obj _ _ _ ea hi).bar';pc ok (i:=2) rfl (bL ho) F.plainAttrs_bytearray F.slot_bytearray_extend (F.md (by kernel_rfl)) (ib ho rfl) (k .bExtend h)
 | index h=>revert k;exact hv.bytes' fun t k=>pc ok (i:=4) rfl (typeIs_bytes _ _ _) FB.plainAttrs_bytes F.slot_bytes_index (F.md (by kernel_rfl)) (fun _ q=>Value.noConfusion q) (k .index h)
 | split h=>revert k;exact hv.bytes' fun t k=>pc ok (i:=5) rfl (typeIs_bytes _ _ _) FB.plainAttrs_bytes F.slot_bytes_split (F.md (by kernel_rfl)) (fun _ q=>Value.noConfusion q) (k .split h)
 | join h=>revert k;exact hv.bytes' fun t k=>pc ok (i:=6) rfl (typeIs_bytes _ _ _) FB.plainAttrs_bytes F.slot_bytes_join (F.md (by kernel_rfl)) (fun _ q=>Value.noConfusion q) (k .join h)
 | get hi h=>revert k;exact hv.ref' fun ad ea k=>(S.obj _ _ _ ea hi).idict' fun kvs hd _ _=>pc ok (i:=7) rfl hd.mapOf.typeIs PySem.F.plainAttrs_dict PySem.F.slot_dict_get PySem.F.type_dict_get (hd.elim fun o w=>w.elim fun _ w=>w.elim fun _ w=>ib w.1 w.2.1.2.1) (k .get h)
 | bits h=>revert k;exact hv.int' fun t k=>pc ok (i:=8) rfl (typeIs_int _ _ _) PySem.F.plainAttrs_int PySem.F.slot_int_bit_length PySem.F.type_int_bit_length (fun _ q=>Value.noConfusion q) (k .bits h)
theorem Ed(ok:aZ R)(pk:yt R)(hc:eP R d call){o:E}{a:Nat}{es:List E}{ob:PySem.Expr}{as:List PySem.Expr}{ap p:Pos}(ha:a < R.nn)(hb:Pl ob)(hl:Nat.beq ap.endLine p.line=true)(hz:as.length < 29)
 (ho:Ok R call lx d (n+1) o ob) (hes:jf R call lx d (n+1) es as):Ok R call lx d (n+1) (.meth o a es) (.Call (.Attribute ob (R.nm a) ap) as [] p):=fun {_ _ _ _ _ _ renv _ _ _ _} h H I k kx=>by
 refine ah (arm_eval_Call ..) (ah (congrArg (· >>= _) (hb.ba ..)) (ab (ho h H I (fun v σ1 ρ1 ra s1 o1 r1 q1=>ao ?_) kx)))
 have e:=parts (pos:=p) (renv:=renv) hes
 have ef:methodCallForm (as.length+0) (backTo p (starEach as renv)) []=true:=e▸B8 as hz
 refine ay (am (t:=calleeOf (methodCallForm (as.length+0) (backTo p (starEach as renv)) []) ob renv ra (R.nm a)) ?_)
 rw [ef]
 refine HW ok pk ha q1 o1.st r1 fun t q1=>?_
 refine ab (ah (t':=pure p) (if_pos ((Bool.or_eq_true _ _).mpr (.inr (beq_iff_eq.mpr (Nat.eq_of_beq_eq_true hl))))) (af ?_))
 refine n6 hes q1 H (o1.inv I) (kx.after o1) fun vs σ2 ρ2 rvs s2 o2 r2 q2=>?_
 have r1:=o2.stp.vrel r1
 have k:=(k.after o1).after o2
 cases t with
 | own f=>exact ⟨.of (ok.X.keeps o2.st.base) (hc q2).1,AP hc q2 H ((o1.trans o2).inv I).fs (.cons r1 r2) k ((kx.after o1).after o2)⟩
 | _=>exact ⟨.machine (.of_pure rfl),Hz ok H.guards o2.st r1 r2 q2 k⟩
end
noncomputable def KS(R:Rt)(lx:bN)(l:List Env)(renv:Env)(ow:List Addr)(env:au)(σ:List O)(ρ:List Addr)(s:Shared)(Qr:Unit→Shared→Prop):Prop :=
 ∀ s',bV R ρ ow s σ ρ s'→bM R lx l renv env σ ρ s'.heap→Qr () s'
noncomputable def GU(R:Rt)(lx:bN)(l:List Env)(renv:Env)(ow:List Addr)(ok:Nat→Str→Bool):Prop :=
 ∀ {A i x v rv env σ ρ s Qr Er},ok i x=true→bM R lx l renv env σ ρ s.heap→aq R s.heap ρ v rv→KS R lx l renv ow (env.set i (some v)) σ ρ s Qr→wpAny R.M A (storeName renv x rv) Qr Er s
noncomputable def yW(lx:bN)(i:Nat)(x:Str):Bool:=lx.nm[i]?==some (some x)&&lx.names.lookup x==some .local&&x != "__debug__"
section
variable{R:Rt}{lx:bN}{env:au}{σ:List O}{ρ:List Addr}{h h':Heap}{l:List Env}{renv:Env}
theorem bM.bind{env':au}{wa:Addr}(I:bM R lx l renv env σ ρ h)(hw:wa∈own renv)(hs:Heap.SameBut wa h h')(hd:∀ o,h.get? wa=some o→∀ xs n,o.data ≠ .seq xs n)(hwo:∃ o,h'.get? wa=some o∧∀ vs,o.data ≠ .fields vs)
 (hv:(∀ {w u},aq R h ρ w u→aq R h' ρ w u)→∃ m,h'.Ns renv.locals m∧∀ (j:Nat) (y:Str),lx.nm[j]? = some (some y)→eG R lx renv env' h' ρ m j y):bM R lx l renv env' σ ρ h'∧lK ρ [wa] h ρ h':=by
 have keepN:∀ b o,h.get? b=some o→b≠wa→h'.get? b=some o:=fun b o e nb=>(hs.2 b nb).trans e
 have ht:dO h h':=fun a xs n sl e=>⟨sl,keepN a _ e fun m=>hd _ (m▸e) _ _ rfl⟩
 have S:=I.st.same (h':=h') (fun b o e=>keepN b o (I.st.base b o e) fun m=>aK (I.sep wa hw).2.1 (m▸e)) ht fun a m o e=>keepN a o e fun z=>(I.sep wa hw).1 (z▸m)
 have live:∀ b o,h.get? b=some o→∃ o',h'.get? b=some o':=fun b o e=>by
  by_cases hb:b=wa
  · exact hb▸hwo.elim fun o w=>⟨o,w.1⟩
  · exact ⟨o,keepN b o e hb⟩
 have E:=I.env
 refine ⟨⟨S,⟨E.kind,E.names,E.glob,E.blt,hv fun r=>r.mono ht (.refl _),E.capart,E.cloc,E.dist⟩,fun a m=>⟨(I.sep a m).1,(I.sep a m).2.1,(I.sep a m).2.2.elim (live a)⟩,bA (fun a m o hh hd=>?_) I.ff,I.fsep⟩,.refl _,fun b o e _ nb=>keepN b o e fun q=>nb (List.mem_singleton.mpr q),live,fun _ m=>.inl m,ht⟩
 by_cases ha:a=wa
 · exact ha▸hwo
 · exact ⟨o,keepN a o hh ha,hd⟩
theorem fT{a:Addr}{m:Str→Option Value}(hn:h.Ns a m):(∃ o,h.get? a=some o∧∀ vs,o.data ≠ .fields vs)∧∀ o,h.get? a=some o→∀ xs n,o.data ≠ .seq xs n :=
 hn.elim fun o w=>w.elim fun es w=>w.elim fun ep w=>⟨⟨o,w.1,fun vs q=>Data.noConfusion (w.2.1.symm.trans q)⟩,fun o' e xs n q=>Data.noConfusion (w.2.1.symm.trans ((Option.some.inj (w.1.symm.trans e))▸q))⟩
theorem kL{a:Addr}{v:Option Value}(hn:h.IsCell a v):(∃ o,h.get? a=some o∧∀ vs,o.data ≠ .fields vs)∧∀ o,h.get? a=some o→∀ xs n,o.data ≠ .seq xs n :=
 hn.elim fun o w=>⟨⟨o,w.1,fun vs q=>Data.noConfusion (w.2.symm.trans q)⟩,fun o' e xs n q=>Data.noConfusion (w.2.symm.trans ((Option.some.inj (w.1.symm.trans e))▸q))⟩
theorem xO{i:Nat}{x:Str}(hc:eL lx i x=true):lx.nm[i]? = some (some x)∧(lx.names.lookup x=some .local∨lx.names.lookup x=some .cell) :=
 have c:=(Bool.and_eq_true _ _).mp ((Bool.and_eq_true _ _).mp hc).1
 ⟨eq_of_beq c.1,((Bool.or_eq_true _ _).mp c.2).imp eq_of_beq eq_of_beq⟩
theorem eG.set{env':au}{m m':Str→Option Value}{j:Nat}{y:Str}(z:eG R lx renv env h ρ m j y)(hw:∀ w,env'[j]? = some (some w)→env[j]? = some (some w))(up:∀ {w u},aq R h ρ w u→aq R h' ρ w u)(hm:m' y=m y)(hc:∀ c ov,renv.cells.lookup y=some c→h.IsCell c ov→h'.IsCell c ov):eG R lx renv env' h' ρ m' j y:=by
 cases z with
 | no k1 k2=>exact .no k1 k2
 | loc k1 va=>exact .loc k1 fun u e2=>(va u (hw u e2)).elim fun r q'=>⟨r,hm.trans q'.1,up q'.2⟩
 | cel k1 e1 d va=>exact .cel k1 e1 (hc _ _ e1 d) fun u e2=>(va u (hw u e2)).elim fun r q'=>⟨r,q'.1,up q'.2⟩
theorem kl{i j:Nat}{v w:V}(q:i≠j)(e:(env.set i (some v))[j]? = some (some w)):env[j]? = some (some w):=(List.getElem?_set_ne q).symm.trans e
theorem m7{i:Nat}{v w:V}(e:(env.set i (some v))[i]? = some (some w)):v=w:=by
 have hl:i < env.length:=List.length_set (as:=env)▸(List.getElem?_eq_some_iff.mp e).1
 rw [List.getElem?_set_self hl] at e
 exact Option.some.inj (Option.some.inj e)
theorem z5:GU R lx l renv [renv.locals] (yW lx):=by
 intro A i x v rv env σ ρ s Qr Er hc I hv k
 have c:=(Bool.and_eq_true _ _).mp ((Bool.and_eq_true _ _).mp hc).1
 have c1:=eq_of_beq c.1
 have h2:=eq_of_beq c.2
 have E:=I.env
 refine E.vars.elim fun m z=>wpAny_storeName_local (d8 E h2) z.1 (fun h' hn hs=>?_) (by rw [E.kind];rfl)
 have w:=I.bind (env':=env.set i (some v)) (.head _) hs (fT z.1).2 (fT hn).1 fun up=>⟨_,hn,fun j y e=>?_⟩
 · exact k _ ⟨w.1.st,w.2,rfl,rfl,rfl⟩ w.1
 by_cases q:i=j
 · subst q
   rw [c1] at e
   cases e
   exact .loc h2 fun u e2=>⟨rv,if_pos rfl,m7 e2▸up hv⟩
 · exact (z.2 j y e).set (fun _=>kl q) up (if_neg fun z:y=x=>q (E.dist i j x c1 (z▸e))) fun c ov e1 d=>d.elim fun o w=>⟨o,(hs.2 _ (E.cloc _ _ e1)).trans w.1,w.2⟩
theorem fx:GU R lx l renv (own renv) (eL lx):=by
 intro A i x v rv env σ ρ s Qr Er hc I hv k
 have c:=xO hc
 refine c.2.elim (fun h2=>z5 (i:=i) ?_ I hv fun s' o I'=>k _ (o.weaken fun a m=>.inl (List.mem_singleton.mp m ▸ .head _)) I') fun h2=>?_
 · have c:=(Bool.and_eq_true _ _).mp hc
   have c1:=(Bool.and_eq_true _ _).mp c.1
   exact (Bool.and_eq_true _ _).mpr ⟨(Bool.and_eq_true _ _).mpr ⟨c1.1,beq_iff_eq.mpr h2⟩,c.2⟩
 have E:=I.env
 refine E.vars.elim fun m z=>?_
 cases z.2 i x c.1 with
 | no k1 k2=>exact absurd h2 k2
 | loc k1=>rw [h2] at k1;cases k1
 | @cel k0 cc ov e1 d va =>
 refine wpAny_storeName_cell E.kind (d8 E h2) e1 d fun h' hn hs=>?_
 have w:=I.bind (env':=env.set i (some v)) (eQ e1) hs (kL d).2 (kL hn).1 fun up=>⟨m,z.1.elim fun o w=>w.elim fun es w=>w.elim fun ep w=>⟨o,es,ep,(hs.2 _ fun q=>E.cloc _ _ e1 q.symm).trans w.1,w.2⟩,fun j y e=>?_⟩
 · exact k _ ⟨w.1.st,w.2.weaken fun a m=>.inl (List.mem_singleton.mp m▸eQ e1),rfl,rfl,rfl⟩ w.1
 by_cases q:i=j
 · subst q
   rw [c.1] at e
   cases e
   exact .cel h2 e1 hn fun u e2=>⟨rv,rfl,m7 e2▸up hv⟩
 · exact (z.2 j y e).set (fun _=>kl q) up rfl fun c2 ov f1 d=>d.elim fun o w=>⟨o,(hs.2 c2 fun z=>q (E.dist i j x c.1 (E.capart y x c2 f1 (e1.trans (congrArg some z.symm))▸e))).trans w.1,w.2⟩
end
inductive pZ(R:Rt)(h:Heap)(ρ:List Addr):Fl→Flow→Prop
 | next:pZ R h ρ .next .next
 | brk:pZ R h ρ .brk .brk
 | cont:pZ R h ρ .cont .cont
 | ret {v:V} {rv:Value} (r:aq R h ρ v rv):pZ R h ρ (.ret v) (.ret rv)
inductive DL(renv:Env):List Env→Prop
 | mk {outer:List Env} (h:renv.frame=some renv.locals):DL renv (renv :: outer)
noncomputable def KF(R:Rt)(lx:bN)(l:List Env)(renv:Env)(ρ:List Addr)(s:Shared)(Q:aF)(Qr:Flow→Shared→Prop):Prop :=
 ∀ fl env' σ' ρ' f s',bV R ρ (own renv) s σ' ρ' s'→bM R lx l renv env' σ' ρ' s'.heap→pZ R s'.heap ρ' fl f→Q fl env' σ'→Qr f s'
noncomputable def Ig(R:Rt)(lx:bN)(d n:Nat)(v:yw)(t:Env→Sem Flow):Prop :=
 ∀ {env σ Q X A l renv ρ s Qr Er},v env σ Q X→br R d n A l→DL renv l→bM R lx l renv env σ ρ s.heap→KF R lx l renv ρ s Q Qr→KX R l ρ (own renv) s X Er→aT R.M A (t renv) Qr Er s
noncomputable abbrev eK(R:Rt)(call:aw)(lx:bN)(d n:Nat)(st:S)(pst:PySem.Stmt):Prop:=Ig R lx d n (HP call st) (exec pst)
noncomputable abbrev gA(R:Rt)(call:aw)(lx:bN)(d n:Nat)(ss:List S)(pss:List PySem.Stmt):Prop:=Ig R lx d n (vcSs call ss) (execs pss)
noncomputable def m8(pe:PySem.Expr):Prop:=∀ t k env,swapsWith pe t k env=pure false
section
variable{R:Rt}{call:aw}{lx:bN}{d n:Nat}
section
variable{l:List Env}{renv:Env}{env:au}{σ σ':List O}{Q:aF}{X:ak}{ρ ρ':List Addr}{s s':Shared}{A:Around}{Qr:Flow→Shared→Prop}{Er:Value→Shared→Prop}
theorem KF.after(k:KF R lx l renv ρ s Q Qr)(o:bV R ρ (own renv) s σ' ρ' s'):KF R lx l renv ρ' s' Q Qr:=fun _ _ _ _ _ _ t=>k _ _ _ _ _ _ (o.trans t)
theorem KF.here(k:KF R lx l renv ρ s Q Qr)(I:bM R lx l renv env σ ρ s.heap){fl:Fl}{f:Flow}(r:pZ R s.heap ρ fl f)(q:Q fl env σ):Qr f s:=k _ _ _ _ _ _ (.refl I.st) I r q
theorem KF.next(k:KF R lx l renv ρ s Q Qr)(I:bM R lx l renv env σ ρ s.heap)(o:bV R ρ [] s σ' ρ' s')(q:Q .next env σ'):Qr .next s':=k _ _ _ _ _ _ o.wide (o.inv I) .next q
end
section
variable{c e e' o:E}{a b v t:PySem.Expr}{p q:Pos}{x y:List PySem.Stmt}{s1 s2:List S}
theorem GN:eK R call lx d n .brk (.Break p):=fun h H F I k kx=>ah (arm_exec_Break ..) (ao (af (k.here I .brk h)))
theorem E1:eK R call lx d n .cont (.Continue p):=fun h H F I k kx=>ah (arm_exec_Continue ..) (ao (af (k.here I .cont h)))
theorem EB:eK R call lx d n .pass (.Pass p):=fun h H F I k kx=>ah (arm_exec_Pass ..) (ao (af (k.here I .next h)))
theorem Gw(he:Ok R call lx d n e v):eK R call lx d n (.ret e) (.Return (some v) p):=fun h H F I k kx =>
 ah (exec_Return_some ..) (ao (ab (he h H I (fun v σ1 ρ1 ra s1 o1 r1 q1=>af ((k.after o1.wide).here (o1.inv I) (.ret r1) q1)) kx.thin)))
theorem FO(hc:wY R call lx d n c t)(hb:gA R call lx d n s1 x)(ho:gA R call lx d n s2 y):eK R call lx d n (.ife c s1 s2) (.If t x y p):=fun h H F I k kx =>
 ah (arm_exec_If ..) (ao (ab (hc h H I (fun t σ1 ρ1 s1 o1 q1=>by
  cases t with
  | true=>exact hb q1 H F (o1.inv I) (k.after o1.wide) (kx.after o1.wide)
  | false=>exact ho q1 H F (o1.inv I) (k.after o1.wide) (kx.after o1.wide)) kx.thin)))
theorem G8:gA R call lx d n [] []:=fun h H F I k kx=>ah (arm_execs_nil ..) (af (k.here I .next h))
theorem EP{a:S}{st:PySem.Stmt}(ha:eK R call lx d n a st)(hb:gA R call lx d n s1 x):gA R call lx d n (a :: s1) (st :: x):=fun h H F I k kx =>
 ah (arm_execs_cons ..) (ab (ha (Q:=kr (vcSs call s1) _ _) h H F I (fun fl env' σ' ρ' f s' o I' r q=>by
  have k:=k.after o
  induction r with
  | next=>exact hb q H F I' k (kx.after o)
  | brk=>exact af (k.here I' .brk q)
  | cont=>exact af (k.here I' .cont q)
  | ret r=>exact af (k.here I' (.ret r) q)) kx))
theorem yd{l:List Env}{renv:Env}{env:au}{σ:List O}{ρ:List Addr}{h:Heap}(I:bM R lx l renv env σ ρ h):interactive renv=false:=by unfold interactive;rw [I.env.kind];rfl
theorem Fe(hn:m8 v)(he:Ok R call lx d n e v):eK R call lx d n (.expr e) (.Expr v p):=fun h H F I k kx =>
 ah (arm_exec_Expr ..) (ao (cH (yd I) (cn (hn ..) (cH rfl (ab (he h H I (fun w σ1 ρ1 ra s1 o1 r1 q1=>am (wpAny_dropValue (k.next I o1 q1))) kx.thin))))))
theorem dT{renv:Env}{A:Around}{s:Shared}{Qr:Flow→Shared→Prop}{Er:Value→Shared→Prop}(hn:m8 v)(e2:swappedStores [t] v renv=pure none)(e3:(assignEach [t] renv).map (·.2)=[assign t renv])
 (h:aT R.M A (eval v renv) (fun x s'=>aT R.M A (assign t renv x) (fun _ s''=>Qr .next s'') Er s') Er s):aT R.M A (exec (.Assign [t] v p) renv) Qr Er s :=
 ah (arm_exec_Assign ..) (ao (cn (m:=swapsWithSole [t] v p.line renv) (hn (some t) p.line renv) (cH rfl (ab (bz h (fun x s' z=>cn e2 (ah (congrArg (assignStores renv x none) e3) (ab (ah (t':=assign t renv x) rfl (bz z (fun _ _ z=>af z) fun _ _ x=>x))))) fun _ _ x=>x)))))
theorem GJ{i:Nat}{x:Str}(hc:eL lx i x=true)(hn:m8 v)(he:Ok R call lx d n e v):eK R call lx d n (.asg i e) (.Assign [.Name x q] v p):=fun h H F I k kx =>
 dT hn rfl rfl (he h H I (fun w σ1 ρ1 ra s1 o1 r1 q1=>am (wpAny_assign_Name (fx hc (o1.inv I) r1 fun s' o I'=>(k.after o1.wide) _ _ _ _ _ _ o I' .next q1))) kx.thin)
theorem EN(ok:aZ R)(pk:yt R){f:Nat}(ha:f < R.nn)(hn:m8 v)(ho:Ok R call lx d n o b)(he:Ok R call lx d n e v):eK R call lx d n (.setA o f e) (.Assign [.Attribute b (R.nm f) q] v p):=fun h H F I k kx =>
 dT hn rfl rfl (he h H I (fun w σ1 ρ1 ra s1 o1 r1 q1=>ah (arm_assign_Attribute ..) (ay (ho q1 H (o1.inv I) (fun ov σ2 ρ2 rb s2 o2 r2 q2=>ao (ai (wpAny_holding (G7 ok pk o2.st ha r2 (o2.stp.vrel r1) q2 fun σ' s' o' q' =>
  am (wpAny_release (k.next I ((o1.trans o2).trans o') q')))))) (kx.thin.after o1)))) kx.thin)
noncomputable def HC(σ:List O)(Q:ag)(op:Op)(x y:V):Prop:=Op.casesOn (motive:=fun _=>Prop) op True (∃ i j,x = .int i∧y = .int j∧Q (.int (i - j)) σ) True True True True True True
theorem Fm{σ:List O}{Q:ag}{op:Op}{x y:V}(h:Bn σ Q op x y):HC σ Q op x y:=by
 induction h with
 | sub e h=>exact ⟨_,_,rfl,rfl,e▸h⟩
 | _=>exact trivial
theorem Fw(ok:aZ R)(pk:yt R)(hc:eP R d call){f:Nat}(ha:f < R.nn)(ho:Ok R call lx d (n+1) o b)(he:Ok R call lx d (n+1) e v):eK R call lx d (n+1) (.augA o f .sub e) (.AugAssign (.Attribute b (R.nm f) q) .Sub v p):=fun h H F I k kx=>by
 refine ah (arm_exec_AugAssign_2 ..) (ao (ab (ho h H I (fun ov σ1 ρ1 ra s1 o1 r1 q1=>ay (ao (ab (GD ok pk hc ha q1 H (o1.inv I).fs r1 fun x σ2 ρ2 rx s2 o2 r2 q2=>ay (he q2 H ((o1.trans o2).inv I) (fun y σ3 ρ3 ry s3 o3 r3 q3=>?_) ((kx.thin.after o1).after o2)))))) kx.thin)))
 have o123:=(o1.trans o2).trans o3
 refine (Fm q3).elim fun i w=>w.elim fun j w=>?_
 cases w.1
 cases w.2.1
 exact (o3.stp.vrel r2).int' fun t=>r3.int' fun u=>ao (dq (am (isub_int (ao (ai (wpAny_holding (G7 ok pk (s:={ s3 with toks:=s3.toks+1 }) o3.st ha ((o2.trans o3).stp.vrel r1) (.int _ _) w.2.2 fun σ' s' o' q' =>
  ai (wpAny_release (af (k.next I ((o123.trans (.toks o3.st _)).trans o') q'))))))))))
end
end
section
variable{K:Type}[DecidableEq K]
theorem Az(kvs:List (K×Value))(k:K):kvs.any (fun kv=>decide (kv.1=k))=(valueAt kvs k).isSome:=by
 unfold valueAt;rw [Option.isSome_map,Bool.eq_iff_iff,List.find?_isSome,List.any_eq_true]
theorem yp(kvs:List (K×Value))(k:K)(v:Value)(x:K):valueAt (stored kvs k v) x=if x=k then some v else valueAt kvs x:=by
 unfold stored
 rw [Az]
 cases e:valueAt kvs k with
 | some u =>
  rw [Option.isSome_some,if_pos rfl]
  unfold valueAt at e ⊢
  rw [List.find?_map,show (fun kv:K×Value=>decide (kv.1=x)) ∘ (fun kv=>if kv.1=k then (kv.1,v) else kv)=fun kv=>decide (kv.1=x) from funext fun kv=>congrArg (fun y=>decide (y=x)) (show (if kv.1=k then (kv.1,v) else kv).1=kv.1 by split<;>rfl)]
  by_cases q:x=k
  · subst q
    rw [if_pos rfl]
    cases e2:kvs.find? fun kv=>decide (kv.1=x) with
    | none=>rw [e2] at e;cases e
    | some kv=>exact congrArg (fun y:K×Value=>some y.2) (if_pos (of_decide_eq_true (List.find?_some (p:=fun kv:K×Value=>decide (kv.1=x)) e2)))
  · rw [if_neg q]
    cases e2:kvs.find? fun kv=>decide (kv.1=x) with
    | none=>rfl
    | some kv=>exact congrArg (fun y:K×Value=>some y.2) (if_neg fun z=>q ((of_decide_eq_true (List.find?_some (p:=fun kv:K×Value=>decide (kv.1=x)) e2)).symm.trans z))
 | none =>
  rw [Option.isSome_none,if_neg Bool.false_ne_true]
  unfold valueAt at e ⊢
  rw [List.find?_append,Option.map_or]
  by_cases q:x=k
  · subst q
    rw [e,if_pos rfl,Option.none_or,List.find?_cons,decide_eq_true rfl];rfl
  · rw [if_neg q,List.find?_cons,decide_eq_false fun z=>q z.symm];exact Option.or_none
theorem wt(kvs:List (K×Value))(k:K)(v:Value):(stored kvs k v).length=if (valueAt kvs k).isSome then kvs.length else kvs.length+1:=by
 unfold stored
 rw [Az]
 split
 · exact List.length_map ..
 · exact List.length_append
end
section
variable{α:Type}[BEq α][LawfulBEq α]
theorem Fx(k:α)(v:V)(x:α):∀ es:List (α×V),(putL k v es).lookup x=if x==k then some v else es.lookup x:=by
 intro es
 induction es with
 | nil=>show (match x==k with | true=>some v | false=>none)=_;cases x==k<;>rfl
 | cons p r ih =>
  show (if (k==p.1)=true then _ else _:List (α×V)).lookup x=_
  by_cases q:(k==p.1)=true
  · have q':=eq_of_beq q
    rw [if_pos q,List.lookup_cons,List.lookup_cons,← q']
    cases x==k<;>rfl
  · rw [if_neg q,List.lookup_cons,List.lookup_cons,ih]
    cases e:x==p.1 with
    | false=>rfl
    | true=>rw [eq_of_beq e,show (p.1==k)=false from beq_eq_false_iff_ne.mpr fun z=>q (z▸beq_self_eq_true _)];rfl
theorem Dv(k:α)(v:V):∀ es:List (α×V),(putL k v es).length=if (es.lookup k).isSome then es.length else es.length+1:=by
 intro es
 induction es with
 | nil=>rfl
 | cons p r ih =>
  show (if (k==p.1)=true then _ else _:List (α×V)).length=_
  rw [List.lookup_cons]
  cases k==p.1 with
  | true=>rfl
  | false=>exact (congrArg (·+1) ih).trans (apply_ite (·+1) _ _ _)
end
section
variable{R:Rt}{h:Heap}{ρ:List Addr}
theorem ot{K α:Type}[DecidableEq K][BEq α][LawfulBEq α]{g:α→K}{okk:α→Prop}{kvs:List (K×Value)}{es:List (α×V)}{k:α}{v:V}{rv:Value}(hg:∀ a b,okk a→okk b→g a=g b→a=b)(hk:okk k)(r:qP R h ρ g okk (valueAt kvs) es)(hv:aq R h ρ v rv)(hl:kvs.length≤es.length) :
 qP R h ρ g okk (valueAt (stored kvs (g k) rv)) (putL k v es)∧(stored kvs (g k) rv).length≤(putL k v es).length:=by
 refine ⟨fun x hx=>?_,?_⟩
 · rw [Fx,yp]
   cases q:x==k with
   | true=>rw [eq_of_beq q,if_pos rfl,if_pos rfl];exact .some hv
   | false=>rw [if_neg Bool.false_ne_true,if_neg fun z=>beq_eq_false_iff_ne.mp q (hg x k hx hk z)];exact r x hx
 · rw [wt,Dv,(r k hk).isSome]
   cases (es.lookup k).isSome with
   | true=>exact hl
   | false=>exact Nat.succ_le_succ hl
theorem HH(ok:aZ R){Q:bn}{σ:List O}{o k v:V}{ro rk rv:Value}{A:Around}{s:Shared}{Qr:Unit→Shared→Prop}{Er:Value→Shared→Prop}(S:St R σ ρ s.heap)(ho:aq R s.heap ρ o ro)(hk:aq R s.heap ρ k rk)(hv:aq R s.heap ρ v rv)(hp:Si σ Q o k v)(kq:KO R ρ s Q Qr):wpAny R.M A (setItem ro rk rv) Qr Er s:=by
 induction hp with
 | @sdict i x v es es' hi hl e h =>
  refine ho.ref' fun ad ea=>hk.str' fun u hx=>(S.obj _ _ _ ea hi).sdict' fun kvs hd hlk hm=>?_
  have m:=ot (rv:=rv) (g:=R.nm) (okk:=fun k=>k < R.nn) (fun a b ha hb z=>ok.inj a b ha hb z) hx hm hv hlk
  exact wpAny_setItem_pairs (knd:=PySem.strKind R.prog R.w) (k:=R.nm x) (beq_self_eq_true _) hd (fun h' hd' hs=>kq.upd S hi ea hs (fun ht=>.sdict hd' (e▸m.2) (e▸fun x hx=>(m.1 x hx).mono ht (.refl _))) h) (Nat.le_trans hlk (Nat.le_trans (Nat.le_of_ble_eq_true hl) (by rw [sizeLine_eq];decide)))
 | @idict i x v es es' hi hl e h =>
  refine ho.ref' fun ad ea=>hk.int' fun u=>(S.obj _ _ _ ea hi).idict' fun kvs hd hlk hm=>?_
  have m:=ot (rv:=rv) (k:=x) (g:=fun k:Int=>k) (okk:=fun _=>True) (fun a b _ _ z=>z) trivial hm hv hlk
  exact wpAny_setItem_pairs (knd:=intKind R.prog R.w) (k:=x) (beq_self_eq_true _) hd (fun h' hd' hs=>kq.upd S hi ea hs (fun ht=>.idict hd' (e▸m.2) (e▸fun x hx=>(m.1 x hx).mono ht (.refl _))) h) (Nat.le_trans hlk (aU hl))
end
section
variable{R:Rt}{call:aw}{lx:bN}{d n:Nat}
theorem EA(ok:aZ R){o k e:E}{ob ix v:PySem.Expr}{q p:Pos}(hn:m8 v)(ho:Ok R call lx d n o ob)(hk:Ok R call lx d n k ix)(he:Ok R call lx d n e v):eK R call lx d n (.setI o k e) (.Assign [.Subscript ob ix q] v p):=fun h H F I kf kx =>
 dT hn rfl rfl (he h H I (fun w σ1 ρ1 ra s1 o1 r1 q1=>ah (arm_assign_Subscript ..) (ay (ho q1 H (o1.inv I) (fun ov σ2 ρ2 rb s2 o2 r2 q2=>ay (hk q2 H ((o1.trans o2).inv I) (fun kv σ3 ρ3 rc s3 o3 r3 q3=>ao (ai (wpAny_holding (HH ok o3.st (o3.stp.vrel r2) r3 ((o2.trans o3).stp.vrel r1) q3 fun σ' s' o' q' =>
  am (wpAny_release (kf.next I (((o1.trans o2).trans o3).trans o') q')))))) ((kx.thin.after o1).after o2))) (kx.thin.after o1)))) kx.thin)
end
inductive y5(ok:Nat→Str→Bool):List Nat→List PySem.Expr→List Str→Prop
 | nil:y5 ok [] [] []
 | cons {i x p is xs ns} (h:ok i x=true) (r:y5 ok is xs ns):y5 ok (i :: is) (.Name x p :: xs) (x :: ns)
noncomputable def xH(lx:bN):Env:={ scope:=⟨.function,lx.names,false,false,[]⟩,locals:=0,globals:=0,cells:=[] }
theorem Ef{lx:bN}{renv:Env}{ts:List PySem.Expr}{v:PySem.Expr}(hk:renv.scope.kind = .function)(hn:renv.scope.names=lx.names):swappedStores ts v renv=swappedStores ts v (xH lx):=by
 obtain ⟨⟨k,n,g,c,m⟩,lo,gl,ce,q,f,co,fr,b⟩:=renv
 cases hk
 cases hn
 rfl
section
variable{R:Rt}{call:aw}{lx:bN}{d n:Nat}{l:List Env}{renv:Env}{A:Around}{Er:Value→Shared→Prop}{σ:List O}{ρ:List Addr}{is:List Nat}{xs:List PySem.Expr}{ns:List Str}{ow:List Addr}{okn:Nat→Str→Bool}
theorem KS.after{env:au}{s s':Shared}{Qr:Unit→Shared→Prop}(k:KS R lx l renv ow env σ ρ s Qr)(o:bV R ρ ow s σ ρ s'):KS R lx l renv ow env σ ρ s' Qr:=fun _ o'=>k _ (o.trans o')
theorem AI(sto:GU R lx l renv ow okn)(hc:y5 okn is xs ns):∀ {vs:List V} {rvs:List Value} {env env':au} {s:Shared} {Qr:Unit→Shared→Prop},a9 is vs env=some env'→bM R lx l renv env σ ρ s.heap→VRels R s.heap ρ vs rvs→KS R lx l renv ow env' σ ρ s Qr →
 wpAny R.M A (assignInOrder ((assignEach xs renv).map (·.2)) rvs) Qr Er s:=by
 induction hc with
 | nil =>
  intro vs rvs env env' s Qr he I hv k
  cases vs with
  | nil=>exact wpAny_pure (k _ (.refl I.st) (Option.some.inj he▸I))
  | cons _ _=>cases he
 | @cons i x p is xs ns h r ih =>
  intro vs rvs env env' s Qr he I hv k
  cases vs with
  | nil=>cases he
  | cons v vs=>exact hv.cons' fun rv rvs r1 rs=>wpAny_bind (wpAny_holding (wpAny_assign_Name (sto h I r1 fun s' o I'=>ih he I' (o.stp.vrels rs) (k.after o))))
theorem qX{i:Nat}{v:V}:∀ {is:List Nat} {vs:List V} {env:au},i∉is→a9 is vs (env.set i (some v))=(a9 is vs env).map fun e=>e.set i (some v):=by
 intro is
 induction is with
 | nil=>intro vs env _;cases vs<;>rfl
 | cons j is ih =>
  intro vs env h
  cases vs with
  | nil=>rfl
  | cons w vs =>
   show a9 is vs ((env.set i (some v)).set j (some w))=(a9 is vs (env.set j (some w))).map _
   rw [List.set_comm _ _ fun e:i=j=>h (e ▸ .head _),ih fun m=>h (.tail _ m)]
theorem Dm{Qr:Unit→Shared→Prop}(hc:y5 (eL lx) is xs ns):∀ {vs:List V} {rvs:List Value} {env env':au} {s:Shared} {fs:List (Value→Sem Unit)} {us:List Value},is.Nodup→a9 is vs env=some env'→bM R lx l renv env σ ρ s.heap→VRels R s.heap ρ vs rvs →
 KS R lx l renv (own renv) env' σ ρ s (fun _ s'=>wpAny R.M A (assignInOrder fs us) Qr Er s')→wpAny R.M A (assignInOrder (ns.reverse.map (fun n=>bindName renv n)++fs) (rvs.reverse++us)) Qr Er s∧ns.length=rvs.length:=by
 induction hc with
 | nil =>
  intro vs rvs env env' s fs us _ he I hv k
  cases vs with
  | nil=>exact hv.nil' ⟨k _ (.refl I.st) (Option.some.inj he▸I),rfl⟩
  | cons _ _=>cases he
 | @cons i x p is xs ns h r ih =>
  intro vs rvs env env' s fs us hd he I hv k
  cases vs with
  | nil=>cases he
  | cons v vs =>
   have hd:=List.nodup_cons.mp hd
   have he:=(qX hd.1).symm.trans he
   cases e:a9 is vs env with
   | none=>rw [e] at he;cases he
   | some env1 =>
    rw [e] at he
    cases he
    refine hv.cons' fun rv rvs r1 rs=>?_
    have z:=ih (fs:=(fun v=>bindName renv x v) :: fs) (us:=rv :: us) hd.2 e I rs fun s' o I'=>wpAny_bind (wpAny_holding (wpAny_bindName (fx h I' (o.stp.vrel r1) (k.after o))))
    rw [List.reverse_cons,List.reverse_cons,List.map_append,List.append_assoc,List.append_assoc]
    exact ⟨z.1,congrArg (·+1) z.2⟩
theorem uD(hc:y5 okn is xs ns):(assignEach xs renv).findIdx? (·.1)=none∧(assignEach xs renv).length=xs.length:=by
 induction hc with
 | nil=>exact ⟨rfl,rfl⟩
 | @cons i x p is xs ns h r ih=>exact ⟨by show (((false,assign (.Name x p) renv) :: assignEach xs renv).findIdx? (·.1))=none;rw [List.findIdx?_cons,ih.1];rfl,congrArg (·+1) ih.2⟩
theorem tK:∀ {is:List Nat} {vs:List V} {env env':au},a9 is vs env=some env'→is.length=vs.length:=by
 intro is
 induction is with
 | nil=>intro vs env env' h;cases vs with
  | nil=>rfl
  | cons _ _=>cases h
 | cons i is ih=>intro vs env env' h;cases vs with
  | nil=>cases h
  | cons _ _=>exact congrArg (·+1) (ih h)
theorem y5.len(hc:y5 okn is xs ns):is.length=xs.length:=by
 induction hc with
 | nil=>rfl
 | cons _ _ ih=>exact congrArg (·+1) ih
theorem pY{kd:Nat}{q:Pos}{vs:List V}{rv:Value}{env env':au}{s:Shared}{Qr:Unit→Shared→Prop}(sto:GU R lx l renv ow okn)(hh:A.handled=none)(hc:y5 okn is xs ns)(es:a9 is vs env=some env')(I:bM R lx l renv env σ ρ s.heap)(r:aq R s.heap ρ (.tup vs) rv)(k:KS R lx l renv ow env' σ ρ s Qr) :
 wpAny R.M A (assign (.Tuple xs kd q) renv rv) Qr Er s:=by
 refine r.tup' fun ta rvs nt sl et rr=>?_
 have hl:xs.length=rvs.toArray.size:=by rw [List.size_toArray,← rr.length,← tK es,hc.len]
 refine (arm_assign_Tuple xs kd q renv (.ref ta)).symm▸wpAny_bind (wpAny_standAt ?_)
 unfold unpack
 rw [(uD hc).1,(uD hc).2,hl]
 exact wpAny_bind (wpAny_holding (unpackItems_tuple hh ⟨_,et,rfl,_,rfl⟩ fun h' he=>by
  have o2:bV R ρ [] s σ ρ { s with heap:=h' }:=.keep I.st (fun b o e=>he b o (Nat.ne_of_lt (Heap.lt_size e)) e) _
  exact AI sto hc es (o2.inv I) (o2.stp.vrels rr) (k.after o2.wide)))
theorem zc{ts:List Nat}{env:au}{Q:aF}{v:V}{G:Prop}(h:DF ts env Q v σ)(k:∀ vs env',v = .tup vs→a9 ts vs env=some env'→Q .next env' σ→G):G:=by
 cases v with
 | tup vs =>
  have h:(match a9 ts vs env with | some env'=>Q .next env' σ | none=>False):=h
  cases e:a9 ts vs env with
  | none=>rw [e] at h;exact h.elim
  | some env'=>rw [e] at h;exact k _ _ rfl e h
 | _=>exact h.elim
theorem ES{ts:List Nat}{e:E}{k:Nat}{q p:Pos}{v:PySem.Expr}(hc:y5 (eL lx) ts xs ns)(hd:ts.Nodup)(hn:m8 v)(sw:swappedStores [.Tuple xs k q] v (xH lx)=pure none∨swappedStores [.Tuple xs k q] v (xH lx)=pure (some ns))(he:Ok R call lx d n e v):eK R call lx d n (.asgT ts e) (.Assign [.Tuple xs k q] v p):=fun {env σ Q X A l renv ρ s Qr Er} h H F I kf kx =>
 ah (arm_exec_Assign ..) (ao (cn (m:=swapsWithSole [.Tuple xs k q] v p.line renv) (hn (some (.Tuple xs k q)) p.line renv) (cH rfl (ab (he h H I (fun w σ1 ρ1 ra s1 o1 r1 q1=>zc q1 fun vs env' ev es q2=>by
  subst ev
  have e0:swappedStores [.Tuple xs k q] v renv=_:=Ef I.env.kind I.env.names
  have kf:=kf.after o1.wide
  refine sw.elim (fun sw=>?_) fun sw=>?_
  · exact cn (e0.trans sw) (ab (ah (t':=assign (.Tuple xs k q) renv _) rfl (am (pY fx H.handled hc es (o1.inv I) r1 fun s' o' I'=>af (kf _ _ _ _ _ _ o' I' .next q2)))))
  refine r1.tup' fun ta rvs nt sl et rr=>?_
  have hT:IsTup s1.heap ta rvs.toArray:=⟨_,et,rfl,_,rfl⟩
  have kp:∀ {h'},Heap.ExtBut s1.heap.objs.size s1.heap h'→Mine.Keeps s1.heap h':=fun he b o e=>he b o (Nat.ne_of_lt (Heap.lt_size e)) e
  · refine cn (e0.trans sw) (ai (wpAny_rule (ai ?_)))
    have z:=fun (h':Heap) (he:Heap.ExtBut s1.heap.objs.size s1.heap h')=>have o2:bV R ρ1 [] s1 σ1 ρ1 { s1 with heap:=h' }:=.keep o1.st (kp he) _;Dm (A:=A) (Er:=Er) (fs:=[]) (us:=[]) (Qr:=fun _=>aT R.M A (pure .next) Qr Er) hc hd es (o2.inv (o1.inv I)) (o2.stp.vrels rr) fun s' o' I'=>wpAny_pure (af ((kf.after o2.wide) _ _ _ _ _ _ o' I' .next q2))
    rw [(z _ fun _ _ _ e=>e).2]
    exact unpackItems_tuple H.handled hT fun h' he=>ai (by have z:=(z h' he).1;rw [List.append_nil,List.append_nil] at z;exact z)) kx.thin)))))
end
inductive iq(R:Rt)(ρ:List Addr)(h0 h:Heap)(e:Addr)(told:ae)(x:Value):Prop
 | mk {d vs sl hs t t' n T c d' ts sl'} (he:h.get? e=some ⟨.ref (R.ca aQ),some d,.fields vs,sl⟩) (hz:1 < vs.size) (hd:h.get? d=some (fU [⟨hs,.str (R.nm cO) t,.bytes told.toArray t'⟩] n)) (ne:vC R ρ h0 e) (nd:vC R ρ h0 d)
  (h1:vs[1]? = some (.ref T)) (hT:h.get? T=some ⟨c,d',.fields ts,sl'⟩) (neT:T≠e) (nT:vC R ρ h0 T) (h3:ts[3]? = some x):iq R ρ h0 h e told x
noncomputable def Hv(L:Option Addr)(x:Value):Prop:=x = .none∨∃ a,L=some a∧x=rawInt a
noncomputable def KN(R:Rt)(l:List Env)(ρ own:List Addr)(s:Shared)(σ':List O)(ρ':List Addr)(e:Addr)(told:ae)(x:Value)(Q:Unit→Shared→Prop):Prop :=
 ∀ s',jo R l ρ own s σ' ρ' e told s'→iq R ρ' s.heap s'.heap e told x→Q () s'
section
variable{R:Rt}{lx:bN}{σ σ':List O}{ρ ρ' own_:List Addr}{l outer:List Env}{renv:Env}{s s':Shared}{e:Addr}{told:ae}{h':Heap}{tk:Nat}{A:Around}{Q:Unit→Shared→Prop}{Er:Value→Shared→Prop}{L:Addr}
theorem iq.in{L:Option Addr}{h0 h:Heap}{x:Value}(X:iq R ρ h0 h e told x)(hx:Hv L x):eT R L ρ h0 h e told:=by
 induction X with
 | mk he hz hd ne nd h1 hT neT nT h3=>exact .mk he hz (.tb h1 hT neT nT h3 hx) hd ne nd
theorem jo.step{z:Addr}(t:jo R l ρ own_ s σ' ρ' e told s')(F:Fs R l σ ρ s.heap)(nz:vC R ρ' s.heap z)(hz:∀ o,s'.heap.get? z=some o→∃ vs,o.data = .fields vs)
 (hk:∀ b o,s'.heap.get? b=some o→b≠z→∃ sl,h'.get? b=some { o with slots:=sl }∧(b∉sY l→sl=o.slots)) (hx:eT R (l.head?.bind (·.frame)) ρ' s.heap h' e told):jo R l ρ own_ s σ' ρ' e told { s' with heap:=h',toks:=tk }:=by
 have hfr:∀ a∈sY l,a∉ρ'∧R.h₀.get? a=none:=fun a m=>⟨fun q=>(t.fresh a q).elim (F.fs a m) fun z=>(F.ff.mem m).2.elim fun o w=>aK z w.1,(F.ff.mem m).1⟩
 have same:∀ b o,s'.heap.get? b=some o→b≠z→b∉sY l→h'.get? b=some o:=fun b o ho nz nf=>(hk b o ho nz).elim fun sl w=>w.1.trans (congrArg (fun x=>some { o with slots:=x }) (w.2 nf))
 have tup:dO s'.heap h':=fun a xs n sl q=>(hk a _ q fun m=>(hz _ (m▸q)).elim fun vs hv=>Data.noConfusion hv).elim fun sl' w=>⟨sl',w.1⟩
 refine ⟨t.st.same (fun b o q=>same b o (t.st.base b o q) (fun m=>aK nz.base (m▸q)) fun m=>aK (hfr b m).2 q) tup fun a m o q=>same a o q (fun m'=>nz.out (m'▸m)) fun m'=>(hfr a m').1 m,t.pre,fun b o q n1 n2=>(t.keep b o q n1 n2).elim fun sl w=>?_,fun b o q=>(t.live b o q).elim fun o1 h1=>?_,t.fresh,t.tups.trans tup,bA (fun a m o ho hd=>?_) t.ff,hx,t.gens,t.drawn,t.os⟩
 · exact (hk b _ w.1 fun m=>aK nz.old (m▸q)).elim fun sl2 w2=>⟨sl2,w2.1,fun nf=>(w2.2 nf).trans (w.2 nf)⟩
 · exact (hk b _ h1 fun m=>aK nz.old (m▸q)).elim fun sl2 w2=>⟨_,w2.1⟩
 · exact (hk a o ho fun m=>(hz _ (m▸ho)).elim fun vs hv=>hd vs hv).elim fun sl w=>⟨_,w.1,hd⟩
theorem BJ{ts:Array Value}{x y:Value}(h:ts[3]? = some x):(ts.setIfInBounds 3 y)[3]? = some y:=(Array.getElem?_setIfInBounds_self_of_lt (Array.getElem?_eq_some_iff.mp h).1)
theorem zM{T:Addr}{x y:Value}{c:Value}{d':Option Addr}{ts:Array Value}{sl':Array (Option Value)}{d:Addr}{vs:Array Value}{sl:Array (Option Value)}{hs:Int}{t1 t2:Tok}{n:Nat}(t:jo R l ρ own_ s σ' ρ' e told s')(F:Fs R l σ ρ s.heap)(hy:Hv (l.head?.bind (·.frame)) y)
 (he:s'.heap.get? e=some ⟨.ref (R.ca aQ),some d,.fields vs,sl⟩) (hz:1 < vs.size) (hd:s'.heap.get? d=some (fU [⟨hs,.str (R.nm cO) t1,.bytes told.toArray t2⟩] n)) (ne:vC R ρ' s.heap e) (nd:vC R ρ' s.heap d)
  (h1:vs[1]? = some (.ref T)) (hT:s'.heap.get? T=some ⟨c,d',.fields ts,sl'⟩) (neT:T≠e) (nT:vC R ρ' s.heap T) (h3:ts[3]? = some x) (k:KN R l ρ own_ s σ' ρ' e told y Q):wpAny R.M A (setField (.ref T) 3 y) Q Er s':=by
 refine wpAny_setField hT rfl (Array.getElem?_eq_some_iff.mp h3).1 ?_
 have oth:∀ {b o},b≠T→s'.heap.get? b=some o→(s'.heap.update T (Obj.mapFields (·.setIfInBounds 3 y))).get? b=some o:=fun hb q=>(Heap.get?_update_other _ _ (Ne.symm hb)).trans q
 have X:iq R ρ' s.heap (s'.heap.update T (Obj.mapFields (·.setIfInBounds 3 y))) e told y :=
  .mk (oth neT.symm he) hz (oth (fun q=>by rw [q,hT] at hd;cases hd) hd) ne nd h1 (Heap.get?_update_self _ hT rfl) neT nT (BJ h3)
 exact k _ (t.step (tk:=s'.toks) F nT (fun o q=>Option.some.inj (hT.symm.trans q)▸⟨_,rfl⟩) (fun b o ho nb=>⟨o.slots,oth nb ho,fun _=>rfl⟩) (X.in hy)) X
theorem wL{head:Value}{hadNext:Bool}(t:jo R (renv :: outer) ρ own_ s σ' ρ' e told s')(F:Fs R (renv :: outer) σ ρ s.heap)(hA:A.frames=some (renv :: outer))(hf:renv.frame=some L)(k:KN R (renv :: outer) ρ own_ s σ' ρ' e told (rawInt L) Q) :
 wpAny R.M A (frameOf renv >>= fun a=>entryPlaceOf L hadNext >>= fun pl=>EntryCells.newEntry head a .none (rawInt L) .none pl >>= fun b=>setField (.ref e) 1 b) Q Er s':=by
 refine wpAny_bind (wpAny_frameOf_fun hA t.ff hf fun h₁ hs₁=>wpAny_bind (wpAny_entryPlaceOf fun pl hpl=>wpAny_bind (wpAny_newObj_type ?_ (hpl.sizeOk5 _ _ _ _ _))))
 have nfr:∀ {b},vC R ρ' s.heap b→b∉(renv :: outer).filterMap (·.frame):=fun nb m=>(F.ff.mem m).2.elim fun o w=>aK nb.old w.1
 cases t.exc with
 | @mk d vs sl hs t1 t2 n he hz hfl hd ne nd =>
  have he₁:=(hs₁.2.1 e (nfr ne)).trans he
  have hd₁:=(hs₁.2.1 d (nfr nd)).trans hd
  have hTe:h₁.objs.size≠e:=Nat.ne_of_gt (Heap.lt_size he₁)
  refine wpAny_setField (Heap.get?_push_of_some _ he₁) rfl hz ?_
  have h3:([head,.ref L,.none,rawInt L,.none]++(if pl.isEmpty then List.replicate 6 Value.none else pl)).toArray[3]? = some (rawInt L):=by rw [List.getElem?_toArray];rfl
  have e2:=Heap.get?_push_size h₁ (o:=({ cls:=.type "traceback",dict:=none,data:=.fields ([head,.ref L,.none,rawInt L,.none]++(if pl.isEmpty then List.replicate 6 Value.none else pl)).toArray }:PySem.Obj)) rfl
  generalize ([head,.ref L,.none,rawInt L,.none]++(if pl.isEmpty then List.replicate 6 Value.none else pl)).toArray=ts at h3 e2 ⊢
  have oth:∀ {b o},b≠e→h₁.get? b=some o→((h₁.push { cls:=.type "traceback",data:=.fields ts }).update e (Obj.mapFields (·.setIfInBounds 1 (.ref h₁.objs.size)))).get? b=some o:=fun hb q=>(Heap.get?_update_other _ _ (Ne.symm hb)).trans (Heap.get?_push_of_some _ q)
  have hT:=Heap.get?_none_of_le (h:=s'.heap) (Nat.le_of_eq hs₁.1.symm)
  have X:iq R ρ' s.heap ((h₁.push { cls:=.type "traceback",data:=.fields ts }).update e (Obj.mapFields (·.setIfInBounds 1 (.ref h₁.objs.size)))) e told (rawInt L) :=
   .mk (Heap.get?_update_self _ (Heap.get?_push_of_some _ he₁) rfl) (Nat.lt_of_lt_of_eq hz (Array.size_setIfInBounds ..).symm) (oth (fun q=>by rw [q,he] at hd;cases hd) hd₁) ne nd (Array.getElem?_setIfInBounds_self_of_lt hz) ((Heap.get?_update_other _ _ (Ne.symm hTe)).trans e2) hTe ⟨t.st.out hT,t.st.out0 hT,back t.live hT⟩ h3
  exact k _ (t.step (tk:=s'.toks) F ne (fun o q=>Option.some.inj (he.symm.trans q)▸⟨_,rfl⟩) (fun b o ho nb=>(hs₁.2.2 b o ho).elim fun sl' w=>⟨sl',oth nb w,fun nf=>congrArg Obj.slots (Option.some.inj (w.symm.trans ((hs₁.2.1 b nf).trans ho)))⟩) (X.in (.inr ⟨L,hf,rfl⟩))) X
theorem vw(t:jo R (renv :: outer) ρ own_ s σ' ρ' e told s')(F:Fs R (renv :: outer) σ ρ s.heap)(hA:A.frames=some (renv :: outer))(hf:renv.frame=some L)(k:KN R (renv :: outer) ρ own_ s σ' ρ' e told (rawInt L) Q):wpAny R.M A (noteFrame (.ref e) renv) Q Er s':=by
 unfold noteFrame
 rw [hf]
 cases t.exc with
 | @mk d vs sl hs t1 t2 n he hz hfl hd ne nd =>
 cases hfl with
 | no h1=>exact wpAny_bind (wpAny_field he rfl h1 (wL t F hA hf k))
 | @tb T c d' ts sl' x h1 hT neT nT h3 hx =>
  refine wpAny_bind (wpAny_field he rfl h1 (wpAny_bind (wpAny_field hT rfl h3 ?_)))
  refine hx.elim (fun hx=>?_) fun w=>w.elim fun a w=>?_
  · subst hx
    exact wpAny_bind (zM t F (.inl rfl) he hz hd ne nd h1 hT neT nT h3 fun s'' t' _=>wL t' F hA hf k)
  · have z:=Option.some.inj (hf.symm.trans w.1)
    subst z
    cases w.2
    show wpAny _ _ (if (rawInt L==rawInt L)=true then _ else _) _ _ _
    rw [beq_self_eq_true]
    exact wpAny_pure (k _ t (.mk he hz hd ne nd h1 hT neT nT h3))
theorem j4{fr:Option Addr}{x:Value}(t:jo R l ρ own_ s σ' ρ' e told s')(F:Fs R l σ ρ s.heap)(X:iq R ρ' s.heap s'.heap e told x)(hy:Hv (l.head?.bind (·.frame)) (fr.elim .none fun f=>rawInt f))(k:KN R l ρ own_ s σ' ρ' e told (fr.elim .none fun f=>rawInt f) Q):wpAny R.M A (setFlight (.ref e) fr) Q Er s':=by
 induction X with
 | mk he hz hd ne nd h1 hT neT nT h3=>exact wpAny_bind (wpAny_field he rfl h1 (zM t F hy he hz hd ne nd h1 hT neT nT h3 k))
end
noncomputable def RF(Q:Flow→Shared→Prop)(E:Value→Shared→Prop):Result→Shared→Prop:=fun r s'=>match r with
 | .ok f=>Q f s'
 | .error e=>E e s'
inductive CO(R:Rt)(l:List Env)(ρ own:List Addr)(s:Shared)(L:Addr)(K:Value→Shared→Prop):Value→Shared→Prop
 | mk {e told σ' ρ' s'} (t:jo R l ρ own s σ' ρ' e told s') (X:iq R ρ' s.heap s'.heap e told (rawInt L)) (k:∀ s'',jo R l ρ own s σ' ρ' e told s''→K (.ref e) s''):CO R l ρ own s L K (.ref e) s'
inductive FD(R:Rt)(l:List Env)(ρ own:List Addr)(s:Shared)(L:Addr)(K:Value→Shared→Prop):Value→Shared→Prop
 | mk {e told σ' ρ' s'} (t:jo R l ρ own s σ' ρ' e told s') (k:∀ s'',jo R l ρ own s σ' ρ' e told s''→iq R ρ' s.heap s''.heap e told (rawInt L)→K (.ref e) s''):FD R l ρ own s L K (.ref e) s'
noncomputable def DS(R:Rt)(l:List Env)(ρ own:List Addr)(s:Shared)(L:Addr)(X:ak)(Er:Value→Shared→Prop):Prop :=
 ∀ told σ' ρ' e s',jo R l ρ own s σ' ρ' e told s'→iq R ρ' s.heap s'.heap e told (rawInt L)→X told σ'→Er (.ref e) s'
section
variable{R:Rt}{lx:bN}{call:aw}{d n:Nat}{σ σ':List O}{ρ ρ' own_:List Addr}{l outer:List Env}{renv:Env}{s s' s1:Shared}{A:Around}{L:Addr}{X:ak}{Er:Value→Shared→Prop}
theorem iq.back{h0 h1 h:Heap}{e:Addr}{told:ae}{x:Value}(k:∀ b o,h0.get? b=some o→∃ o',h1.get? b=some o')(X:iq R ρ h1 h e told x):iq R ρ h0 h e told x :=
 iq.rec (motive:=fun _=>iq R ρ h0 h e told x) (fun he hz hd ne nd h1 hT neT nT h3=>.mk he hz hd (ne.back k) (nd.back k) h1 hT neT (nT.back k) h3) X
theorem DS.after(k:DS R l ρ own_ s L X Er)(o:bV R ρ own_ s σ' ρ' s'):DS R l ρ' own_ s' L X Er:=fun _ _ _ _ _ t x=>k _ _ _ _ _ (t.after o) (x.back o.stp.live)
theorem DS.fell(k:DS R l ρ own_ s L X Er):KX R l ρ own_ s X (FD R l ρ own_ s L Er):=fun _ _ _ _ _ t x=>.mk t fun _ t' X'=>k _ _ _ _ _ t' X' x
theorem KX.flew(k:KX R l ρ own_ s X Er):DS R l ρ own_ s L X (CO R l ρ own_ s L Er):=fun _ _ _ _ _ t X' x=>.mk t X' fun _ t'=>k _ _ _ _ _ t' x
theorem p8(h:A.handled=none):A.mark none=A:=by
 obtain ⟨hd,dp,fr,gu,un⟩:=A
 cases h;rfl
theorem uO{c:Code}{Qr:Flow→Shared→Prop}(hh:A.handled=none)(F:Fs R (renv :: outer) σ ρ s.heap)(hf:renv.frame=some L)(h:bO R.M A c (RF Qr (CO R (renv :: outer) ρ own_ s L Er)) s1):aT R.M A (runOwn c renv) Qr Er s1:=by
 refine bh (wW ((p8 hh).symm▸dS h fun r s' z=>?_))
 cases r with
 | ok f=>exact z
 | error v =>
  have z:CO R (renv :: outer) ρ own_ s L Er v s':=z
  induction z with
  | @mk e told σ' ρ' s' t X k =>
   have X':=X
   cases X' with
   | mk he hz hd ne nd h1=>exact ai (wpAny_field he rfl h1 (cH rfl (hf▸am (j4 t F X (.inr ⟨L,hf,rfl⟩) fun s'' t' _=>k s'' t'))))
theorem CM{x:Value}{Qu:Unit→Shared→Prop}(q:Qu () s):wpAny R.M A (theTreesLotGoes x) Qu Er s:=wpAny_bind (wpAny_stack_any fun st=>wpAny_bind (wpAny_standAt (wpAny_bind (wpAny_holding (wpAny_point (wpAny_standAt q))))))
theorem vv{tr:Sem PySem.Fin}{Qr:PySem.Fin→Shared→Prop}(hA:A.frames=some (renv :: outer))(F:Fs R (renv :: outer) σ ρ s.heap)(hf:renv.frame=some L)(h:aT R.M A tr Qr (FD R (renv :: outer) ρ own_ s L Er) s1) :
 aT R.M A (tr.onRaise fun x=>noteFrame x renv >>= fun _=>theTreesLotGoes x) Qr Er s1 :=
 bh (bz h (fun _ _ x=>x) fun v s' z=>by
  induction z with
  | mk t k=>exact ai (vw t F hA hf fun s'' t' X=>am (CM (k s'' t' X))))
theorem FY{c:E}{b:List S}{t:PySem.Expr}{x:List PySem.Stmt}{p:Pos}(hc:wY R call lx d n c t)(hb:gA R call lx d n b x):eK R call lx d n (.whl c b) (.While t x [] p):=fun {env σ Q X A l renv ρ s Qr Er} h H F I k kx=>by
 cases F with
 | @mk outer hf =>
 refine ah (arm_exec_While ..) (ao (uO (own_:=own renv) H.handled I.fs hf ?_))
 refine h.go (fun env σ=>∀ {ρ s Qr Er},bM R lx (renv :: outer) renv env σ ρ s.heap→KF R lx (renv :: outer) renv ρ s Q Qr→DS R (renv :: outer) ρ (own renv) s renv.locals X Er→bO R.M A (.whileLoop t x [] renv) (RF Qr Er) s) (fun env σ hs {ρ s Qr Er} I k kx=>?_) I k kx.flew
 refine aG rfl ?_
 rw [Around.under_of_weight rfl]
 refine vv (own_:=own renv) (tr:=whileTurn t x [] renv) H.frames I.fs hf (ab (hc hs H I (fun t σ1 ρ1 s1 o1 q1=>?_) kx.fell.thin))
 have I1:=o1.inv I
 have k:=k.after o1.wide
 have kf:=kx.fell.after o1.wide
 have kx:=kx.after o1.wide
 cases t with
 | false=>exact ab (ah (arm_execs_nil ..) (af (af (k.here I1 .next q1))))
 | true =>
  refine ab (hb (Q:=ja _ Q) q1 H (.mk hf) I1 (fun fl env' σ' ρ' f s' o I' r q=>?_) kf)
  have k:=k.after o
  induction r with
  | next=>exact af ⟨rfl,q I' k (kx.after o)⟩
  | cont=>exact af ⟨rfl,q I' k (kx.after o)⟩
  | brk=>exact af (k.here I' .next q)
  | ret r=>exact af (k.here I' (.ret r) q)
end
theorem nY:∀ (names:List (Str×NameKind)) (k:Nat) (acc:List (Str×Addr)),(cellsFrom k names acc).map (·.1)=((names.filter fun p=>p.2 == .cell).map (·.1)).reverse++acc.map (·.1):=by
 intro names
 induction names with
 | nil=>exact fun _ _=>rfl
 | cons p r ih =>
  intro k acc
  show (if (p.2==NameKind.cell)=true then _ else _:List (Str×Addr)).map _=_
  rw [List.filter_cons]
  by_cases h:(p.2==NameKind.cell)=true
  · rw [if_pos h,if_pos h,ih,List.map_cons,List.map_cons,List.reverse_cons,List.append_assoc];rfl
  · rw [if_neg h,if_neg h,ih]
section
variable{α β:Type}[BEq α][LawfulBEq α]{x:α}{c:β}
theorem iv:∀ {l:List (α×β)},(l.map (·.1)).Nodup→(x,c)∈l→l.lookup x=some c:=by
 intro l
 induction l with
 | nil=>exact fun _ m=>absurd m List.not_mem_nil
 | cons p r ih =>
  intro hn m
  have hn:=List.nodup_cons.mp hn
  refine (List.mem_cons.mp m).elim (fun e=>?_) fun m=>?_
  · subst e;rw [List.lookup_cons,beq_self_eq_true]
  · rw [List.lookup_cons,show (x==p.1)=false from beq_eq_false_iff_ne.mpr fun e:x=p.1=>hn.1 (List.mem_map.mpr ⟨(x,c),m,e⟩)]
    exact ih hn.2 m
end
section
variable{kd:Str→Option NameKind}{x:Str}{v:Value}
theorem mP:∀ {l:List (Str×Value)} {m m':Str→Option Value},x∉l.map (·.1)→bindL kd l m x=m x∧bindC kd l m' x=m' x:=by
 intro l
 induction l with
 | nil=>exact fun _=>⟨rfl,rfl⟩
 | cons p r ih =>
  intro m m' h
  have h1:x≠p.1:=fun e=>h (e ▸ .head _)
  have z:=ih (m:=if kd p.1=some .local then fun y=>if y=p.1 then some p.2 else m y else m) (m':=if kd p.1=some .local then m' else fun y=>if y=p.1 then some p.2 else m' y) fun m=>h (.tail _ m)
  refine ⟨z.1.trans ?_,z.2.trans ?_⟩
  · split
    · exact if_neg h1
    · rfl
  · split
    · rfl
    · exact if_neg h1
theorem mq:∀ {l:List (Str×Value)} {m m':Str→Option Value},(l.map (·.1)).Nodup→(x,v)∈l→(kd x=some .local→bindL kd l m x=some v)∧(kd x≠some .local→bindC kd l m' x=some v):=by
 intro l
 induction l with
 | nil=>exact fun _ m=>absurd m List.not_mem_nil
 | cons p r ih =>
  intro m m' hn hm
  have hn:=List.nodup_cons.mp hn
  refine (List.mem_cons.mp hm).elim (fun e=>?_) fun hm=>ih hn.2 hm
  subst e
  exact ⟨fun hk=>(mP (m':=m') hn.1).1.trans (by rw [if_pos hk];exact if_pos rfl),fun hk=>(mP (m:=m) hn.1).2.trans (by rw [if_neg hk];exact if_pos rfl)⟩
end
section
variable{R:Rt}{lx:bN}{σ:List O}{ρ:List Addr}{l:List Env}{s s':Shared}{A:Around}{renv:Env}
theorem GR{a:Addr}{args:Args}{o:PySem.Obj}{fd:FuncData}{body:List PySem.Stmt}{binds:List (Str×Value)}{Qr Er:Value→Shared→Prop}(hroom:A.depth < recursionLimit)(ho:s.heap.get? a=some o)(hd':o.data = .func fd)
 (hco:fd.scope.isCoroutine=false) (hgen:fd.scope.isGenerator=false) (hbody:fd.body = .stmts body) (hcl:fd.closure=[]) (hk:fd.scope.kind = .function) (hcd:s.heap.CodeRec fd.code fd.qualname) (hb:BindsTo s fd args binds) (hlim:s.heap.NoLimit)
 (hkind:∀ x∈binds,fd.scope.names.lookup x.1=some .local∨(fd.scope.names.lookup x.1=some .cell∧((cellsFrom (s.heap.objs.size+1) fd.scope.names []).lookup x.1).isSome=true))
 (h:∀ env,env=newEnv fd.scope s.heap.objs.size fd.globals (cellsFrom (s.heap.objs.size+1) fd.scope.names []) (fd.qualname ++ ".<locals>.") (some a) fd.code none fd.builtins →
  ∀ s',InCallC s env.locals (bindL env.kindOf binds fun _=>none) env.cells (bindC env.kindOf binds fun _=>none) s' →
   aT R.M (A.deeper env) (execs body env) (fun f s''=>Qr (match f with | .ret v=>v | _=>.none) s'') (fun e s''=>aT R.M (A.deeper env) (leaving env e) (fun _ s3=>Er e s3) Er s'') s') :
 bO R.M A (.call (.ref a) args) (RV Qr Er) s:=by
 refine aG rfl ?_
 show aT _ A.in1 (callAny (.ref a) args) _ _ s
 unfold callAny
 refine ai (wpAny_load ho ?_)
 refine hcd.elim fun c w=>w.elim fun oc w=>w.elim fun vs w=>w.elim fun tq w=>?_
 have hc:=w.1
 rw [hd']
 show aT _ A.in1 (callFunction a fd args) _ _ s
 unfold callFunction
 rw [hco,hgen,hbody,hcl,hc]
 refine ai (m:=field (.ref c) 1) (wpAny_field w.2.1 w.2.2.1 w.2.2.2 (b9 (ai (hb _ _ _ _ ?_))))
 rw [hc] at h
 refine ai (wpAny_newFunctionEnv_cells hk hkind fun env he s' x=>?_)
 refine ai (wpAny_enterFrame (hlim.keeps x.toInCall.keep) hroom (af ⟨rfl,aG rfl ?_⟩))
 show aT _ (A.deeper env) (do point;match ← (execs body env).onRaise (leaving env) with | .ret v=>ret v | _=>ret .none) _ _ s'
 refine ai (wpAny_point (ab (bh (bz (h env he s' x) (fun f s'' h'=>?_) fun _ _ h'=>h'))))
 cases f<;>exact af h'
end
theorem EE:∀ {nm:List (Option Str)} {vs:List V} {i:Nat} {v:V},(se nm vs)[i]? = some (some v)→vs[i]? = some v:=by
 intro nm
 induction nm with
 | nil=>exact fun e=>by rw [show se [] _=[] from rfl] at e;cases e
 | cons o nm ih =>
  intro vs i v e
  cases vs with
  | nil=>cases i with
   | zero=>cases e
   | succ i=>exact nomatch ih (i:=i) e
  | cons w vs=>cases i with
   | zero=>exact Option.some.inj e
   | succ i=>exact ih (i:=i) e
theorem ql{names:List (Str×NameKind)}{k:Nat}{y:Str}(hn:((cellsFrom k names []).map (·.1)).Nodup)(h:names.lookup y=some .cell):∃ c,(cellsFrom k names []).lookup y=some c:=by
 have hm:y∈(cellsFrom k names []).map (·.1):=by
  rw [nY,List.map_nil,List.append_nil,List.mem_reverse]
  exact List.mem_map.mpr ⟨(y,.cell),List.mem_filter.mpr ⟨a6 h,rfl⟩,rfl⟩
 exact (List.mem_map.mp hm).elim fun p w=>⟨p.2,w.2▸iv hn w.1⟩
theorem wi{a b:Str}{c:Addr}:∀ {l:List (Str×Addr)},l.Pairwise (fun x y=>x.2≠y.2)→(a,c)∈l→(b,c)∈l→a=b:=by
 intro l
 induction l with
 | nil=>exact fun _ m=>absurd m List.not_mem_nil
 | cons p r ih =>
  intro h m1 m2
  have h:=List.pairwise_cons.mp h
  refine (List.mem_cons.mp m1).elim (fun e1=>(List.mem_cons.mp m2).elim (fun e2=>?_) fun m2=>?_) fun m1=>(List.mem_cons.mp m2).elim (fun e2=>?_) fun m2=>ih h.2 m1 m2
  · exact congrArg Prod.fst (e1.trans e2.symm)
  · exact absurd (congrArg Prod.snd e1).symm (h.1 (b,c) m2)
  · exact absurd (congrArg Prod.snd e2).symm (h.1 (a,c) m1)
section
variable{R:Rt}{lx:bN}{σ σ':List O}{ρ ρ':List Addr}{l:List Env}{s s1 s':Shared}{renv:Env}{e:Addr}{told:ae}
theorem bM.start{vs:List V}{rvs:List Value}{ps:List Str}(F:Fs R l σ ρ s.heap)(hv:VRels R s.heap ρ vs rvs)(hk:renv.scope.kind = .function)(hn:renv.scope.names=lx.names)(hg:renv.globals=mainGlobals)(hbt:renv.builtins=builtinsNs)
 (hfr:renv.frame=some renv.locals) (x:InCallC s renv.locals (bindL renv.kindOf (ps.zip rvs) fun _=>none) renv.cells (bindC renv.kindOf (ps.zip rvs) fun _=>none) s') (hlen:ps.length=rvs.length) (hnd:ps.Nodup) (hck:(renv.cells.map (·.1)).Nodup)
 (hps:∀ (i:Nat) (y:Str),i < ps.length→lx.nm[i]? = some (some y)→ps[i]? = some y) (hdist:∀ (i j:Nat) (y:Str),lx.nm[i]? = some (some y)→lx.nm[j]? = some (some y)→i=j)
 (hcells:∀ y,lx.names.lookup y=some .cell→∃ c,renv.cells.lookup y=some c):bM R lx (renv :: l) renv (se lx.nm vs) σ ρ s'.heap:=by
 have S:=F.st
 have keep:Mine.Keeps s.heap s'.heap:=x.toInCall.keep
 have hns:=x.toInCall.ns
 have zipAt:∀ {i:Nat} {y:Str} {v:V},lx.nm[i]? = some (some y)→(se lx.nm vs)[i]? = some (some v)→∃ rv,(y,rv)∈ps.zip rvs∧aq R s'.heap ρ v rv:=fun h1 h2=>(hv.get (EE h2)).elim fun rv w =>
  ⟨rv,List.mem_iff_getElem?.mpr ⟨_,List.getElem?_zip_eq_some.mpr ⟨hps _ _ (hlen▸(List.getElem?_eq_some_iff.mp w.1).1) h1,w.1⟩⟩,w.2.mono keep.tups (.refl _)⟩
 have hzn:((ps.zip rvs).map (·.1)).Nodup:=(List.map_fst_zip (Nat.le_of_eq hlen)).symm▸hnd
 have newO:∀ {a},renv.locals≤a→a∉ρ∧R.h₀.get? a=none:=fun ha=>have z:=Heap.get?_none_of_le (Nat.le_trans x.toInCall.fresh ha);⟨S.out z,S.out0 z⟩
 refine ⟨S.keepAll keep,⟨hk,hn,hg,hbt,⟨_,hns,fun i y h1=>?_⟩,fun a b c h1 h2=>?_,fun a c h1=>Nat.ne_of_gt (x.above a c (a6 h1)),hdist⟩,fun a m=>?_,⟨by rw [hk];exact (ScopeKind.noConfusion ·),⟨renv.locals,?_⟩,?_⟩,fun a m=>?_⟩
 · have kd:renv.kindOf y=lx.names.lookup y:=congrArg (List.lookup y) hn
   by_cases q1:lx.names.lookup y=some .local
   · exact .loc q1 fun w h2=>(zipAt h1 h2).elim fun rv z=>⟨rv,(mq (m':=fun _=>none) hzn z.1).1 (kd.trans q1),z.2⟩
   · by_cases q2:lx.names.lookup y=some .cell
     · exact (hcells y q2).elim fun c e=>.cel q2 e (x.cell y c e) fun w h2=>(zipAt h1 h2).elim fun rv z=>⟨rv,(mq (m:=fun _=>none) hzn z.1).2 (kd▸q1),z.2⟩
     · exact .no q1 q2
 · exact wi x.apart (a6 h1) (a6 h2)
 · refine (List.mem_cons.mp m).elim (fun q=>?_) fun m=>(List.mem_map.mp m).elim fun p w=>?_
   · subst q
     exact ⟨(newO (Nat.le_refl _)).1,(newO (Nat.le_refl _)).2,(fT hns).1.elim fun o w=>⟨o,w.1⟩⟩
   · have z:=newO (Nat.le_of_lt (x.above p.1 p.2 w.1))
     exact w.2▸⟨z.1,z.2,(kL (x.cell _ _ (iv hck w.1))).1.elim fun o w=>⟨o,w.1⟩⟩
 · exact (fT hns).1.elim fun o w=>⟨o,hfr,(newO (Nat.le_refl _)).2,w.1,w.2⟩
 · exact bA (fun a m o ho hd=>⟨o,keep a o ho,hd⟩) F.ff
 · refine (List.mem_filterMap.mp m).elim fun env w=>(List.mem_cons.mp w.1).elim (fun q=>?_) fun me=>F.fs a (List.mem_filterMap.mpr ⟨env,me,w.2⟩)
   subst q
   exact Option.some.inj (hfr.symm.trans w.2)▸(newO (Nat.le_refl _)).1
theorem jo.leave(t:jo R (renv :: l) ρ (own renv) s1 σ' ρ' e told s')(keep:Mine.Keeps s.heap s1.heap)(hg:s1.gens=s.gens)(hdr:s1.drawn=s.drawn)(hos:s1.os=s.os)(hown:∀ a∈own renv,s.heap.get? a=none)(hfr:renv.frame=some renv.locals)
 (X:iq R ρ' s1.heap s'.heap e told .none):jo R l ρ [] s σ' ρ' e told s':=by
 refine ⟨t.st,t.pre,fun b o q n1 _=>(t.keep b o (keep b o q) n1 fun m=>aK (hown b m) q).elim fun sl w=>⟨sl,w.1,fun nf=>w.2 fun m=>?_⟩,fun b o q=>t.live b o (keep b o q),fun a m=>(t.fresh a m).imp_right keep.back,keep.tups.trans t.tups,t.ff.2.2,(X.in (.inl rfl)).back keep.live,t.gens.trans hg,t.drawn.trans hdr,t.os.trans hos⟩
 refine (List.mem_filterMap.mp m).elim fun en w=>(List.mem_cons.mp w.1).elim (fun z=>?_) fun me=>nf (List.mem_filterMap.mpr ⟨en,me,w.2⟩)
 subst z
 exact aK (hown b (Option.some.inj (hfr.symm.trans w.2) ▸ .head _)) q
structure ve(R:Rt)(f:Nat)(lx:bN)(fd:FuncData)(body:List PySem.Stmt)(ps:List Str):Prop where
 obj:∃ c d sl,R.K.lookup (R.fa f)=some ⟨c,d,.func fd,sl⟩
 co:fd.scope.isCoroutine=false
 gen:fd.scope.isGenerator=false
 body:fd.body = .stmts body
 cl:fd.closure=[]
 kind:fd.scope.kind = .function
 glob:fd.globals=mainGlobals
 blt:fd.builtins=builtinsNs
 code:codeIn R.K fd.code fd.qualname=true
 names:fd.scope.names=lx.names
 nodup:ps.Nodup
 kinds:∀ x∈ps,lx.names.lookup x=some .local∨lx.names.lookup x=some .cell
 keys:(lx.names.map (·.1)).Nodup
 nm:∀ (i:Nat) (y:Str),i < ps.length→lx.nm[i]? = some (some y)→ps[i]? = some y
 dist:∀ (i j:Nat) (y:Str),lx.nm[i]? = some (some y)→lx.nm[j]? = some (some y)→i=j
noncomputable def uv(R:Rt)(fd:FuncData)(ps:List Str)(m:Nat)(dvs:List V):Prop :=
 ∀ {rvs:List Value},rvs.length=m→∃ dr,(∀ S,peek R.K S (bindArgs fd ⟨rvs,[]⟩)=some (ps.zip (rvs++dr)))∧ps.length=(rvs++dr).length∧∀ h ρ,VRels R h ρ dvs dr
theorem sT{fd:FuncData}{args:Args}{b:List (Str×Value)}(K:R.K.In s.heap)(e:∀ S,peek R.K S (bindArgs fd args)=some b):BindsTo s fd args b:=fun M A E Q hq=>(Looks.of_peek (M:=M) K (e _)) A Q E s (fun _ _ e=>e) hq
theorem ve.cells{f:Nat}{fd:FuncData}{body:List PySem.Stmt}{ps:List Str}(F:ve R f lx fd body ps)(k:Nat):((cellsFrom k lx.names []).map (·.1)).Nodup:=by
 rw [nY,List.map_nil,List.append_nil]
 exact (List.reverse_perm _).nodup_iff.mpr ((List.Nodup.sublist ((List.filter_sublist).map _) F.keys))
theorem enter{A:Around}{f:Nat}{fd:FuncData}{body:List PySem.Stmt}{ps:List Str}{binds:List (Str×Value)}{args:Args}{Qr Er:Value→Shared→Prop}(F:ve R f lx fd body ps)(K:R.K.In s.heap)(hlim:s.heap.NoLimit)(hroom:A.depth < recursionLimit)(hb:BindsTo s fd args binds)(hps:∀ x∈binds,x.1∈ps)
 (h:∀ env,env.scope=fd.scope→env.globals=mainGlobals→env.builtins=builtinsNs→env.locals=s.heap.objs.size→env.frame=some env.locals→env.cells=cellsFrom (s.heap.objs.size+1) lx.names [] →
  ∀ s',InCallC s env.locals (bindL env.kindOf binds fun _=>none) env.cells (bindC env.kindOf binds fun _=>none) s' →
   aT R.M (A.deeper env) (execs body env) (fun f s''=>Qr (match f with | .ret v=>v | _=>.none) s'') (fun e s''=>aT R.M (A.deeper env) (leaving env e) (fun _ s3=>Er e s3) Er s'') s'):bO R.M A (.call (.ref (R.fa f)) args) (RV Qr Er) s:=by
 refine F.obj.elim fun c w=>w.elim fun d w=>w.elim fun sl w=>GR hroom (K _ _ w) rfl F.co F.gen F.body F.cl F.kind (codeRec_of K F.code) hb hlim (fun x hx=>?_) fun env he s1 x=>?_
 · rw [F.names]
   exact (F.kinds _ (hps x hx)).imp_right fun h=>⟨h,(ql (F.cells _) h).elim fun c e=>e▸rfl⟩
 · subst he
   exact h _ rfl F.glob F.blt rfl rfl (congrArg (fun n=>cellsFrom _ n []) F.names) _ x
theorem Gn{call:aw}{d f m:Nat}{ss:List S}{A:Around}{fd:FuncData}{body:List PySem.Stmt}{ps:List Str}{vs dvs:List V}{Q:ag}{X:ak}{rvs:List Value}{Qr Er:Value→Shared→Prop}(ok:aZ R)(F:ve R f lx fd body ps)(B:uv R fd ps m dvs)(hm:vs.length=m)(hb:gA R call lx d 5 ss body)
 (hv:vcSs call ss (se lx.nm (vs++dvs)) σ (eO Q) X) (H:br R (d+1) 0 A l) (Fr:Fs R l σ ρ s.heap) (r:VRels R s.heap ρ vs rvs) (k:KQ R ρ s Q Qr) (kx:KX R l ρ [] s X Er):bO R.M A (.call (.ref (R.fa f)) ⟨rvs,[]⟩) (RV Qr Er) s:=by
 have S:=Fr.st
 have K:=ok.X.keeps S.base
 refine (B (r.length.symm.trans hm)).elim fun dr w=>?_
 refine enter F K (ok.nolimit.keeps S.base) (Nat.lt_of_le_of_lt (Nat.le_add_right _ _) H.depth) (sT K w.1) (fun x hx=>(List.of_mem_zip hx).1) fun env e1 e2 e3 e4 e5 e6 s1 x=>?_
 have I:=bM.start (lx:=lx) Fr (r.append (w.2.2 _ _)) (e1▸F.kind) (e1▸F.names) e2 e3 e5 x w.2.1 F.nodup (e6▸F.cells _) F.nm F.dist fun y h=>e6▸ql (F.cells _) h
 have hown:∀ a∈own env,s.heap.get? a=none:=fun a m=>Heap.get?_none_of_le ((List.mem_cons.mp m).elim (fun q=>q▸x.toInCall.fresh) fun m=>(List.mem_map.mp m).elim fun p w=>w.2▸Nat.le_trans x.toInCall.fresh (Nat.le_of_lt (x.above p.1 p.2 w.1)))
 have H':br R d 5 (A.deeper env) (env :: l):=⟨by show A.depth+1+6 * d+5 < 1000;rw [Nat.add_right_comm A.depth];exact H.depth,by show A.units+3+60 * d+10 * 5 < 9000;rw [Nat.add_right_comm A.units];exact Nat.lt_of_le_of_lt (Nat.le_add_right _ 7) H.units,H.handled,H.guards,by show A.frames.map (env :: ·)=_;rw [H.frames];rfl,fun hd=>le_of_eq_of_le (Nat.add_right_comm l.length 1 d) (H.lone (Nat.le_succ_of_le hd))⟩
 have keep:Mine.Keeps s.heap s1.heap:=x.toInCall.keep
 refine x.toInCall.same.elim fun h1 w=>w.elim fun tk w=>?_
 subst w
 have o0:bV R ρ (own env) s σ ρ { s with heap:=h1,toks:=tk }:=.keep S keep tk
 refine hb hv H' (.mk e5) I (fun fl env' σ' ρ' fr s' o I' r q=>?_) fun told σ' ρ' e s' t hx=>?_
 · have o':=(o0.trans o).weaken (own':=[]) fun a ma=>.inr (hown a ma)
   induction r with
   | next=>exact k _ _ _ _ _ o' .none q
   | ret r=>exact k _ _ _ _ _ o' r q
   | brk=>exact q.elim
   | cont=>exact q.elim
 · exact ai (vw t I.fs H'.frames e5 fun s2 t2 X=>am (j4 t2 I.fs X (.inl rfl) fun s3 t3 X3=>kx _ _ _ _ _ (t3.leave keep rfl rfl rfl hown e5 X3) hx))
end
noncomputable abbrev nR:List Value:=[.type "Exception",.type "BaseException",.type "object"]
noncomputable abbrev pV(t:Addr):Array Value:=#[.ref t,.none,.none,.none,.bool false,.none]
noncomputable abbrev c6(C t:Addr):PySem.Obj:={ cls:=.ref C,data:=.fields (pV t) }
noncomputable abbrev Dx(o:PySem.Obj)(C B:Addr):PySem.Obj:=excClassObj (rY o.data).name (rY o.data).qualname C (rY o.data).ns (rY o.data).bases (.ref B :: nR) true (rY o.data).slotNames (rY o.data).subclasses (rY o.data).abstract (rY o.data).collection o.dict (o.slots.getD 0 none) (o.slots.getD 1 none) (o.slots.getD 2 none) (o.slots.getD 3 none) (o.slots.getD 5 none) "Exception.__new__"
theorem Ap{α:Type}{M:Model}{A:Around}{Q:α→Shared→Prop}{E:Value→Shared→Prop}{s:Shared}{t:Sem α}{o:PySem.Obj}(e:w4 t = .al o)(q:wpAny M A (kN t s.heap.objs.size) Q E { s with heap:=s.heap.push o }):wpAny M A t Q E s:=fun Γ p hΓ=>(e▸iB M Γ Q E p s t:l7 M Γ Q E p s t (.al o)) (q Γ p hΓ)
section
variable{R:Rt}{C B:Addr}{o:PySem.Obj}{s:Shared}{A:Around}
theorem Eb{Rr:Result→Shared→Prop}{x:Value}(hC:s.heap.get? C=some (Dx o C B))(hq:Rr (.ok (.ret (.ref (s.heap.objs.size+1)))) { s with heap:=(s.heap.push { cls:=.type "tuple",data:=.seq #[x] }).push (c6 C s.heap.objs.size) }) :
 codeAny R.M A (.builtin "Exception.__new__" ⟨[.ref C,x],[]⟩) Rr s:=by
 refine codeAny_builtinAt PySem.F.excBase_Exception.entry ?_
 have e:Builtin.«BaseException.__new__» ⟨[.ref C,x],[]⟩=stack >>= fun st=>kS (Builtin.«BaseException.__new__» ⟨[.ref C,x],[]⟩) st:=by kernel_rfl
 rw [e]
 refine PySem.wpAt_bind (PySem.wpAt_stack fun p below=>PySem.wpAt_of_wpAny ?_)
 refine bD hC (by kernel_rfl) (bD hC (by kernel_rfl) (bD hC (by kernel_rfl) (bD hC (by kernel_rfl) (bD hC (by kernel_rfl) (bD hC (by kernel_rfl) (bD hC (by kernel_rfl) (bD hC (by kernel_rfl) (bD hC (by kernel_rfl) (Ap (o:={ cls:=.type "tuple",data:=.seq #[x] }) (by kernel_rfl) ?_)))))))))
 have hC':=Mine.Keeps.push s.heap { cls:=.type "tuple",data:=.seq #[x] } _ _ hC
 refine Ap (o:=c6 C s.heap.objs.size) (by kernel_rfl) ?_
 have hC'':=Mine.Keeps.push (s.heap.push { cls:=.type "tuple",data:=.seq #[x] }) (c6 C s.heap.objs.size) _ _ hC'
 exact bD hC'' (by kernel_rfl) (FP (a:=.done (.ret (.ref (s.heap.push { cls:=.type "tuple",data:=.seq #[x] }).objs.size))) (by kernel_rfl) (show Rr _ _ by rw [Heap.size_push];exact hq))
noncomputable abbrev mB(C t d:Addr):PySem.Obj:={ cls:=.ref C,dict:=some d,data:=.fields (pV t) }
theorem wC{h:Heap}{base:Value}{r:Bool}(hC:h.get? C=some (Dx o C B))(e:(Value.ref C :: .ref B :: nR).contains base=r):Looks R.M h (isSubtype (.ref C) base) r:=fun A Q E s' k q =>
 wpAny_isSubtype_exc (base:=base) (k _ _ hC) (by rw [e];exact q)
theorem El{h:Heap}(hC:h.get? C=some (Dx o C B)):Looks R.M h (mroOf (.ref C)) (.ref C :: .ref B :: nR):=((Looks.ld hC).andThen .now).andThen .now
theorem zR{e t₀:Addr}{name:Str}{v:Value}{Q:Unit→Shared→Prop}{E:Value→Shared→Prop}(X:R.K.In s.heap)(hC:s.heap.get? C=some (Dx o C B))(he:s.heap.get? e=some (c6 C t₀))(hs:findIn R.K (.ref C) "__setattr__" = some (some (.builtin "object.__setattr__")))(hn:findIn R.K (.ref C) name=some none)
 (hq:∀ d h' tk hsh k n,s.heap.get? d=none→h'.get? e=some (mB C t₀ d)→h'.get? d=some (fU [⟨hsh,.str name k,v⟩] n)→(∀ b o,b≠e→s.heap.get? b=some o→h'.get? b=some o)→Q () { s with heap:=h',toks:=tk }):wpAny R.M A (setAttr (.ref e) name v) Q E s:=by
 have I:PySem.W.InstAt s.heap e (c6 C t₀) C none:=⟨he,rfl,rfl,trivial⟩
 have SF:=PySem.F.store_object
 refine set_plain X I hs (codeAny_call_builtin SF.slot.plain SF.entry (check_slot (s:={ s with toks:=s.toks+1 }) (i := "object.__setattr__") (owner := "object") (n := "__setattr__") (self:=.ref e) (rest:=[.str name s.toks,v]) (kw:=[]) SF.kind SF.split (I.type.andThen (wC hC (by kernel_rfl))) (SF.args (.ref e) (.str name s.toks) v) ?_))
 rw [osa_eq,refuse_eq]
 refine wpAny_bind (wpAny_bind (I.type.at (wpAny_bind ((El hC).at ?_))))
 rw [refuseLoop_ref,refuseLoop_ref,PySem.F.store_Exception.passes]
 refine wpAny_pure (wpAny_bind (I.type.at (wpAny_bind ((looks_findIn X hn).at (wpAny_bind ?_)))))
 refine (show Looks R.M s.heap (storeTaker? none) none from .now).at ?_
 have he1:=Mine.Keeps.push s.heap emptyDict _ _ he
 have hes:e≠s.heap.objs.size:=Nat.ne_of_lt (Heap.lt_size he)
 have h2:((s.heap.push emptyDict).update e fun o=>{ o with dict:=some s.heap.objs.size }).get? s.heap.objs.size=some (dictOf [] 0):=(Heap.get?_update_ne _ _ _ _ hes.symm).trans (Heap.get?_push_at rfl rfl)
 refine bD he (by kernel_rfl) (bD hC (by kernel_rfl) (Ap (o:=emptyDict) (by kernel_rfl) ?_))
 refine cK (t':=update e (fun o=>{ o with dict:=some s.heap.objs.size }) >>= fun _=>qS s.heap.objs.size name v) (by kernel_rfl) (wpAny_bind (PySem.wpAny_update he1 (sD h2 rfl (Nat.le_of_ble_eq_true rfl) fun h' hs t D sb=>?_)))
 have kp:∀ b o,b≠e→s.heap.get? b=some o→h'.get? b=some o:=fun b o nb hb=>(sb.2 b (Nat.ne_of_lt (Heap.lt_size hb))).trans ((Heap.get?_update_ne _ _ _ _ nb).trans (Heap.get?_push_of_some _ hb))
 exact hq _ h' _ _ _ _ (Heap.get?_none_of_le (Nat.le_refl _)) ((sb.2 e hes).trans (Heap.get?_update_self _ he1 rfl)) D kp
end
noncomputable abbrev mN(x1 x2 told:Str)(p1 p2 p3 p4:Pos):List PySem.Stmt:=[.Assign [.Attribute (.Name x1 p1) told p2] (.Name x2 p3) p4]
inductive zG(R:Rt):Prop
 | mk {fI lx fd x1 x2 p1 p2 p3 p4} (F:ve R fI lx fd (mN x1 x2 (R.nm cO) p1 p2 p3 p4) [x1,x2]) (B:uv R fd [x1,x2] 2 []) (l1:lx.names.lookup x1=some .local) (l2:lx.names.lookup x2=some .local) (d1:(x1==("__debug__" : Str))=false) (d2:(x2==("__debug__" : Str))=false)
  (fi:findIn R.K (.ref (R.ca aQ)) "__init__" = some (some (.ref (R.fa fI)))) (ty:typeIn R.K (.ref (R.fa fI))=some (.type "function")):zG R
structure u4(R:Rt):Prop where
 cls:∃ o B,R.K.lookup (R.ca aQ)=some (Dx o (R.ca aQ) B)
 cal:specialIn R.K (.ref (R.ca aQ)) "__call__" = some (some (.builtin "type.__call__"))
 typ:instIn R.K (.ref (R.ca aQ)) (.type "type")=some true
 keep:keepIn R.K (.ref (R.ca aQ))=true
 sa:findIn R.K (.ref (R.ca aQ)) "__setattr__" = some (some (.builtin "object.__setattr__"))
 told:findIn R.K (.ref (R.ca aQ)) (R.nm cO)=some none
 ga:findIn R.K (.ref (R.ca aQ)) "__getattribute__" = some (some (.builtin "BaseException.__getattribute__"))
 gx:findIn R.K (.ref (R.ca aQ)) "__getattr__" = some none
 init:zG R
section
variable{R:Rt}{call:aw}{lx:bN}{d n:Nat}{σ σ':List O}{ρ ρ':List Addr}{l:List Env}{renv:Env}{s s':Shared}{e:Addr}{told:ae}{A:Around}
theorem CV(ok:aZ R){fI:Nat}{lx:bN}{fd:FuncData}{x1 x2:Str}{p1 p2 p3 p4:Pos}{B t₀:Addr}{o:PySem.Obj}{v:Value}{Qr Er:Value→Shared→Prop}(hd:A.depth < 1000)(K:R.K.In s.heap)(hX:R.K.lookup (R.ca aQ)=some (Dx o (R.ca aQ) B))(po:u4 R)
 (F:ve R fI lx fd (mN x1 x2 (R.nm cO) p1 p2 p3 p4) [x1,x2]) (Bn:uv R fd [x1,x2] 2 []) (l1:lx.names.lookup x1=some .local) (l2:lx.names.lookup x2=some .local) (d1:(x1==("__debug__" : Str))=false) (d2:(x2==("__debug__" : Str))=false)
 (hlim:s.heap.NoLimit) (he:s.heap.get? e=some (c6 (R.ca aQ) t₀))
 (hq:∀ dd h' tk hsh k n,s.heap.get? dd=none→h'.get? e=some (mB (R.ca aQ) t₀ dd)→h'.get? dd=some (fU [⟨hsh,.str (R.nm cO) k,v⟩] n)→(∀ b o,b≠e→s.heap.get? b=some o→h'.get? b=some o)→Qr .none { s with heap:=h',toks:=tk }) :
 bO R.M A (.call (.ref (R.fa fI)) ⟨[.ref e,v],[]⟩) (RV Qr Er) s:=by
 refine (Bn (rvs:=[.ref e,v]) rfl).elim fun dr w=>?_
 have hdr:=(w.2.2 s.heap []).nil' (P:=fun xs=>xs=[]) rfl
 subst hdr
 refine enter F K hlim hd (sT K w.1) (fun x hx=>(List.of_mem_zip hx).1) fun env e1 e2 e3 e4 e5 e6 s1 x=>?_
 have hkd:env.scope.kind = .function:=e1▸F.kind
 have hnm:∀ y,env.kindOf y=lx.names.lookup y:=fun y=>congrArg (List.lookup y) (e1▸F.names)
 have hns:=x.toInCall.ns
 have keep:Mine.Keeps s.heap s1.heap:=x.toInCall.keep
 have m1:=(mq (m:=fun _=>none) (m':=fun _=>none) (kd:=env.kindOf) (x:=x1) (v:=.ref e) (l:=[(x1,.ref e),(x2,v)]) F.nodup (.head _)).1 ((hnm x1).trans l1)
 have m2:=(mq (m:=fun _=>none) (m':=fun _=>none) (kd:=env.kindOf) (x:=x2) (v:=v) (l:=[(x1,.ref e),(x2,v)]) F.nodup (.tail _ (.head _))).1 ((hnm x2).trans l2)
 refine x.toInCall.same.elim fun h1 w=>w.elim fun tk w=>?_
 subst w
 have K1:=K.keeps keep
 refine ah (arm_execs_cons ..) (ab (dT (fun _ _ _=>rfl) rfl rfl (am (wpAny_Name (wpAny_loadName_local hkd ((hnm x2).trans l2) hns m2 ?_) d2))))
 refine ah (arm_assign_Attribute ..) (ay (am (wpAny_Name (wpAny_loadName_local hkd ((hnm x1).trans l1) hns m1 (ao (ai (wpAny_holding ?_)))) d1)))
 refine zR K1 (K1 _ _ hX) (keep _ _ he) po.sa po.told fun dd h' tk' hsh k n hz a1 a2 a3=>am (wpAny_release ?_)
 exact ah (arm_execs_nil ..) (af (hq dd h' _ hsh k n (keep.back hz) a1 a2 fun b o nb hb=>a3 b o nb (keep b o hb)))
theorem jo.made{own_:List Addr}{t₀ dd:Addr}{h':Heap}{tk:Nat}{hsh:Int}{k t':Tok}{m:Nat}(F:Fs R l σ ρ s.heap)(keep:Mine.Keeps s.heap h')(he0:s.heap.get? e=none)(hd0:s.heap.get? dd=none)(he:h'.get? e=some (mB (R.ca aQ) t₀ dd))(hd:h'.get? dd=some (fU [⟨hsh,.str (R.nm cO) k,.bytes told.toArray t'⟩] m)) :
 jo R l ρ own_ s σ ρ e told { s with heap:=h',toks:=tk } :=
 ⟨F.st.keepAll keep,.refl _,fun b o q _ _=>⟨o.slots,keep b o q,fun _=>rfl⟩,keep.live,fun a q=>.inl q,keep.tups,bA (fun a _ o ho hd=>⟨o,keep a o ho,hd⟩) F.ff,.mk he (Nat.le_of_ble_eq_true rfl) (.no rfl) hd ⟨F.st.out he0,F.st.out0 he0,he0⟩ ⟨F.st.out hd0,F.st.out0 hd0,hd0⟩,rfl,rfl,rfl⟩
theorem br.lt1(H:br R d n A l):A.depth < 1000:=Nat.lt_of_le_of_lt (Nat.le_trans (Nat.le_add_right _ _) (Nat.le_add_right _ _)) H.depth
theorem Af{x:Sem Value}{B:Addr}{o:PySem.Obj}{Q:Flow→Shared→Prop}{E:Value→Shared→Prop}(hX:R.K.lookup (R.ca aQ)=some (Dx o (R.ca aQ) B))(hh:A.handled=none)
 (h:aT R.M A x (fun v s₁=>∃ e t₀ dd,v = .ref e∧R.K.In s₁.heap∧s₁.heap.get? e=some (mB (R.ca aQ) t₀ dd)∧E (.ref e) s₁) E s):aT R.M A (raiseStmt renv (some x) none) Q E s:=by
 refine ab (bz h (fun v s₁ w=>w.elim fun e w=>w.elim fun t₀ w=>w.elim fun dd w=>?_) fun _ _ x=>x)
 cases w.1
 have he:=w.2.2.1
 have hC:=w.2.1 _ _ hX
 refine fO he (by kernel_rfl) (fO he (by kernel_rfl) (fO hC (by kernel_rfl) (fO he (by kernel_rfl) (fO he (by kernel_rfl) (fO hC (by kernel_rfl) (fO he (by kernel_rfl) (Hq hh (by kernel_rfl) ?_)))))))
 exact ah (t':=throw (.ref e)) (by kernel_rfl) (am (wpAny_throw w.2.2.2))
noncomputable def Gm(K:ag):aL:=fun vs σ=>List.casesOn (motive:=fun _=>Prop) vs False fun v r=>List.casesOn (motive:=fun _=>Prop) r (K v σ) fun _ _=>False
theorem CZ{X:ak}{vs:List V}{G:Prop}(h:Gm (Ep X) vs σ)(k:∀ b,vs=[.bytes b]→X b σ→G):G:=by
 cases vs with
 | nil=>exact h.elim
 | cons v r=>cases r with
  | cons _ _=>exact h.elim
  | nil=>cases v with
   | bytes b=>exact k b rfl h
   | _=>exact h.elim
theorem CJ(ok:aZ R)(po:u4 R){ex:E}{x:Str}{np cp p:Pos}{v:PySem.Expr}(hg:yB R lx x (.cls aQ)=true)(ha:jf R call lx d (n+1) [ex] [v]):eK R call lx d (n+1) (.raise ex) (.Raise (some (.Call (.Name x np) [v] [] cp)) none p):=fun {env σ Q X A l renv ρ s Qr Er} h H F I kq kx=>by
 refine po.cls.elim fun o w=>w.elim fun B hX=>?_
 refine ah (arm_exec_Raise ..) (ao ?_)
 refine ah (t':=raiseStmt renv (some (eval (.Call (.Name x np) [v] [] cp) renv >>= fun v=>standAt p >>= fun _=>pure v)) none) (by rw [arm_evalOpt_some];rfl) (Af hX H.handled (ab ?_))
 refine ah (t':=eval (.Name x np) renv >>= fun g=>callWith cp g [] (backTo cp (starEach [v] renv)) []) rfl (ab (am (jU ok hg I fun rv r=>r.cls' ?_)))
 refine n6 (Q:=Gm (Ep X)) ha h H I kx.thin fun vs σ2 ρ2 rvs s2 o2 r2 q2=>CZ q2 fun told ev q2=>?_
 subst ev
 refine r2.one' fun y r2=>r2.bytes' fun tb=>?_
 have S:=o2.st
 have K:=ok.X.keeps S.base
 refine ⟨.of K po.keep,?_⟩
 induction po.init with
 | @mk fI lxI fd x1 x2 p1 p2 p3 p4 Fn Bn l1 l2 d1 d2 hi ht =>
  have hC:=K _ _ hX
  have k1:=Mine.Keeps.push s2.heap { cls:=.type "tuple",data:=.seq #[.bytes told.toArray tb] }
  have k2:=k1.trans (Mine.Keeps.push _ (c6 (R.ca aQ) s2.heap.objs.size))
  have hx:=kt s2.heap (o:={ cls:=.type "tuple",data:=.seq #[.bytes told.toArray tb] }) (o':=c6 (R.ca aQ) s2.heap.objs.size) rfl
  have t1:Looks R.M ((s2.heap.push { cls:=.type "tuple",data:=.seq #[.bytes told.toArray tb] }).push (c6 (R.ca aQ) s2.heap.objs.size)) (typeOf (.ref (s2.heap.objs.size+1))) (.ref (R.ca aQ)):=(Looks.ld hx).andThen .now
  have F1:Fs R l σ2 ρ2 s2.heap:=(o2.inv I).fs
  refine uc (x:=s2.heap.objs.size+1) (id := "Exception.__new__") (s':={ s2 with heap:=(s2.heap.push { cls:=.type "tuple",data:=.seq #[.bytes told.toArray tb] }).push (c6 (R.ca aQ) s2.heap.objs.size) }) hC (looks_specialIn K po.cal) (looks_instIn K po.typ) rfl (fun A Q E s k q=>wpAny_madeBy_exc (k _ _ hC) q)
   (fun q=>codeAny_call_builtin_code (Code.quiet_builtin _ PySem.F.excBase_Exception.quiet) (wpAny_check_new_subU PySem.F.excBase_Exception (bmB:=.ref B :: nR) (by rw [List.contains_cons];rfl) .base hC (Eb hC q)))
   (t1.andThen (wC (r:=true) (k2 _ _ hC) (show (Value.ref (R.ca aQ) :: .ref B :: nR).contains (.ref (R.ca aQ))=true by rw [List.contains_cons,beq_self_eq_true];rfl))) (t1.andThen ((looks_findIn K hi).keeps k2)) (bind_fn (K.keeps k2) _ ht) ?_
  refine CV ok (H.call1 _ _).zero.lt1 (K.keeps k2) hX po Fn Bn l1 l2 d1 d2 ((ok.nolimit.keeps S.base).keeps k2) hx fun dd h' tk hsh k m hz a1 a2 a3=>⟨rfl,ao (af ⟨_,_,dd,rfl,?_,a1,?_⟩)⟩
  · exact K.keeps fun b o e=>a3 b o (Nat.ne_of_lt (Nat.lt_succ_of_lt (Heap.lt_size e))) (k2 b o e)
  · have kk:Mine.Keeps s2.heap h':=fun b o e=>a3 b o (Nat.ne_of_lt (Nat.lt_succ_of_lt (Heap.lt_size e))) (k2 b o e)
    exact kx _ _ _ _ _ ((jo.made F1 kk (Heap.get?_none_of_le (Nat.le_succ _)) (k2.back hz) a1 a2).after o2.wide) q2
end
section
variable{R:Rt}{lx:bN}{σ σ':List O}{ρ ρ':List Addr}{l:List Env}{renv:Env}{env:au}{s s':Shared}{e:Addr}{told:ae}{A:Around}{h h':Heap}{C B:Addr}{o:PySem.Obj}
theorem Ej{x:Addr}{ox:PySem.Obj}{od:Option PySem.Obj}{name:Str}{v:Value}{Q E:Value→Shared→Prop}(X:R.K.In s.heap)(hC:s.heap.get? C=some (Dx o C B))(I:PySem.W.InstAt s.heap x ox C od)(hga:findIn R.K (.ref C) "__getattribute__" = some (some (.builtin "BaseException.__getattribute__")))(hgx:findIn R.K (.ref C) "__getattr__" = some none)
 (hf:findObj R.K C od name=some (.value v)) (hh:handedIn v=true) (hq:Q v { s with toks:=s.toks+1 }):wpAny R.M A (getAttr (.ref x) name true) Q E s:=by
 have L0:=I.type (M:=R.M)
 have S:Slot "Exception" "__getattribute__" "BaseException.__getattribute__" := PySem.F.attr_Exception.ga
 refine wpAny_bind (wpAny_mkText (wpAny_holding (wpAny_bind (L0.at (wpAny_bind ((looks_findIn (M:=R.M) X hga).at ?_))))))
 refine cK (t':=getAttrByItsOwn (.ref x) (.str name s.toks) (.ref C) (.builtin "BaseException.__getattribute__") true true) (by kernel_rfl) (wpAny_bind (cK (t':=typeLookup (.ref C) "__getattr__") rfl ((looks_findIn (M:=R.M) X hgx).at (wpAny_bind (wpAny_attempt (wpAny_holding ?_))))))
 refine cK (t':=bindSpecial (.builtin "BaseException.__getattribute__") (.ref x) >>= fun g=>call g.1 (g.2++[.str name s.toks])) (by kernel_rfl) ?_
 rw [S.bind (.ref x)]
 refine wpAny_bind (wpAny_pure (wpAny_call (codeAny_call_builtin S.plain PySem.F.entry_bexc_ga (check_slot (s:={ s with toks:=s.toks+1 }) (i := "BaseException.__getattribute__") (owner := "BaseException") (n := "__getattribute__") (self:=.ref x) (rest:=[.str name s.toks]) (kw:=[]) (by decide +kernel) (by decide +kernel) (I.type.andThen (wC (r:=true) hC (by kernel_rfl))) (PySem.F.args_bexc_ga (.ref x) (.str name s.toks)) ?_))))
 unfold Builtin.«object.__getattribute__»
 refine wpAny_bind (wpAny_pure (wpAny_bind (wpAny_pure (wpAny_bind (L0.at (wpAny_bind ((looks_find (M:=R.M) X I hf).at (wpAny_pure ?_))))))))
 exact cK (handedOut_of hh) (wpAny_pure hq)
theorem bM.thrown(I:bM R lx l renv env σ ρ s.heap)(t:jo R l ρ [] s σ' ρ' e told s'):bM R lx l renv env σ' ρ' s'.heap :=
 I.step t.st (fun r=>r.mono t.tups t.pre) (fun a m o ho=>(t.keep a o ho (I.sep a m).1 List.not_mem_nil).elim fun sl w=>⟨sl,w.1⟩) t.ff t.fresh fun _ _ e=>e
theorem bM.side{j:Nat}{z:Str}{v:Option Value}{m:Str→Option Value}(I:bM R lx l renv env σ ρ h)(hj:lx.nm[j]? = some (some z))(hl:lx.names.lookup z=some .local)(he:env[j]? = some none)(hm:h.Ns renv.locals m)(hv:∀ (i:Nat) (x:Str),lx.nm[i]? = some (some x)→eG R lx renv env h ρ m i x)
 (hn:h'.Ns renv.locals (fun x=>if x=z then v else m x)) (hs:Heap.SameBut renv.locals h h'):(bM R lx l renv env σ ρ h'∧lK ρ (own renv) h ρ h')∧∀ (i:Nat) (x:Str),lx.nm[i]? = some (some x)→eG R lx renv env h' ρ (fun x=>if x=z then v else m x) i x:=by
 have E:=I.env
 have key:(∀ {w u},aq R h ρ w u→aq R h' ρ w u)→∀ (i:Nat) (x:Str),lx.nm[i]? = some (some x)→eG R lx renv env h' ρ (fun x=>if x=z then v else m x) i x:=fun up i x a=>by
  by_cases q:i=j
  · subst q
    rw [hj] at a;cases a
    exact .loc hl fun w e=>by rw [he] at e;cases e
  · exact (hv i x a).set (fun _ e=>e) up (if_neg fun y:x=z=>q (E.dist i j x a (y▸hj))) fun c ov e1 d=>d.elim fun o w=>⟨o,(hs.2 _ (E.cloc _ _ e1)).trans w.1,w.2⟩
 have B:=I.bind (env':=env) (.head _) hs (fT hm).2 (fT hn).1 fun up=>⟨_,hn,key up⟩
 exact ⟨⟨B.1,B.2.weaken fun a m=>.inl (List.mem_singleton.mp m ▸ .head _)⟩,key fun r=>B.2.vrel r⟩
theorem jo.stp(t:jo R l ρ [] s σ' ρ' e told s')(hf:∀ a∈sY l,a∈own renv):lK ρ (own renv) s.heap ρ' s'.heap :=
 ⟨t.pre,fun b o q n1 n2=>(t.keep b o q n1 List.not_mem_nil).elim fun sl w=>w.1.trans (congrArg (fun x=>some { o with slots:=x }) (w.2 fun m=>n2 (hf b m))),t.live,t.fresh,t.tups⟩
theorem eT.but{L:Option Addr}{h0:Heap}{a:Addr}(X:eT R L ρ h0 h e told)(ha:∃ o,h0.get? a=some o)(hs:Heap.SameBut a h h'):eT R L ρ h0 h' e told:=by
 have kp:∀ {b},vC R ρ h0 b→∀ {o},h.get? b=some o→h'.get? b=some o:=fun n o ho=>(hs.2 _ fun q=>ha.elim fun o z=>aK n.old (q▸z)).trans ho
 cases X with
 | mk he hz hf hd ne nd=>exact .mk (kp ne he) hz (eM.rec (motive:=fun _=>eM R L ρ h0 h' e _) .no (fun h1 hT n1 n h3 hx=>.tb h1 (kp n hT) n1 n h3 hx) hf) (kp nd hd) ne nd
end
noncomputable abbrev vL(z told u:Str)(p0 p1 p2 p3 p4 p5 p6 p7:Pos)(k:Nat):List PySem.Stmt :=
 [.If (.Compare (.Attribute (.Name z p0) told p1) [.NotEq] [.Name u p2] p3) [.Return (some (.Constant (.bool false) k p4)) p5] [] p6,.Break p7]
section
variable{R:Rt}{call:aw}{lx:bN}{d n:Nat}{σ σ':List O}{ρ ρ':List Addr}{l:List Env}{renv:Env}{env:au}{s s':Shared}{e:Addr}{told:ae}{A:Around}{Er:Value→Shared→Prop}
theorem FX{M:Model}{E:Value→Shared→Prop}{vs:List Value}{m:Sem Value}{Q:Value→Shared→Prop}(h:wpAny M A m Q E s):wpAny M A (operate vs m) Q E s:=fun Γ p hΓ=>(Sem.wp_operate ..).symm▸h Γ p hΓ
theorem A7{i:Nat}{x:Str}{p:Pos}{v:V}{Qr Er:Value→Shared→Prop}(hc:eL lx i x=true)(hv:env[i]? = some (some v))(I:bM R lx l renv env σ ρ s.heap)(k:∀ rv,aq R s.heap ρ v rv→Qr rv s):wpAny R.M A (eval (.Name x p) renv) Qr Er s:=by
 have c:=xO hc
 have hd:=rP ((Bool.and_eq_true _ _).mp hc).2
 have E:=I.env
 refine E.vars.elim fun m z=>wpAny_Name ?_ hd
 cases z.2 i x c.1 with
 | loc k1 hq=>exact (hq v hv).elim fun rv q=>wpAny_loadName_local E.kind (d8 E k1) z.1 q.1 (k rv q.2)
 | cel k1 e dd hq=>exact (hq v hv).elim fun rv q=>wpAny_loadName_cell E.kind (d8 E k1) e (q.1▸dd) (k rv q.2)
 | no k1 k2=>exact c.2.elim (fun q=>absurd q k1) fun q=>absurd q k2
noncomputable def Hm(told b:ae):Flow:=if told=b then .brk else .ret (.bool false)
theorem AH(ok:aZ R)(po:u4 R){L:Option Addr}{h0:Heap}{due:Nat}{z u:Str}{p0 p1 p2 p3 p4 p5 p6 p7:Pos}{k:Nat}{b:ae}{m:Str→Option Value}{Qr:Flow→Shared→Prop}(hu:A.units < 9000)(I:bM R lx l renv env σ ρ s.heap)(hx:eT R L ρ h0 s.heap e told)(hz:renv.kindOf z=some .local)(hzd:(z==("__debug__" : Str))=false)
 (hm:s.heap.Ns renv.locals m) (hmz:m z=some (.ref e)) (hc:eL lx due u=true) (hv:env[due]? = some (some (.bytes b))) (kq:∀ tk,Qr (Hm told b) { s with toks:=tk }):wpAny R.M A (execs (vL z (R.nm cO) u p0 p1 p2 p3 p4 p5 p6 p7 k) renv) Qr Er s:=by
 refine po.cls.elim fun o w=>w.elim fun B hX=>?_
 have K:=I.K ok
 have hC:=K _ _ hX
 cases hx with
 | @mk d' vs sl hs t1 t2 nn he hzz hfl hd ne nd =>
  refine cK (arm_execs_cons ..) (wpAny_bind (cK (arm_exec_If ..) (wpAny_bind (wpAny_standAt (wpAny_bind (cK (arm_isTrue_Compare ..) (wpAny_bind (cK (arm_eval_Attribute ..) (wpAny_bind (wpAny_Name (wpAny_loadName_local I.env.kind hz hm hmz ?_) hzd))))))))))
  have I':PySem.W.InstAt s.heap e ⟨.ref (R.ca aQ),some d',.fields vs,sl⟩ (R.ca aQ) (some (fU [⟨hs,.str (R.nm cO) t1,.bytes told.toArray t2⟩] nn)):=⟨he,rfl,rfl,hd⟩
  have hl:lookIn (R.nm cO) (dictOf [⟨hs,.str (R.nm cO) t1,.bytes told.toArray t2⟩] nn)=some (some (.bytes told.toArray t2)):=by
   rw [lookIn_dict]
   unfold getL
   rw [List.find?_cons,show Value.isStr (.str (R.nm cO) t1) (R.nm cO)=true from beq_self_eq_true _]
  have hcd:(clsIn R.K (R.ca aQ)).any (·.hasDict)=true:=by unfold clsIn;rw [hX];rfl
  refine wpAny_bind (wpAny_standAt (wpAny_bind (wpAny_holding (Ej K hC I' po.ga po.gx (findObj_own hcd po.told rfl hl) rfl (wpAny_bind (wpAny_letTemporaryGo (wpAny_pure ?_)))))))
  refine cK (t':=testChain p3 (.bytes told.toArray t2) [.NotEq] [eval (.Name u p2) renv]) rfl (wpAny_bind (wpAny_holding (A7 (s:={ s with toks:=s.toks+1 }) hc hv I fun rv r=>r.bytes' fun t3=>wpAny_bind (wpAny_standAt (wpAny_bind ?_)))))
  have S:St R σ ρ { s with toks:=s.toks+1 }.heap:=I.st
  refine FX ((HG (A:=A) ok.inj S (.val .bytes) hu (.bytes told t2) (.bytes b t3)).ne _ _ _ _ (wpAny_holding (wpAny_truthy_bool ?_)))
  have kq:=kq (s.toks+1)
  unfold Hm at kq
  by_cases q:told=b
  · rw [if_pos q] at kq
    rw [decide_eq_true q]
    exact cK (t':=execs [] renv) rfl (cK (arm_execs_nil ..) (wpAny_pure (cK (arm_execs_cons ..) (wpAny_bind (cK (arm_exec_Break ..) (wpAny_bind (wpAny_standAt (wpAny_pure (wpAny_pure kq)))))))))
  · rw [if_neg q] at kq
    rw [decide_eq_false q]
    exact cK (t':=execs [.Return (some (.Constant (.bool false) k p4)) p5] renv) rfl (cK (arm_execs_cons ..) (wpAny_bind (cK (exec_Return_some ..) (wpAny_bind (wpAny_standAt (wpAny_bind (wpAny_pure (wpAny_pure (wpAny_pure (wpAny_pure kq))))))))))
end
section
variable{R:Rt}{call:aw}{lx:bN}{d n:Nat}
noncomputable def An(hs:List ExceptHandler)(orelse:Sem Flow)(env:Env):Except Value Flow→Sem Flow:=fun r=>match r with
 | .ok .next=>orelse
 | .ok f=>pure f
 | .error e=>noteFrame e env >>= fun _=>setFlight e none >>= fun _=>handleBy e env hs
theorem EG(body orelse:Sem Flow)(h:ExceptHandler)(env:Env):tryStmt false body [h] orelse [] env=body.attempt >>= An [h] orelse env:=by kernel_rfl
theorem Dg{env:au}{due:Nat}{Q:aF}{told:ae}{σ:List O}{G:Prop}(h:GW env[due]? env Q told σ)(k:∀ b,env[due]? = some (some (.bytes b))→(told=b→Q .brk env σ)∧(told≠b→Q (.ret (.bool false)) env σ)→G):G:=by
 cases e:env[due]? with
 | none=>rw [e] at h;exact h.elim
 | some o=>cases o with
  | none=>rw [e] at h;exact h.elim
  | some v=>cases v with
   | bytes b=>rw [e] at h;exact k b e h
   | _=>rw [e] at h;exact h.elim
theorem FG(ok:aZ R)(po:u4 R)(hd:d=100){i j due:Nat}{ex:E}{x y z u:Str}{v:PySem.Expr}{px pa py ph pt p0 p1 p2 p3 p4 p5 p6 p7:Pos}{k:Nat}(hc:eL lx i x=true)(hn:m8 v)(he:Ok R call lx d n ex v)(hg:yB R lx y (.cls aQ)=true)(hz:yW lx j z=true)(hu:eL lx due u=true) :
 eK R call lx d n (.tryx i ex j due) (.Try [.Assign [.Name x px] v pa] [.ExceptHandler (some (.Name y py)) (some z) (vL z (R.nm cO) u p0 p1 p2 p3 p4 p5 p6 p7 k) ph] [] [] pt):=fun {env σ Q X A l renv ρ s Qr Er} h H F I kq kx=>by
 cases F with
 | @mk outer hf =>
 subst hd
 have hout:outer=[]:=by
  have hl:=H.lone (Nat.le_refl _)
  cases outer with
  | nil=>rfl
  | cons _ r=>exact absurd hl (Nat.not_le_of_gt (Nat.lt_of_lt_of_le (show 101 < 102 by decide) (Nat.le_add_left 102 r.length)))
 subst hout
 have c:=(Bool.and_eq_true _ _).mp hz
 have c1:=(Bool.and_eq_true _ _).mp c.1
 have hz1:=eq_of_beq c1.1
 have hz2:=eq_of_beq c1.2
 have hz3:=rP c.2
 have hk:renv.kindOf z=some .local:=d8 I.env hz2
 have hp:(renv.scope.kind == .class||(renv.scope.kind == .module&&renv.locals != renv.globals))=false:=by rw [I.env.kind];rfl
 refine ah (arm_exec_Try ..) (ao (ah (EG ..) (ab (lz (ah (arm_execs_cons ..) (ab (dT hn rfl rfl (he h.2 H I (fun w σ1 ρ1 ra s1 o1 r1 q1=>?_) fun told σ' ρ' e' s' t hx=>?_))))))))
 · exact am (wpAny_assign_Name (fx hc (o1.inv I) r1 fun s' o I'=>ah (arm_execs_nil renv) (af (ah (arm_execs_nil renv) (af (kq _ _ _ _ _ _ (o1.wide.trans o) I' .next q1))))))
 · refine ai (vw t I.fs H.frames hf fun s2 t2 X2=>ai (j4 t2 I.fs X2 (.inl rfl) fun s3 t3 X3=>am ?_))
   have I3:=I.thrown t3
   refine Dg hx fun b eb hx=>wpAny_handleBy_cons (codeAny_handlers_test (jU ok hg I3 fun rv r=>r.cls' ?_)) (by intro q;cases q)
   refine po.cls.elim fun o w=>w.elim fun B hX=>?_
   have hC:=I3.K ok _ _ hX
   cases t3.exc with
   | mk he3 =>
   obtain ⟨hp3,g3,dr3,tk3,os3⟩:=s3
   refine wpAny_excMatches_sub_self hC he3 rfl (by rw [List.contains_cons];rfl) (codeAny_handlers_suite_as (j4 t3 I.fs X3 (.inl rfl) fun s4 t4 X4=>?_))
   have I4:=I.thrown t4
   refine I4.env.vars.elim fun m hm=>wpAny_storeName_local hk hm.1 (fun h5 hn5 hs5=>?_) hp
   have X5:=t4.exc.but (I.sep _ (.head _)).2.2 hs5
   have w5:=I4.side hz1 hz2 h.1 hm.1 hm.2 (v:=some (.ref e')) hn5 hs5
   refine AH ok po (A:=_) H.lt w5.1.1 X5 hk hz3 hn5 (if_pos rfl) hu eb fun tk=>wpAny_nameGoes_keeps hk hn5 hp fun h6 v6 hn6 hs6=>?_
   have w6:=w5.1.1.side hz1 hz2 h.1 hn5 w5.2 hn6 hs6
   have hfr:∀ a∈sY [renv],a∈own renv:=fun a m=>(List.mem_filterMap.mp m).elim fun en q=>by
    have z:=q.2
    rw [List.mem_singleton.mp q.1,hf] at z
    cases z;exact .head _
   have o6:bV R ρ (own renv) s σ' ρ' { s4 with heap:=h6,toks:=tk+1 }:=⟨w6.1.1.st,(t4.stp hfr).trans (w5.1.2.trans w6.1.2),t4.gens,t4.drawn,t4.os⟩
   by_cases q:told=b
   · rw [show Hm told b = .brk from if_pos q]
     exact kq _ _ _ _ _ _ o6 w6.1.1 .brk (hx.1 q)
   · rw [show Hm told b = .ret (.bool false) from if_neg q]
     exact kq _ _ _ _ _ _ o6 w6.1.1 (.ret (.bool _)) (hx.2 q)
end
inductive fq(h:Heap)(ρ:List Addr):bn→List V→Nat→Addr→Prop
 | bytes {b:ae} {t i it} (hi:i≤b.length) (I:KBw.IsBytesIter h it b.toArray t i):fq h ρ (fun _=>True) (av (b.drop i)) i it
 | list {j:Nat} {a i it} {vs:List V} (e:ρ[j]? = some a) (I:h.IsListIter it a i):fq h ρ (fun σ=>σ[j]? = some (.list vs)) (vs.drop i) i it
inductive iR(h:Heap)(ρ:List Addr):List Addr→Bool→bn→List V→Addr→Prop
 | src {live xs i it} (I:fq h ρ live xs i it):iR h ρ [it] false live xs it
 | enum {live xs} {i:Nat} {it e old} (ne:e≠it) (he:IsEnum h e it (i:Int) old) (I:fq h ρ live xs i it):iR h ρ [e,it] true live (enumL i xs) e
 | rng {a c:Int} {m:Nat} {it} (I:IsRangeIter h it a m c):iR h ρ [it] false (fun _=>True) (cT a c m) it
noncomputable def oe(W:List Addr)(h h':Heap):Prop:=∀ b o,b∉W→h.get? b=some o→h'.get? b=some o
noncomputable def NT(h:Heap)(W:List Addr):Prop:=∀ a∈W,∃ o,h.get? a=some o∧∀ xs n sl,o≠dE xs n sl
theorem xq{o:PySem.Obj}(h:o.cls ≠ .type "tuple"):∀ xs n sl,o≠dE xs n sl:=fun _ _ _ e=>h (e▸rfl)
theorem kD{α:Type}{x:α}:∀ {xs:List α} {i:Nat},xs[i]? = some x→xs.drop i=x :: xs.drop (i+1):=by
 intro xs
 induction xs with
 | nil=>exact fun e=>nomatch e
 | cons y ys ih=>intro i;cases i with
  | zero=>exact fun e=>Option.some.inj e▸rfl
  | succ i=>exact fun e=>ih (i:=i) e
theorem kX{α:Type}{xs:List α}{i:Nat}(e:xs[i]? = none):xs.drop i=[]:=List.drop_eq_nil_iff.mpr (List.getElem?_eq_none_iff.mp e)
section
variable{h h':Heap}{ρ ρ' W:List Addr}{live:bn}{xs:List V}{i:Nat}{it:Addr}{tup:Bool}{R:Rt}{A:Around}{s:Shared}{σ:List O}
theorem fq.keep(I:fq h ρ live xs i it)(k:∀ o,h.get? it=some o→h'.get? it=some o)(hp:yH ρ ρ'):fq h' ρ' live xs i it:=by
 induction I with
 | bytes hi I=>exact .bytes hi (I.elim fun o w=>⟨o,k o w.1,w.2⟩)
 | list e I=>exact .list (hp _ _ e) (I.elim fun o w=>⟨o,k o w.1,w.2⟩)
theorem iR.keep(I:iR h ρ W tup live xs it)(k:∀ a∈W,∀ o,h.get? a=some o→h'.get? a=some o)(hp:yH ρ ρ'):iR h' ρ' W tup live xs it:=by
 induction I with
 | src I=>exact .src (I.keep (k _ (.head _)) hp)
 | enum ne he I=>exact .enum ne (k _ (.head _) _ he) (I.keep (k _ (.tail _ (.head _))) hp)
 | rng I=>exact .rng (k _ (.head _) _ I)
noncomputable def DE:List String:=["enumerate", "zip", "dict_itemiterator", "dict_reverseitemiterator", "odict_iterator", "itertools.zip_longest", "itertools.pairwise"]
inductive xt(h:Heap)(it:Addr):Prop
 | mk {n d vs sl} (e:h.get? it=some ⟨.type n,d,.fields vs,sl⟩) (ho:DE.contains n=false) (hn:(n == "tuple")=false):xt h it
theorem pW{n:String}{vs:Array Value}(ho:DE.contains n=false)(hn:(n == "tuple")=false)(I:∃ o,h.get? it=some o∧o.cls = .type n∧o.data = .fields vs):xt h it:=I.elim fun o w=>by
 obtain ⟨c,d,dt,sl⟩:=o
 have e1:c = .type n:=w.2.1
 have e2:dt = .fields vs:=w.2.2
 subst e1 e2
 exact .mk w.1 ho hn
theorem fq.plain(I:fq h ρ live xs i it):xt h it:=by
 induction I with
 | bytes hi I=>exact pW (by decide +kernel) rfl I
 | list e I=>exact pW (by decide +kernel) rfl I
theorem fq.nt(I:fq h ρ live xs i it):∃ o,h.get? it=some o∧∀ xs n sl,o≠dE xs n sl:=by
 induction I.plain with
 | mk e ho hn=>exact ⟨_,e,xq (gP hn)⟩
theorem iR.nt(I:iR h ρ W tup live xs it):NT h W:=by
 induction I with
 | src I=>exact fun a m=>List.mem_singleton.mp m▸I.nt
 | enum ne he I=>exact fun a m=>(List.mem_cons.mp m).elim (fun e=>e▸⟨_,he,xq (gP rfl)⟩) fun m=>List.mem_singleton.mp m▸I.nt
 | rng I=>exact fun a m=>List.mem_singleton.mp m▸⟨_,I,xq (gP rfl)⟩
theorem oe.tups(k:oe W h h')(hw:NT h W):dO h h':=fun a xs n sl e=>⟨sl,k a _ (fun m=>(hw a m).elim fun o w=>w.2 _ _ _ (Option.some.inj (w.1.symm.trans e))) e⟩
theorem St.but(S:St R σ ρ h)(k:oe W h h')(hw:NT h W)(hd:∀ a∈W,a∉ρ∧R.h₀.get? a=none):St R σ ρ h':=S.same (fun b o e=>k b o (fun m=>aK (hd b m).2 e) (S.base b o e)) (k.tups hw) fun a m o e=>k a o (fun q=>(hd a q).1 m) e
theorem oe.of(hs:Heap.SameBut it h h')(m:it∈W):oe W h h':=fun b o nb e=>(hs.2 b fun q=>nb (q▸m)).trans e
theorem oe.ext(hs:Heap.ExtBut it h h')(m:it∈W):oe W h h':=fun b o nb e=>hs b o (fun q=>nb (q▸m)) e
theorem pT{b:ae}{x:UInt8}(e:b[i]? = some x):av (b.drop i) = .int (x.toNat:Int) :: av (b.drop (i+1)):=congrArg av (kD e)
theorem sS{b:ae}(e:b[i]? = none):av (b.drop i)=[]:=congrArg av (kX e)
theorem qL{b:ae}{x:Option UInt8}(e:b[i]? = x):b.toArray[i]? = x:=(List.getElem?_toArray ..).trans e
theorem vE{us:Array Value}{x:Option Value}(e:us.toList[i]? = x):us[i]? = x:=Array.getElem?_toList▸e
theorem tv{vs:List V}{us:Array Value}(r:VRels R h ρ vs us.toList)(e:vs[i]? = none):us[i]? = none:=vE (List.getElem?_eq_none_iff.mpr (r.length▸List.getElem?_eq_none_iff.mp e))
end
section
variable{R:Rt}{A:Around}{s:Shared}
theorem oN{it:Addr}{b:ae}{t:Tok}{i:Nat}{Q E:Value→Shared→Prop}(hit:KBw.IsBytesIter s.heap it b.toArray t i)(h:∀ d sl,s.heap.get? it=some ⟨.type "bytes_iterator",d,.fields #[.bytes b.toArray t,.int i 0],sl⟩→wpAny R.M A.in1 (Builtin.«bytes_iterator.__next__» ⟨[.ref it],[]⟩) (lU fun v s'=>wpAny R.M A (pure v) Q E s') E s) :
 wpAny R.M A (Builtin.SmallTypes.nextOf (.ref it)) Q E s:=by
 refine wpAny_bind (wpAny_callSpecial?_slot (name:=PySem.Str.ofString "__next__") (KBw.iter_typeIs hit) KBw.slot_next (dJ (Q:=fun v s'=>wpAny R.M A (pure v) Q E s') KBw.slot_next (KBw.iter_typeIs hit) KBw.entry_next (KBw.args_next _) ?_))
 obtain ⟨⟨c,d,dt,sl⟩,ho,hc,hd⟩:=hit
 cases hc
 cases hd
 exact h d sl ho
noncomputable def Ir(it:Addr)(i:Nat)(o:Option UInt8):Sem PySem.Fin :=
 Option.casesOn (motive:=fun _=>Sem PySem.Fin) o (rule "bytes_iterator.__next__.end" >>= fun _=>setField (.ref it) 0 .none >>= fun _=>Builtin.SmallTypes.stopIteration) fun c=>setField (.ref it) 1 (rawInt ((i:Int)+1)) >>= fun _=>retInt (c.toNat:Int)
theorem H0{α:Type}{M:Model}{Q:α→Shared→Prop}{E:Value→Shared→Prop}{t:Sem α}(hh:A.handled=none)(e:w4 t = .hn)(q:wpAny M A (kU t) Q E s):wpAny M A t Q E s:=fun Γ p hΓ=>(e▸iB M Γ Q E p s t:l7 M Γ Q E p s t .hn) ((hΓ.1.trans hh)▸q Γ p hΓ)
theorem zQ{it:Addr}{d:Option Addr}{sl:Array (Option Value)}{b:ae}{t:Tok}{i:Nat}(ho:s.heap.get? it=some ⟨.type "bytes_iterator",d,.fields #[.bytes b.toArray t,.int i 0],sl⟩):KBw.IsBytesIter (s.heap.update it (Obj.mapFields (·.setIfInBounds 1 (rawInt ((i:Int)+1))))) it b.toArray t (i+1) :=
 ⟨_,Heap.get?_update_self _ ho rfl,rfl,rfl⟩
theorem tC(hh:A.handled=none)(it:Addr)(b:ae)(t:Tok) :
 Draws R.prog R.w A it [it] b.length (fun i v=>∃ c u,b[i]? = some c∧v = .int (c.toNat:Int) u) (fun i h=>KBw.IsBytesIter h it b.toArray t i) where
 live:=fun i h st=>st.elim fun o w=>⟨o,w.1⟩
 frame:=fun i h h' st k=>st.elim fun o w=>⟨o,k it (.head _) o w.1,w.2⟩
 item:=fun i s Q E hi hit hQ=>oN hit fun d sl ho=>by
  refine bD ho (by kernel_rfl) (bD ho (by kernel_rfl) (cK (t':=Ir it i b.toArray[i]?) (by kernel_rfl) ?_))
  have hx:=List.getElem?_eq_getElem hi
  rw [qL hx]
  exact wpAny_bind (wpAny_setField ho rfl (Nat.le_of_ble_eq_true rfl) (wpAny_bind (wpAny_mkInt (wpAny_pure (wpAny_pure (hQ _ _ (s.toks+1) ⟨_,_,hx,rfl⟩ (zQ ho) (Heap.SameBut.update ..)))))))
 done:=fun s Q E hit hE=>oN hit fun d sl ho=>by
  refine bD ho (by kernel_rfl) (bD ho (by kernel_rfl) (cK (t':=Ir it b.length b.toArray[b.length]?) (by kernel_rfl) ?_))
  rw [qL (List.getElem?_eq_none_iff.mpr (Nat.le_refl _))]
  refine wpAny_bind (wpAny_rule (wpAny_bind (wpAny_setField ho rfl (Nat.le_of_ble_eq_true rfl) ?_)))
  refine Ap (o:={ cls:=.type "tuple",data:=.seq #[] }) (by kernel_rfl) ?_
  refine Ap (o:={ cls:=.type "StopIteration",data:=.fields #[.ref (s.heap.update it (Obj.mapFields (·.setIfInBounds 0 .none))).objs.size,.none,.none,.none,.bool false,.none] }) (by kernel_rfl) (H0 hh (by kernel_rfl) ?_)
  exact cK (t':=throw (.ref ((s.heap.update it (Obj.mapFields (·.setIfInBounds 0 .none))).push { cls:=.type "tuple",data:=.seq #[] }).objs.size)) (by kernel_rfl) (wpAny_throw (hE _ _ (((Heap.SameBut.update ..).extBut.push _).push _) ⟨_,Heap.get?_push_size _ rfl,rfl⟩))
end
section
variable{R:Rt}{A:Around}{s:Shared}{σ:List O}{ρ W:List Addr}{live:bn}{xs:List V}{it:Addr}{tup:Bool}{E:Value→Shared→Prop}
inductive y6(okn:Nat→Str→Bool):Bool→List Nat→PySem.Expr→Prop
 | name {i x p} (h:okn i x=true):y6 okn false [i] (.Name x p)
 | tup {is es ns k p} (hc:y5 okn is es ns):y6 okn true is (.Tuple es k p)
theorem gw{M:Model}{okn:Nat→Str→Bool}{pt:Bool}{p:List Nat}{target:PySem.Expr}{r:Addr}{rv:Value}{Q:Unit→Shared→Prop}(P:y6 okn pt p target)(I:xt s.heap r)(q:Q () s):wpAny M A (letOwnedTupleGo target (.ref r) rv) Q E s:=by
 induction P with
 | name=>exact cK (t':=pure ()) rfl (wpAny_pure q)
 | tup =>
  cases rv with
  | ref a =>
   induction I with
   | mk e ho hn=>exact wpAny_bind (wpAny_load e (cK (t':=pure ()) (if_neg (ne_true_of_eq_false ((congrArg (·&&_) ho).trans (Bool.false_and _)))) (wpAny_pure q)))
  | _=>exact wpAny_pure q
noncomputable def Hl(R:Rt)(A:Around)(target:PySem.Expr)(it:Addr)(Qi:Value→Shared→Prop)(Qe:Shared→Prop)(E:Value→Shared→Prop)(r:Option Value)(s':Shared):Prop:=match r with
 | none=>Qe s'
 | some rv=>wpAny R.M A (letOwnedTupleGo target (.ref it) rv) (fun _ s''=>Qi rv s'') E s'
theorem Cd{okn:Nat→Str→Bool}{pt:Bool}{p:List Nat}{target:PySem.Expr}{Qi:Value→Shared→Prop}{Qe:Shared→Prop}(hh:A.handled=none)(S:St R σ ρ s.heap)(I:iR s.heap ρ W tup live xs it)(hl:live σ)(P:y6 okn pt p target)(ht:tup=true→pt=true)
 (kc:∀ v ys rv h' tk,xs=v :: ys→oe W s.heap h'→aq R h' ρ v rv→iR h' ρ W tup live ys it→Qi rv { s with heap:=h',toks:=tk }) (ke:∀ h',xs=[]→oe W s.heap h'→Qe { s with heap:=h' }) :
 wpAny R.M A (pyNext (.ref it)) (Hl R A target it Qi Qe E) E s:=by
 have hw:=I.nt
 induction I with
 | @src live xs i it I =>
  have done:∀ {v ys rv h' tk},xs=v :: ys→Heap.SameBut it s.heap h'→aq R h' ρ v rv→fq h' ρ live ys (i+1) it→Hl R A target it Qi Qe E (some rv) { s with heap:=h',toks:=tk }:=fun {v ys rv h' tk} e hs r I=>gw (s:={ s with heap:=h',toks:=tk }) P I.plain (kc _ _ _ h' tk e (.of hs (.head _)) r (.src I))
  induction I with
  | @bytes b t i it hi I =>
   cases hx:b[i]? with
   | some x=>exact KBw.next_item I (qL hx) fun h' I' hs=>done (pT hx) hs (.int _ _) (.bytes (List.getElem?_eq_some_iff.mp hx).1 I')
   | none=>exact KBw.next_end hh I (qL hx) fun h' he=>ke h' (sS hx) (.ext he (.head _))
  | @list j a i it vs e I =>
   refine (S.obj _ _ _ e hl).list' fun us m ho r=>?_
   cases hx:vs[i]? with
   | some x=>exact (r.get hx).elim fun u w=>wpAny_pyNext_list_item I (aM ho) (vE w.1) fun h' I' hs=>done (tk:=s.toks) (kD hx) hs (w.2.mono (oe.tups (.of hs (.head _)) hw) (.refl _)) (.list e I')
   | none=>exact wpAny_pyNext_list_end hh I (aM ho) (tv r hx) fun h' he=>ke h' (kX hx) (.ext he (.head _))
 | @enum live xs i jt it old ne he I =>
  cases P with
  | name=>cases ht rfl
  | @tup p es ns k q hc =>
  have ms:jt∈[it,jt]:=.tail _ (.head _)
  have done:∀ {v ys x h' tk tk'},xs=v :: ys→IsEnumOut h' it jt ((i:Int)+1) x s.heap.objs.size→fq h' ρ live ys (i+1) jt→h'.get? s.heap.objs.size=some (Fq #[.int i tk,x] 0)→(∀ b o,b≠it→b≠jt→s.heap.get? b=some o→h'.get? b=some o)→aq R s.heap ρ v x →
   Hl R A (.Tuple es k q) it Qi Qe E (some (.ref s.heap.objs.size)) { s with heap:=h',toks:=tk' }:=fun {v ys x h' tk tk'} ex a1 a2 a3 a4 r=>by
   refine wpAny_letOwnedTupleGo_enum (s:={ s with heap:=h',toks:=tk' }) a1 fun h2 b1 hs=>?_
   have k2:oe [it,jt] s.heap h2:=fun b o nb hb=>(hs.2 b fun q=>nb (q ▸ .head _)).trans (a4 b o (fun q=>nb (q ▸ .head _)) (fun q=>nb (q▸ms)) hb)
   exact kc (.tup [.int (i:Int),v]) (enumL (i+1) ys) _ h2 tk' (by rw [ex];rfl) k2 (.tup (xs:=[.int i tk,x]) ((hs.2 _ (Nat.ne_of_gt (Heap.lt_size he))).trans a3) (.cons (.int _ _) (.cons (r.mono (k2.tups hw) (.refl _)) .nil)))
    (.enum (i:=i+1) ne b1 (a2.keep (fun o ho=>(hs.2 jt ne.symm).trans ho) (.refl _)))
  induction I with
  | @bytes b t i jt hi I =>
   have D:=tC (R:=R) (A:=A.in1) hh jt b t
   cases hx:b[i]? with
   | some x=>exact wpAny_pyNext_enum_itemD D he I (List.getElem?_eq_some_iff.mp hx).1 ne (fun m=>ne (List.mem_singleton.mp m)) fun y h' tk hp a1 a2 a3 a4 a5=>hp.elim fun c w=>w.elim fun u w=>done (tk:=tk) (pT w.1) a1 (.bytes (List.getElem?_eq_some_iff.mp hx).1 a2) a3 a5 (w.2 ▸ .int _ _)
   | none =>
    have hi:=Nat.le_antisymm hi (List.getElem?_eq_none_iff.mp hx)
    subst hi
    exact wpAny_pyNext_enum_endD D he I fun h' hk=>ke h' (by rw [sS hx];rfl) (.ext hk ms)
  | @list j a i jt vs ea I =>
   refine (S.obj _ _ _ ea hl).list' fun us m ho r=>?_
   cases hx:vs[i]? with
   | some x=>exact (r.get hx).elim fun u w=>wpAny_pyNext_enum_item he I (aM ho) (vE w.1) ne fun h' a1 a2 a3 a4 a5=>done (kD hx) a1 (.list ea a2) a3 a5 w.2
   | none=>exact wpAny_pyNext_enum_end hh he I (aM ho) (tv r hx) fun h' hk=>ke h' (by rw [kX hx];rfl) (.ext hk ms)
 | @rng a c m it I =>
  cases m with
  | succ m=>exact wpAny_pyNext_range_item I (Int.natCast_pos.mpr (Nat.succ_pos m)) fun h' I' hs=>gw (s:={ s with heap:=h',toks:=_ }) P (.mk I' (by decide +kernel) rfl) (kc (.int a) (cT (a+c) c m) _ h' _ rfl (.of hs (.head _)) (.int _ _) (.rng (by rw [show ((m+1:Nat):Int) - 1=m from Int.add_sub_cancel m 1] at I';exact I')))
  | zero=>exact wpAny_pyNext_range_end hh I (Int.le_refl 0) fun h' hk=>ke h' rfl (.ext hk (.head _))
end
end
section
open PySem Builtin PySem.Calls PyProof.Rows PySem.W PySem.SeqAt Builtin.ObjectAttr
set_option maxHeartbeats 1000000
section
variable{prog:Program}{w:World}{A:Around}{E:Value→Shared→Prop}{s:Shared}
noncomputable abbrev mt(b:Array UInt8)(t:Tok):PySem.Obj:={ cls:=.type "bytes_iterator",data:=.fields #[.bytes b t,.int 0 0] }
noncomputable abbrev w0(it:Addr):PySem.Obj:={ cls:=.type "enumerate",data:=.fields #[.none,.bool false,.ref it,rawInt 0,.none,.none] }
theorem yM{α β:Type}{M:Model}{Q:α→Shared→Prop}{f:β→Sem α}{b:β}(h:∀ b,wpAny M A (f b) Q E s):wpAny M A (f b) Q E s:=h b
theorem gD(b:Array UInt8)(t:Tok) :
 Meets (Builtin.«enumerate.__new__» ⟨[.type "enumerate",.bytes b t],[]⟩) (fun _ R s=>R (.ok (.ret (.ref (s.heap.push (mt b t)).objs.size))) { s with heap:=(s.heap.push (mt b t)).push (w0 s.heap.objs.size) }) :=
 .of_wp fun prog w A R s h=>by
  obtain ⟨hp,g,d,tk,os⟩:=s
  have hsub:=PySem.sub_enumerate
  wp_walk
  refine wpAny_stack_any fun st=>wpAny_pure ?_
  refine yM fun short=>?_
  cases short
  · wp_walk using KBw.pyIter_bytes
    exact ⟨_,rfl,h⟩
  · wp_walk using KBw.pyIter_bytes
    exact ⟨_,rfl,h⟩
theorem gR{b:Array UInt8}{t:Tok}{Q:Value→Shared→Prop}
 (h:∀ h',IsEnum h' (s.heap.objs.size+1) s.heap.objs.size 0 .none→KBw.IsBytesIter h' s.heap.objs.size b t 0→(∀ b o,s.heap.get? b=some o→h'.get? b=some o)→Q (.ref (s.heap.objs.size+1)) { s with heap:=h' }) :
 wpAny (model prog w) A (call (.type "enumerate") [.bytes b t]) Q E s:=by
 refine callType_new PySem.F.called_enumerate (by decide) (PySem.F.typeCall_enumerate_1 _) (PySem.F.newCall_enumerate_1 _) (fun obj=>PySem.F.args_object_init_2 obj _) PySem.F.entry_enumerate_new (gD b t) ?_
 have hz:(s.heap.push (mt b t)).objs.size=s.heap.objs.size+1:=Heap.size_push ..
 show _∧_
 rw [hz]
 have he:=kt s.heap (o:=mt b t) (o':=w0 s.heap.objs.size) rfl
 exact ⟨⟨_,he,rfl⟩,h _ he ⟨_,Heap.get?_push_of_some _ (Heap.get?_push_size _ rfl),rfl,rfl⟩ fun b o y=>Heap.get?_push_of_some _ (Heap.get?_push_of_some _ y)⟩
end
end
section
open PySem Builtin PySem.Calls PyProof.Rows PySem.W PySem.SeqAt Builtin.ObjectAttr
inductive yY(h:Heap)(ρ:List Addr):Value→List Addr→Bool→bn→List V→Prop
 | bytes {b:ae} {t}:yY h ρ (.bytes b.toArray t) [] false (fun _=>True) (av b)
 | list {j:Nat} {a} {vs:List V} (e:ρ[j]? = some a):yY h ρ (.ref a) [] false (fun σ=>σ[j]? = some (.list vs)) vs
 | enum {e W live xs} (I:iR h ρ W true live xs e):yY h ρ (.ref e) W true live xs
 | rng {r b c t u v} {n:Nat} (hr:IsRange h r 0 b c t u v) (hn:Builtin.Range.rangeSize 0 b c=n) (hs:Builtin.Range.small 0 b c=true):yY h ρ (.ref r) [] false (fun _=>True) (cT 0 c n)
section
variable{R:Rt}{call:aw}{lx:bN}{d n:Nat}{l:List Env}{renv:Env}{env:au}{σ:List O}{X:ak}{ρ W:List Addr}{s:Shared}{A:Around}{Qr Er:Value→Shared→Prop}{live:bn}{xs:List V}{tup:Bool}
theorem qp{x:Value}(G:yY s.heap ρ x W tup live xs)(S:St R σ ρ s.heap)(hl:live σ)
 (k:∀ W' a h',Mine.Keeps s.heap h'→iR h' ρ W' tup live xs a→(∀ b∈W',b∈W∨s.heap.get? b=none)→Qr (.ref a) { s with heap:=h' }):wpAny R.M A (pyIter x) Qr Er s:=by
 have free:∀ {W:List Addr},∀ b∈[s.heap.objs.size],b∈W∨s.heap.get? b=none:=fun b m=>List.mem_singleton.mp m ▸ .inr (Heap.get?_none_of_le (Nat.le_refl _))
 induction G with
 | @bytes b t=>exact KBw.pyIter_bytes (k _ _ _ (Mine.Keeps.push _ _) (.src (.bytes (i:=0) (Nat.zero_le _) ⟨_,Heap.get?_push_size _ rfl,rfl,rfl⟩)) free)
 | @list j a vs e=>exact (S.obj _ _ _ e hl).list' fun us m ho r=>wpAny_pyIter_list (aM ho) (k _ _ _ (Mine.Keeps.push _ _) (.src (.list (i:=0) e ⟨_,Heap.get?_push_size _ rfl,rfl,rfl⟩)) free)
 | enum I=>cases I with
  | enum ne he I=>exact wpAny_pyIter_enum he (k _ _ s.heap (.refl _) (.enum ne he I) fun b m=>.inl m)
 | rng hr hn hs=>exact wpAny_pyIter_range hr hs (k _ _ _ (Mine.Keeps.push _ _) (.rng (by rw [← hn];exact Heap.get?_push_size _ rfl)) free)
section
variable{K:List V→bn→Prop}{vs:List V}{G:Prop}
theorem It.plain'(h:It σ K .plain vs)(k1:∀ b,vs=[.bytes b]→K (av b) (fun _=>True)→G)(k2:∀ i l,vs=[.ref i]→σ[i]? = some (.list l)→K l (fun σ'=>σ'[i]? = some (.list l))→G):G:=by
 cases h with
 | plainB _ h=>exact k1 _ rfl h
 | plainL e _ h=>exact k2 _ _ rfl e h
theorem It.enum'(h:It σ K .enum vs)(k1:∀ b,vs=[.bytes b]→K (Mine.enumL 0 (av b)) (fun _=>True)→G)(k2:∀ i l,vs=[.ref i]→σ[i]? = some (.list l)→K (Mine.enumL 0 l) (fun σ'=>σ'[i]? = some (.list l))→G):G:=by
 cases h with
 | enumB _ h=>exact k1 _ rfl h
 | enumL e _ h=>exact k2 _ _ rfl e h
theorem It.rng'(h:It σ K .rng vs)(k1:∀ n,vs=[.int n]→n≤1000000→-1000000≤n→K (cT 0 1 n.toNat) (fun _=>True)→G)(k2:∀ n,vs=[.int 0,.int n,.int 2]→0≤n→n≤1000000→K (cT 0 2 ((n.toNat+1) / 2)) (fun _=>True)→G):G:=by
 cases h with
 | rng e h1 h2 h=>exact k1 _ rfl h1 h2 (e▸h)
 | rng2 e h0 h1 h=>exact k2 _ rfl h0 h1 (e▸h)
end
theorem zL{i:Int}(h1:-1000002≤i)(h2:i≤1000002):Builtin.Range.rangeFitsLong i=true:=(Bool.and_eq_true _ _).mpr ⟨decide_eq_true (Int.le_trans (by decide) h1),decide_eq_true (Int.lt_of_le_of_lt h2 (by decide))⟩
theorem qg{n c:Int}{k:Nat}(e:Builtin.Range.rangeSize 0 n c=k)(hc:0 < c)(c2:c≤2)(h1:-1000000≤n)(h2:n≤1000000)(hk:(k:Int)≤1000000):Builtin.Range.small 0 n c=true:=by
 unfold Builtin.Range.small
 rw [e,if_pos hc,zL (i:=0) (by decide) (by decide),zL (Int.le_trans (by decide) h1) (Int.le_trans h2 (by decide)),zL (Int.le_trans (by decide) (Int.le_of_lt hc)) (Int.le_trans c2 (by decide)),zL (Int.le_trans (by decide) (Int.natCast_nonneg k)) (Int.le_trans hk (by decide)),
  zL (i:=n+(c - 1)) (Int.le_trans (by decide) (Int.add_le_add h1 (Int.sub_nonneg_of_le hc))) (Int.le_trans (Int.add_le_add h2 (Int.sub_le_sub_right c2 1)) (by decide)),Bool.or_true]
 rfl
theorem BP{n:Int}(h1:n≤1000000)(h2:-1000000≤n):Builtin.Range.rangeSize 0 n 1=n.toNat∧Builtin.Range.small 0 n 1=true:=by
 have e:Builtin.Range.rangeSize 0 n 1=n.toNat:=by
  cases n with
  | negSucc m=>rfl
  | ofNat m=>cases m with
   | zero=>rfl
   | succ k=>exact (if_pos (Int.natCast_pos.mpr (Nat.succ_pos k))).trans (congrArg (·+1) ((Int.ediv_one _).trans (Int.add_sub_cancel k 1)))
 refine ⟨e,qg e (by decide) (by decide) h2 h1 ?_⟩
 rw [Int.ofNat_toNat]
 exact Int.max_le.mpr ⟨h1,by decide⟩
theorem BL{n:Int}(h1:0≤n)(h2:n≤1000000):Builtin.Range.rangeSize 0 n 2=((n.toNat+1) / 2:Nat)∧Builtin.Range.small 0 n 2=true:=by
 cases n with
 | negSucc m=>exact absurd h1 (Int.not_le.mpr (Int.negSucc_lt_zero m))
 | ofNat m =>
  have e:Builtin.Range.rangeSize 0 (Int.ofNat m) 2=((m+1) / 2:Nat):=by
   cases m with
   | zero=>rfl
   | succ k=>exact (if_pos (Int.natCast_pos.mpr (Nat.succ_pos k))).trans ((congrArg (· / 2+1) (Int.add_sub_cancel (k:Int) 1)).trans (congrArg Int.ofNat (Nat.add_div_right k (by decide)).symm))
  have hm:=Int.ofNat_le.mp h2
  exact ⟨e,qg e (by decide) (by decide) (Int.le_trans (by decide) h1) h2 (Int.ofNat_le.mpr (Nat.div_le_of_le_mul (Nat.le_trans (Nat.succ_le_succ hm) (by decide))))⟩
inductive eJ(R:Rt)(call:aw)(lx:bN)(d n:Nat):oZ→List E→PySem.Expr→Prop
 | plain {e pe} (h:Ok R call lx d n e pe) (p:Pl pe):eJ R call lx d n .plain [e] pe
 | enum {x p cp es as} (hg:yB R lx x (.blt .enum)=true) (ha:jf R call lx d n es as):eJ R call lx d n .enum es (.Call (.Name x p) as [] cp)
 | rng {x p cp es as} (hg:yB R lx x (.blt .range)=true) (ha:jf R call lx d n es as):eJ R call lx d n .rng es (.Call (.Name x p) as [] cp)
theorem eJ.folded{k:oZ}{es:List E}{it:PySem.Expr}(i:eJ R call lx d n k es it)(x:Value):foldedSetIterable it renv x=pure x:=by
 induction i with
 | plain _ p=>exact p.fo renv x
 | enum=>rfl
 | rng=>rfl
noncomputable def KG(R:Rt)(ρ:List Addr)(s:Shared)(k:oZ)(K:List V→bn→List O→Prop)(Qr:Value→Shared→Prop):Prop :=
 ∀ W tup live xs x σ1 ρ1 s1,bV R ρ [] s σ1 ρ1 s1→yY s1.heap ρ1 x W tup live xs→live σ1→(tup=true→k = .enum)→(∀ a∈W,a∉ρ1∧s.heap.get? a=none)→K xs live σ1→Qr x s1
theorem qj{k:oZ}{es:List E}{it:PySem.Expr}{K:List V→bn→List O→Prop}(ok:aZ R)(i:eJ R call lx d n k es it)(hv:vcEs call es env σ (fun vs σ1=>It σ1 (fun items live=>K items live σ1) k vs) X)(H:br R d n A l)(I:bM R lx l renv env σ ρ s.heap)(kq:KG R ρ s k K Qr)(kx:KX R l ρ [] s X Er):aT R.M A (eval it renv) Qr Er s:=by
 have nil:∀ {ρ1:List Addr},∀ a∈([]:List Addr),a∉ρ1∧s.heap.get? a=none:=fun a m=>absurd m List.not_mem_nil
 cases i with
 | @plain e pe he hp =>
  refine he hv H I (fun v σ1 ρ1 ra s1 o1 r1 q1=>It.plain' (σ:=σ1) (vs:=[v]) q1 (fun b ev q=>?_) fun j l ev el q=>?_) kx
  · cases ev
    exact r1.bytes' fun t=>kq [] _ _ _ _ _ _ _ o1 .bytes trivial (fun z=>nomatch z) nil q
  · cases ev
    exact r1.ref' fun a ea=>kq [] _ _ _ _ _ _ _ o1 (.list ea) el (fun z=>nomatch z) nil q
 | @enum x p cp es as hg ha =>
  refine ah (t':=eval (.Name x p) renv >>= fun g=>callWith cp g [] (backTo cp (starEach as renv)) []) rfl (ab (am (jU ok hg I fun rv r=>r.blt' (n6 ha hv H I kx fun vs σ2 ρ2 rvs s2 o2 r2 q2=>⟨vX .enum,am ?_⟩))))
  have S:=o2.st
  have fr2:∀ {a},s2.heap.get? a=none→a∉ρ2∧s.heap.get? a=none:=fun ha=>⟨S.out ha,back o2.stp.live ha⟩
  have free:∀ a∈[s2.heap.objs.size+1,s2.heap.objs.size],a∉ρ2∧s.heap.get? a=none:=fun a m=>(List.mem_cons.mp m).elim (fun e=>e▸fr2 (Heap.get?_none_of_le (Nat.le_succ _))) fun m=>List.mem_singleton.mp m▸fr2 (Heap.get?_none_of_le (Nat.le_refl _))
  refine q2.enum' (fun b ev q=>?_) fun j l ev el q=>?_
  · subst ev
    exact r2.one' fun y r2=>r2.bytes' fun t=>gR fun h' he hb k=>kq _ _ _ _ _ _ _ _ (o2.trans (.keep S k _)) (.enum (.enum (i:=0) (Nat.succ_ne_self _) he (.bytes (Nat.zero_le _) hb))) trivial (fun _=>rfl) free q
  · subst ev
    exact r2.one' fun y r2=>r2.ref' fun a ea=>(S.obj _ _ _ ea el).list' fun us m ho r=>call_enumerate_list (aM ho) fun h' he hb _ k=>kq _ _ _ _ _ _ _ _ (o2.trans (.keep S k _)) (.enum (.enum (i:=0) (Nat.succ_ne_self _) he (.list ea hb))) el (fun _=>rfl) free q
 | @rng x p cp es as hg ha =>
  refine ah (t':=eval (.Name x p) renv >>= fun g=>callWith cp g [] (backTo cp (starEach as renv)) []) rfl (ab (am (jU ok hg I fun rv r=>r.blt' (n6 ha hv H I kx fun vs σ2 ρ2 rvs s2 o2 r2 q2=>⟨vX .range,am ?_⟩))))
  have S:=o2.st
  refine q2.rng' (fun m ev h1 h2 q=>?_) fun m ev h1 h2 q=>?_
  · subst ev
    have z:=BP h1 h2
    exact r2.one' fun y r2=>r2.int' fun t=>call_range_1 (kq [] _ _ _ _ _ _ _ (o2.trans (.keep S (Mine.Keeps.push _ _) _)) (.rng (Heap.get?_push_size _ rfl) z.1 z.2) trivial (fun z=>nomatch z) nil q)
  · subst ev
    have z:=BL h1 h2
    exact r2.cons' fun y r2 r3 r4=>r4.two' fun y2 y3 r5 r6=>r3.int' fun t=>r5.int' fun u=>r6.int' fun v=>call_range_3 (by decide) (kq [] _ _ _ _ _ _ _ (o2.trans (.keep S (Mine.Keeps.push _ _) _)) (.rng (Heap.get?_push_size _ rfl) z.1 z.2) trivial (fun z=>nomatch z) nil q) (.inl (PyProof.noPylong_small (by decide)))
end
section
variable{R:Rt}{call:aw}{lx:bN}{d n:Nat}{env env':au}{σ σ' σ0:List O}{ρ ρ' W own_:List Addr}{l outer:List Env}{renv:Env}{s s':Shared}{h h':Heap}{A:Around}{tup:Bool}{live:bn}{xs:List V}{it:Addr}
theorem bV.but{tk:Nat}(x:bV R ρ own_ s σ' ρ' s')(S0:St R σ0 ρ s.heap)(hd:∀ a∈W,a∉ρ'∧s.heap.get? a=none)(hw:NT s'.heap W)(k:oe W s'.heap h'):bV R ρ own_ s σ' ρ' { s' with heap:=h',toks:=tk } :=
 have nw:∀ {b o},s.heap.get? b=some o→b∉W:=fun e m=>aK (hd _ m).2 e
 ⟨x.st.but k hw fun a m=>⟨(hd a m).1,S0.out0 (hd a m).2⟩,⟨x.stp.pre,fun b o e n1 n2=>k b o (nw e) (x.stp.keep b o e n1 n2),fun b o e=>(x.stp.live b o e).elim fun o' e'=>⟨o',k b o' (nw e) e'⟩,x.stp.fresh,fun a xs n sl e=>(x.stp.tups a xs n sl e).elim fun sl' e'=>⟨sl',k a _ (nw e) e'⟩⟩,x.gens,x.drawn,x.os⟩
theorem bM.but(I:bM R lx l renv env σ ρ h)(k:oe W h h')(hw:NT h W)(hd:∀ a∈W,a∉ρ∧R.h₀.get? a=none)(ho:∀ a∈W,a∉own renv∧a∉sY l):bM R lx l renv env σ ρ h' :=
 I.step (I.st.but k hw hd) (fun r=>r.mono (k.tups hw) (.refl _)) (fun a m=>i3 fun o e=>k a o (fun z=>(ho a z).1 m) e) (bA (fun a m o hh hd=>⟨o,k a o (fun z=>(ho a z).2 m) hh,hd⟩) I.ff) (fun _ m=>.inl m) fun _ _ e=>e
theorem qi{ow:List Addr}{okn:Nat→Str→Bool}(sto:GU R lx l renv ow okn)(hh:A.handled=none){pt:Bool}{p:List Nat}{t:PySem.Expr}{v:V}{rv:Value}{Qr:Unit→Shared→Prop}{Er:Value→Shared→Prop}(P:y6 okn pt p t)(hs:aR pt p v env=some env')(I:bM R lx l renv env σ ρ s.heap)(hv:aq R s.heap ρ v rv)(k:KS R lx l renv ow env' σ ρ s Qr):wpAny R.M A (assign t renv rv) Qr Er s:=by
 induction P with
 | name h=>cases hs;exact wpAny_assign_Name (sto h I hv k)
 | @tup is es ns kd q hc =>
  cases v with
  | tup vs=>exact pY sto hh hc hs I hv k
  | _=>exact absurd (show (none:Option au)=some env' from hs) (Option.some_ne_none _).symm
structure Lp(R:Rt)(lx:bN)(l:List Env)(renv:Env)(ow:List Addr)(s0:Shared)(ρ0 W:List Addr)(tup:Bool)(live:bn)(it:Addr)(xs:List V)(env:au)(σ:List O)(ρ:List Addr)(s:Shared):Prop where
 o:bV R ρ0 ow s0 σ ρ s
 I:bM R lx l renv env σ ρ s.heap
 It:iR s.heap ρ W tup live xs it
 hd:∀ a∈W,a∉ρ∧s0.heap.get? a=none
theorem Lp.next{ow:List Addr}{okn:Nat→Str→Bool}{σ0:List O}{ρ0:List Addr}{s0:Shared}{pt:Bool}{p:List Nat}{t:PySem.Expr}{Qi:Value→Shared→Prop}{Qe:Shared→Prop}{E:Value→Shared→Prop}(Z:Lp R lx l renv ow s0 ρ0 W tup live it xs env σ ρ s)(hh:A.handled=none)(S0:St R σ0 ρ0 s0.heap)(hO:∀ a∈W,s0.heap.get? a=none→a∉own renv∧a∉sY l)(hl:live σ)(P:y6 okn pt p t)(ht:tup=true→pt=true)
 (kc:∀ v ys rv s',xs=v :: ys→aq R s'.heap ρ v rv→Lp R lx l renv ow s0 ρ0 W tup live it ys env σ ρ s'→oe W s.heap s'.heap→Qi rv s') (ke:∀ s',xs=[]→bV R ρ0 ow s0 σ ρ s'→bM R lx l renv env σ ρ s'.heap→oe W s.heap s'.heap→Qe s'):wpAny R.M A (pyNext (.ref it)) (Hl R A t it Qi Qe E) E s:=by
 have hW:∀ a∈W,a∉ρ∧R.h₀.get? a=none:=fun a m=>⟨(Z.hd a m).1,S0.out0 (Z.hd a m).2⟩
 have hI:∀ {h'},oe W s.heap h'→bM R lx l renv env σ ρ h':=fun k=>Z.I.but k Z.It.nt hW fun a m=>hO a m (Z.hd a m).2
 exact Cd hh Z.I.st Z.It hl P ht (fun v ys rv h' tk e k r It'=>kc v ys rv _ e r ⟨Z.o.but S0 Z.hd Z.It.nt k,hI k,It',Z.hd⟩ k) fun h' e k=>ke _ e (Z.o.but (tk:=s.toks) S0 Z.hd Z.It.nt k) (hI k) k
theorem Lp.step{ow:List Addr}{ρ0:List Addr}{s0:Shared}(Z:Lp R lx l renv ow s0 ρ0 W tup live it xs env σ ρ s)(ho:∀ a∈ow,∃ o,s0.heap.get? a=some o)(o:bV R ρ ow s σ' ρ' s')(I':bM R lx l renv env' σ' ρ' s'.heap):Lp R lx l renv ow s0 ρ0 W tup live it xs env' σ' ρ' s' :=
 ⟨Z.o.trans o,I',Z.It.keep (fun a m o1 e=>o.stp.keep a o1 e (Z.hd a m).1 fun z=>(ho a z).elim fun o e=>aK (Z.hd a m).2 e) o.stp.pre,fun a m=>⟨fun q=>(o.stp.fresh a q).elim (Z.hd a m).1 fun z=>(Z.It.nt a m).elim fun o w=>aK z w.1,(Z.hd a m).2⟩⟩
section
variable{Q:aF}{X:ak}{Qr:Flow→Shared→Prop}{Er:Value→Shared→Prop}
theorem Aw{σ0:List O}{env0:au}{ρ0:List Addr}{s0:Shared}{pt:Bool}{p:List Nat}{t:PySem.Expr}{body:List S}{x:List PySem.Stmt}(H:br R d n A (renv :: outer))(I0:bM R lx (renv :: outer) renv env0 σ0 ρ0 s0.heap)(hf:renv.frame=some renv.locals)(P:y6 (eL lx) pt p t)(ht:tup=true→pt=true)(hb:gA R call lx d n body x)
 (k:KF R lx (renv :: outer) renv ρ0 s0 Q Qr) (kx:DS R (renv :: outer) ρ0 (own renv) s0 renv.locals X Er):∀ {xs:List V} {env:au} {σ:List O} {ρ:List Addr} {s:Shared},lf (aR pt p) (vcSs call body) live Q X xs env σ→Lp R lx (renv :: outer) renv (own renv) s0 ρ0 W tup live it xs env σ ρ s→bO R.M A (.forLoop t (.ref it) x [] renv) (RF Qr Er) s:=by
 have hO:∀ a∈W,s0.heap.get? a=none→a∉own renv∧a∉sY (renv :: outer):=fun a _ ha=>⟨fun z=>(I0.sep _ z).2.2.elim fun o e=>aK ha e,fun z=>(I0.ff.mem z).2.elim fun o w=>aK ha w.1⟩
 have hw:∀ a∈own renv,∃ o,s0.heap.get? a=some o:=fun a m=>(I0.sep a m).2.2
 intro xs
 induction xs with
 | nil =>
  intro env σ ρ s hp Z
  refine aG rfl ?_
  rw [Around.under_of_weight rfl]
  refine vv (own_:=own renv) (tr:=forTurn t (.ref it) x [] renv) H.frames I0.fs hf (ao (ab (bh (am (wpAny_mono (Z.next (Qi:=fun _ _=>False) (Qe:=fun s2=>bV R ρ0 (own renv) s0 σ ρ s2∧bM R lx (renv :: outer) renv env σ ρ s2.heap) (E:=fun _ _=>False) H.handled I0.st hO hp.1 P ht (fun v ys rv s' e=>nomatch e) fun s' _ o I _=>⟨o,I⟩) (fun r s' z=>?_) fun _ _ z=>z.elim)))))
  cases r with
  | some rv=>exact ai (wpAny_mono z (fun _ _ f=>f.elim) fun _ _ f=>f.elim)
  | none =>
   refine af ⟨rfl,aG rfl ?_⟩
   rw [Around.under_of_weight rfl]
   refine ah (t':=((execs [] renv).onRaise fun x=>noteFrame x renv >>= fun _=>theTreesLotGoes x) >>= fun f=>pure (PySem.Fin.done f)) rfl ?_
   rw [arm_execs_nil]
   exact ab (bh (af (af (k _ _ _ _ _ _ z.1 z.2 .next hp.2))))
 | cons v xs ih =>
  intro env σ ρ s hp Z
  refine hp.2.elim fun env' hp'=>?_
  refine aG rfl ?_
  rw [Around.under_of_weight rfl]
  refine vv (own_:=own renv) (tr:=forTurn t (.ref it) x [] renv) H.frames I0.fs hf (ao (ab (bh (am (wpAny_mono (Z.next (Qi:=fun rv s2=>aq R s2.heap ρ v rv∧Lp R lx (renv :: outer) renv (own renv) s0 ρ0 W tup live it xs env σ ρ s2) (Qe:=fun _=>False) (E:=fun _ _=>False) H.handled I0.st hO hp.1 P ht (fun v' ys rv s' e r Z' _=>?_) fun s' e=>nomatch e) (fun r s' z=>?_) fun _ _ z=>z.elim)))))
  · cases e;exact ⟨r,Z'⟩
  cases r with
  | none=>exact z.elim
  | some rv =>
   refine ai (wpAny_mono z (fun _ s2 z=>ai (qi fx H.handled P hp'.1 z.2.I z.1 fun s3 o3 I3=>?_)) fun _ _ f=>f.elim)
   have Z3:=z.2.step hw o3 I3
   refine ab (hb hp'.2 H (.mk hf) I3 (fun fl env'' σ4 ρ4 f s4 o4 I4 r4 q4=>?_) (kx.fell.after Z3.o))
   have Z4:=Z3.step hw o4 I4
   induction r4 with
   | next=>exact af ⟨rfl,ih q4 Z4⟩
   | cont=>exact af ⟨rfl,ih q4 Z4⟩
   | brk=>exact af (k _ _ _ _ _ _ Z4.o I4 .next q4)
   | ret r=>exact af (k _ _ _ _ _ _ Z4.o I4 (.ret r) q4)
theorem G1(ok:aZ R){pt:Bool}{p:List Nat}{k:oZ}{es:List E}{it t:PySem.Expr}{b:List S}{x:List PySem.Stmt}{ps:Pos}(hi:eJ R call lx d n k es it)(P:y6 (eL lx) pt p t)(htup:k = .enum→pt=true)(hb:gA R call lx d n b x):eK R call lx d n (.forr pt p k es b) (.For t it x [] ps):=fun {env σ Q X A l renv ρ s Qr Er} h H F I kq kx=>by
 cases F with
 | @mk outer hf =>
 refine ah (arm_exec_For ..) (ao (ab (qj ok hi h H I (fun W tup live xs x0 σ1 ρ1 s1 o1 G hl hc hW hp=>cn (hi.folded x0) (ao (ay (am (qp G o1.st hl fun W' a h2 k It hW'=>?_))))) kx.thin)))
 have o2:=o1.trans (.keep o1.st k s1.toks)
 exact uO (own_:=own renv) (s:=s) H.handled I.fs hf (Aw H I hf P (fun z=>htup (hc z)) hb kq kx.flew hp ⟨o2.wide,o2.inv I,It,fun b m=>(hW' b m).elim (hW b) fun q=>⟨o1.st.out q,back o1.stp.live q⟩⟩)
end
end
noncomputable def ij:List Nat→au→au
 | [],env=>env
 | i :: is,env=>(ij is env).set i none
theorem Bx:∀ {p:List Nat} {env:au},(ij p env).length=env.length:=by
 intro p
 induction p with
 | nil=>exact fun {env}=>rfl
 | cons i is ih=>intro env;exact (List.length_set ..).trans ih
theorem iO{j:Nat}:∀ {p:List Nat} {env:au},j∉p→(ij p env)[j]? = env[j]?:=by
 intro p
 induction p with
 | nil=>exact fun {env} _=>rfl
 | cons i is ih=>intro env h;exact (List.getElem?_set_ne fun e=>h (List.mem_cons.mpr (.inl e.symm))).trans (ih fun m=>h (.tail _ m))
theorem jE{j:Nat}{w:V}:∀ {p:List Nat} {env:au},(ij p env)[j]? = some (some w)→j∉p:=by
 intro p
 induction p with
 | nil=>exact fun {env} _=>List.not_mem_nil
 | cons i is ih =>
  intro env h
  have h:((ij is env).set i none)[j]? = some (some w):=h
  by_cases q:i=j
  · subst q
    rw [List.getElem?_set_self (List.length_set (as:=ij is env)▸(List.getElem?_eq_some_iff.mp h).1)] at h
    cases h
  · exact fun m=>(List.mem_cons.mp m).elim (fun e=>q e.symm) (ih ((List.getElem?_set_ne q).symm.trans h))
theorem wG{j:Nat}:∀ {p:List Nat} {vs:List V} {env env':au},a9 p vs env=some env'→j∉p→env'[j]? = env[j]?:=by
 intro p
 induction p with
 | nil=>intro vs env env' h _;cases vs with
  | nil=>exact Option.some.inj h▸rfl
  | cons _ _=>cases h
 | cons i is ih=>intro vs env env' h hj;cases vs with
  | nil=>cases h
  | cons v vs=>exact (ih (env:=env.set i (some v)) h fun m=>hj (.tail _ m)).trans (List.getElem?_set_ne fun e=>hj (List.mem_cons.mpr (.inl e.symm)))
noncomputable def vF(p:List Nat)(env env0:au):Prop:=env.length=env0.length∧∀ (j:Nat) (w:V),env[j]? = some (some w)→j∈p∨env0[j]? = some (some w)
theorem vF.set{i:Nat}{p:List Nat}{v:V}{env env0:au}(h:vF (i :: p) env env0):vF p (env.set i (some v)) (env0.set i (some v)):=by
 refine ⟨by rw [List.length_set,List.length_set,h.1],fun j w e=>?_⟩
 by_cases q:i=j
 · subst q
   have z:=m7 e
   subst z
   exact .inr (List.getElem?_set_self (h.1▸List.length_set (as:=env)▸(List.getElem?_eq_some_iff.mp e).1))
 · exact (h.2 j w (kl q e)).elim (fun m=>(List.mem_cons.mp m).elim (fun e=>absurd e.symm q) .inl) fun z=>.inr ((List.getElem?_set_ne q).trans z)
theorem yL:∀ {p:List Nat} {vs:List V} {env env0 env':au},a9 p vs env=some env'→vF p env env0→∃ env0',a9 p vs env0=some env0'∧vF [] env' env0':=by
 intro p
 induction p with
 | nil=>intro vs env env0 env' h o;cases vs with
  | nil=>exact ⟨env0,rfl,Option.some.inj h▸o⟩
  | cons _ _=>cases h
 | cons i is ih=>intro vs env env0 env' h o;cases vs with
  | nil=>cases h
  | cons v vs=>exact ih (env:=env.set i (some v)) h o.set
theorem Ca{p:List Nat}{v:V}{env env':au}{G:Prop}(h:aR true p v env=some env')(k:∀ vs,v = .tup vs→a9 p vs env=some env'→G):G:=by
 cases v with
 | tup vs=>exact k vs rfl h
 | _=>exact absurd (show (none:Option au)=some env' from h) (Option.some_ne_none _).symm
theorem tJ{okn:Nat→Str→Bool}{pt:Bool}{p:List Nat}{t:PySem.Expr}{v:V}{env env':au}(P:y6 okn pt p t)(h:aR pt p v env=some env'):(∀ {j},j∉p→env'[j]? = env[j]?)∧∃ env0',aR pt p v (ij p env)=some env0'∧vF [] env' env0':=by
 have o:vF p env (ij p env):=⟨Bx.symm,fun j w e=>by
  by_cases m:j∈p
  · exact .inl m
  · exact .inr ((iO m).trans e)⟩
 induction P with
 | @name i x q hn=>cases h;exact ⟨fun hj=>List.getElem?_set_ne fun e=>hj (List.mem_cons.mpr (.inl e.symm)),_,rfl,o.set⟩
 | tup hc=>exact Ca h fun vs ev h=>by subst ev;exact ⟨wG h,yL h o⟩
section
variable{R:Rt}{call:aw}{lx:bN}{d n:Nat}{l:List Env}{renv:Env}{env:au}{X:ak}{A:Around}{Er:Value→Shared→Prop}
theorem bM.less{env':au}{σ:List O}{ρ:List Addr}{h:Heap}(I:bM R lx l renv env σ ρ h)(hw:∀ (j:Nat) (w:V),env'[j]? = some (some w)→env[j]? = some (some w)):bM R lx l renv env' σ ρ h :=
 I.step I.st (fun r=>r) (fun a m=>i3 fun o e=>e) I.ff (fun _ m=>.inl m) hw
noncomputable def D0(renv:Env)(c:PySem.Expr)(r:Bool):Sem (ForInStep Bool):=if r=true then isTrue c renv (eval c renv) >>= fun ok=>pure (.yield ok) else pure (.yield r)
theorem Ay(pes:List PySem.Expr):(forIn pes false (D0 renv):Sem Bool)=pure false:=by
 induction pes with
 | nil=>rfl
 | cons a l ih=>rw [List.forIn_cons];exact ih
theorem wf{Q:aX}{Qr:Bool→Shared→Prop}{es:List E}{pes:List PySem.Expr}(hs:jf R call lx d n es pes):∀ {σ:List O} {s:Shared} {ρ:List Addr},vcBt call true es env σ Q X→br R d n A l→bM R lx l renv env σ ρ s.heap→KB R ρ s Q Qr→KX R l ρ [] s X Er→aT R.M A (forIn pes true (D0 renv)) Qr Er s:=by
 induction hs with
 | nil=>exact fun h _ I k _=>af (k _ _ _ _ (.refl I.st) h)
 | @cons e pe es pes he r ih =>
  intro σ s ρ h H I k kx
  rw [List.forIn_cons]
  refine ab (mr rfl (ab (he.te (Q:=FL true (vcBt call true es) env Q X) h H I (fun b σ1 ρ1 s1 o1 q1=>af ?_) kx)))
  cases b with
  | true=>exact ih q1 H (o1.inv I) (k.after o1) (kx.after o1)
  | false=>exact ah (Ay pes) (af (k _ _ _ _ o1 q1))
end
inductive BD(R:Rt)(h:Heap)(ρ:List Addr)(D:Addr)(acc:List V):Prop
 | mk {xs m} (e:h.get? D=some (bb xs m)) (r:VRels R h ρ acc xs.toList):BD R h ρ D acc
structure Cl(R:Rt)(lx:bN)(l:List Env)(cenv:Env)(s0:Shared)(ρ0 W:List Addr)(tup:Bool)(live:bn)(it D:Addr)(xs acc:List V)(env:au)(σ:List O)(ρ:List Addr)(s:Shared):Prop where
 Z:Lp R lx l cenv [] s0 ρ0 W tup live it xs env σ ρ s
 A:BD R s.heap ρ D acc
 hD:D∉ρ∧s0.heap.get? D=none
 hC:cenv.locals∉ρ∧s0.heap.get? cenv.locals=none
section
variable{R:Rt}{call:aw}{lx:bN}{d n:Nat}{env env':au}{σ σ' σ0:List O}{ρ ρ' W ρ0:List Addr}{l:List Env}{cenv:Env}{s s' s0:Shared}{h h':Heap}{A:Around}{tup:Bool}{live:bn}{xs acc:List V}{it D:Addr}
theorem BD.keep(a:BD R h ρ D acc)(k:∀ o,h.get? D=some o→h'.get? D=some o)(ht:dO h h')(hp:yH ρ ρ'):BD R h' ρ' D acc:=by
 induction a with
 | mk e r=>exact .mk (k _ e) (r.mono ht hp)
theorem Cl.step{ow:List Addr}(c:Cl R lx l cenv s0 ρ0 W tup live it D xs acc env σ ρ s)(hw:∀ a∈ow,s0.heap.get? a=none∧a∉W∧a≠D)(o:bV R ρ ow s σ' ρ' s')(I':bM R lx l cenv env' σ' ρ' s'.heap):Cl R lx l cenv s0 ρ0 W tup live it D xs acc env' σ' ρ' s' :=
 ⟨⟨((c.Z.o.wide (own:=ow)).trans o).weaken fun a m=>.inr (hw a m).1,I',c.Z.It.keep (fun a m o1 e=>o.stp.keep a o1 e (c.Z.hd a m).1 fun z=>(hw a z).2.1 m) o.stp.pre,fun a m=>⟨fun q=>(o.stp.fresh a q).elim (c.Z.hd a m).1 fun z=>(c.Z.It.nt a m).elim fun o w=>aK z w.1,(c.Z.hd a m).2⟩⟩,
  c.A.keep (fun x e=>o.stp.keep D x e c.hD.1 fun z=>(hw D z).2.2 rfl) o.stp.tups o.stp.pre,⟨fun q=>(o.stp.fresh D q).elim c.hD.1 fun z=>by cases c.A with | mk e r=>exact aK z e,c.hD.2⟩,
  ⟨fun q=>(o.stp.fresh _ q).elim c.hC.1 fun z=>(c.Z.I.sep _ (.head _)).2.2.elim fun ob e=>aK z e,c.hC.2⟩⟩
end
section
variable{R:Rt}{call:aw}{lx:bN}{d n:Nat}{env env':au}{σ σ' σ0:List O}{ρ ρ' W ρ0:List Addr}{l:List Env}{cenv:Env}{s s' s0:Shared}{A:Around}{tup:Bool}{live:bn}{it D:Addr}
theorem oe.one{a:Addr}{h h':Heap}(hs:Heap.SameBut a h h'):oe [a] h h':=.of hs (.head _)
theorem yF{pt:Bool}{p:List Nat}{t itx el:PySem.Expr}{elt:E}{cs:List E}{ifs:List PySem.Expr}{sc:Scope}{pos:Pos}{Qc:aL}{Qr:Flow→Shared→Prop}{Er:Value→Shared→Prop}(H:br R d n A l)(S0:St R σ0 ρ0 s0.heap)(hfr:∀ a∈sY l,∃ o,s0.heap.get? a=some o)(hce:∀ a∈cenv.cells.map (·.2),∃ o,s0.heap.get? a=some o)
 (P:y6 (yW lx) pt p t) (ht:tup=true→pt=true) (he:Ok R call lx d n elt el) (hcs:jf R call lx d n cs ifs) (hDW:D∉W) (hCW:cenv.locals∉W) (hDC:D≠cenv.locals) (kq:∀ acc σ' ρ' s',bV R ρ0 [] s0 σ' ρ' s'→bM R lx l cenv (ij p env) σ' ρ' s'.heap→BD R s'.heap ρ' D acc→D∉ρ'∧s0.heap.get? D=none→cenv.locals∉ρ'∧s0.heap.get? cenv.locals=none→Qc acc σ'→Qr .next s') :
 ∀ {xs acc:List V} {σ:List O} {ρ:List Addr} {s:Shared},cF (aR pt p) (vcBt call true cs) (bW call elt) live env Qc xs acc σ→Cl R lx l cenv s0 ρ0 W tup live it D xs acc (ij p env) σ ρ s→bO R.M A (.compLoop (.ListComp el [⟨t,itx,ifs,0⟩] sc pos) 0 (.ref it) (.ref D) cenv) (RF Qr Er) s:=by
 have hO:∀ a∈W,s0.heap.get? a=none→a∉own cenv∧a∉sY l:=fun a m ha=>⟨fun z=>(List.mem_cons.mp z).elim (fun e=>hCW (e▸m)) fun z=>(hce a z).elim fun o e=>aK ha e,fun z=>(hfr a z).elim fun o e=>aK ha e⟩
 intro xs
 induction xs with
 | nil =>
  intro acc σ ρ s hp c
  refine aG rfl ?_
  rw [Around.under_of_weight rfl]
  refine ah (t':=(compTurn (.ListComp el [⟨t,itx,ifs,0⟩] sc pos) 0 (.ref it) (.ref D) cenv).onRaise fun x=>noteFrame x cenv >>= fun _=>theTreesLotGoes x) rfl (bh (bz (E:=fun _ _=>False) ?_ (fun _ _ x=>x) (fun _ _ x=>x.elim)))
  rw [compTurn_list]
  refine ao (ab (am (wpAny_mono (c.Z.next (Qi:=fun _ _=>False) (Qe:=fun s2=>bV R ρ0 [] s0 σ ρ s2∧bM R lx l cenv (ij p env) σ ρ s2.heap∧BD R s2.heap ρ D acc) (E:=fun _ _=>False) H.handled S0 hO hp.1 P ht (fun v ys rv s' e=>nomatch e) fun s' _ o I k=>?_) (fun r s' z=>?_) fun _ _ z=>z.elim)))
  · exact ⟨o,I,c.A.keep (k D · hDW) (k.tups c.Z.It.nt) (.refl _)⟩
  cases r with
  | some rv=>exact ai (wpAny_mono z (fun _ _ f=>f.elim) fun _ _ f=>f.elim)
  | none=>exact af (kq _ _ _ _ z.1 z.2.1 z.2.2 c.hD c.hC hp.2)
 | cons v xs ih =>
  intro acc σ ρ s hp c
  refine aG rfl ?_
  rw [Around.under_of_weight rfl]
  refine ah (t':=(compTurn (.ListComp el [⟨t,itx,ifs,0⟩] sc pos) 0 (.ref it) (.ref D) cenv).onRaise fun x=>noteFrame x cenv >>= fun _=>theTreesLotGoes x) rfl (bh (bz (E:=fun _ _=>False) ?_ (fun _ _ x=>x) (fun _ _ x=>x.elim)))
  rw [compTurn_list]
  refine hp.2.elim fun env' hp'=>(tJ P hp'.1).2.elim fun env0 w=>ao (ab (am (wpAny_mono (c.Z.next (Qi:=fun rv s2=>aq R s2.heap ρ v rv∧Cl R lx l cenv s0 ρ0 W tup live it D xs acc (ij p env) σ ρ s2) (Qe:=fun _=>False) (E:=fun _ _=>False) H.handled S0 hO hp.1 P ht (fun v' ys rv s' e r Z' k=>?_) fun s' e=>nomatch e) (fun r s' z=>?_) fun _ _ z=>z.elim)))
  · cases e
    exact ⟨r,Z',c.A.keep (k D · hDW) (k.tups c.Z.It.nt) (.refl _),c.hD,c.hC⟩
  cases r with
  | none=>exact z.elim
  | some rv =>
   refine ai (wpAny_mono z (fun _ s2 z=>ai (qi z5 H.handled P w.1 z.2.Z.I z.1 fun s3 o3 I3=>?_)) fun _ _ f=>f.elim)
   have no:∀ a∈([]:List Addr),s0.heap.get? a=none∧a∉W∧a≠D:=fun a m=>absurd m List.not_mem_nil
   have c3:=z.2.step (ow:=[cenv.locals]) (fun a m=>List.mem_singleton.mp m▸⟨c.hC.2,hCW,hDC.symm⟩) o3 (I3.less (env':=env') fun j u e=>(w.2.2 j u e).elim (fun m=>absurd m List.not_mem_nil) id)
   have more:∀ {acc' σ' ρ' s'},cF (aR pt p) (vcBt call true cs) (bW call elt) live env Qc xs acc' σ'→Cl R lx l cenv s0 ρ0 W tup live it D xs acc' env' σ' ρ' s'→bO R.M A (.compLoop (.ListComp el [⟨t,itx,ifs,0⟩] sc pos) 0 (.ref it) (.ref D) cenv) (RF Qr Er) s':=fun hp c' =>
    ih hp ⟨⟨c'.Z.o,c'.Z.I.less fun j w e=>((tJ P hp'.1).1 (jE e)).trans ((iO (jE e)).symm.trans e),c'.Z.It,c'.Z.hd⟩,c'.A,c'.hD,c'.hC⟩
   refine ab (wf (Q:=zN (bW call elt) env' acc (cF (aR pt p) (vcBt call true cs) (bW call elt) live env Qc xs)) hcs hp'.2 H c3.Z.I (fun b σ4 ρ4 s4 o4 q4=>?_) .none)
   have c4:=c3.step no o4 (o4.inv c3.Z.I)
   cases b with
   | false=>exact ab (af (af ⟨rfl,more q4 c4⟩))
   | true =>
    refine ab (mr (b:=pure ()) rfl (ab (he q4 H c4.Z.I (fun v5 σ5 ρ5 rv5 s5 o5 r5 q5=>?_) .none)))
    have c5:=c4.step no o5 (o5.inv c4.Z.I)
    induction c5.A with
    | @mk xa ma hxa rxa =>
     refine ai (wpAny_list_append_plain ⟨ma,hxa⟩ (fun h6 hpl hs6=>hpl.elim fun m6 h6D=>?_) (aU (sE rxa q5.1)))
     have k6:=oe.one hs6
     have nt:NT s5.heap [D]:=fun a m=>List.mem_singleton.mp m▸⟨_,hxa,xq (gP rfl)⟩
     have t6:=k6.tups nt
     have hDo:∀ a∈[D],a∉own cenv∧a∉sY l:=fun a m=>List.mem_singleton.mp m▸⟨fun z=>(List.mem_cons.mp z).elim hDC fun z=>(hce D z).elim fun o e=>aK c5.hD.2 e,fun z=>(hfr D z).elim fun o e=>aK c5.hD.2 e⟩
     have I6:=c5.Z.I.but k6 nt (fun a m=>List.mem_singleton.mp m▸⟨c5.hD.1,S0.out0 c5.hD.2⟩) hDo
     have A6:BD R h6 ρ5 D (acc++[v5]):=.mk h6D (by rw [Array.toList_push];exact (rxa.mono t6 (.refl _)).append (.cons (r5.mono t6 (.refl _)) .nil))
     exact af (af ⟨rfl,more q5.2 ⟨⟨c5.Z.o.but (tk:=s5.toks) S0 (fun b m=>List.mem_singleton.mp m▸c5.hD) nt k6,I6,c5.Z.It.keep (fun b m o e=>k6 b o (fun q=>hDW (List.mem_singleton.mp q▸m)) e) (.refl _),c5.Z.hd⟩,A6,c5.hD,c5.hC⟩⟩)
end
noncomputable def bi(lx:bN)(sc:Scope):List (Str×NameKind):=sc.names.map fun p=>if p.2 == .free&&lx.names.lookup p.1==some .cell then (p.1,.cell) else p
noncomputable def zA(lx:bN)(sc:Scope)(p:List Nat)(nm:List (Option Str)):Bool :=
 sc.kind == .function&&sc.names.all (fun q=>!(q.2 == .cell)&&(!(q.2 == .local)||sc.names.lookup q.1==some .local)&&(!(q.2 == .free)||lx.names.lookup q.1==some .cell&&lx.nm.contains (some q.1))) &&
 (List.range nm.length).all fun i=>Option.casesOn (motive:=fun _=>Bool) (nm[i]?.join) true fun y =>
  (p.contains i&&(bi lx sc).lookup y==some .local||lx.nm[i]?==some (some y)&&sc.names.lookup y==some .free&&(bi lx sc).lookup y==some .cell&&lx.names.lookup y==some .cell)&&(List.range nm.length).all fun j=>i==j||!(nm[j]?==some (some y))
structure Ew(lx:bN)(sc:Scope)(p:List Nat)(nm:List (Option Str)):Prop where
 kind:sc.kind = .function
 nocell:∀ q∈sc.names,q.2 ≠ .cell
 loc:∀ q∈sc.names,q.2 = .local→sc.names.lookup q.1=some .local
 free:∀ q∈sc.names,q.2 = .free→lx.names.lookup q.1=some .cell∧∃ i:Nat,lx.nm[i]? = some (some q.1)
 vars:∀ (i:Nat) (y:Str),nm[i]? = some (some y)→(i∈p∧(bi lx sc).lookup y=some .local)∨(lx.nm[i]? = some (some y)∧sc.names.lookup y=some .free∧(bi lx sc).lookup y=some .cell∧lx.names.lookup y=some .cell)
 dist:∀ (i j:Nat) (y:Str),nm[i]? = some (some y)→nm[j]? = some (some y)→i=j
theorem tV{lx:bN}{sc:Scope}{p:List Nat}{nm:List (Option Str)}(h:zA lx sc p nm=true):Ew lx sc p nm:=by
 have h:=(Bool.and_eq_true _ _).mp h
 have h1:=(Bool.and_eq_true _ _).mp h.1
 have hn:=List.all_eq_true.mp h1.2
 have at_:=fun q m=>have z:=(Bool.and_eq_true _ _).mp (hn q m);have z1:=(Bool.and_eq_true _ _).mp z.1;And.intro z1.1 (And.intro z1.2 z.2)
 have row:∀ (i:Nat) (y:Str),nm[i]? = some (some y)→_:=fun i y e=>by
  have z:=List.all_eq_true.mp h.2 i (List.mem_range.mpr (List.getElem?_eq_some_iff.mp e).1)
  rw [e] at z
  exact (Bool.and_eq_true _ _).mp z
 refine ⟨eq_of_beq h1.1,fun q m e=>?_,fun q m e=>?_,fun q m e=>?_,fun i y e=>?_,fun i j y e e'=>?_⟩
 · have z:=(at_ q m).1
   rw [e] at z;cases z
 · have z:=(at_ q m).2.1
   rw [e] at z;exact eq_of_beq z
 · have z:=(at_ q m).2.2
   rw [e] at z
   have z:=(Bool.and_eq_true _ _).mp z
   exact ⟨eq_of_beq z.1,List.mem_iff_getElem?.mp (List.contains_iff_mem.mp z.2)⟩
 · refine ((Bool.or_eq_true _ _).mp (row i y e).1).imp (fun z=>?_) fun z=>?_
   · have z:=(Bool.and_eq_true _ _).mp z
     exact ⟨List.contains_iff_mem.mp z.1,eq_of_beq z.2⟩
   · have z:=(Bool.and_eq_true _ _).mp z
     have z1:=(Bool.and_eq_true _ _).mp z.1
     have z2:=(Bool.and_eq_true _ _).mp z1.1
     exact ⟨eq_of_beq z2.1,eq_of_beq z2.2,eq_of_beq z1.2,eq_of_beq z.2⟩
 · refine ((Bool.or_eq_true _ _).mp (List.all_eq_true.mp (row i y e).2 j (List.mem_range.mpr (List.getElem?_eq_some_iff.mp e').1))).elim eq_of_beq fun z=>?_
   rw [e',beq_self_eq_true] at z;cases z
section
variable{R:Rt}{lx:bN}{env:au}{σ:List O}{ρ W:List Addr}{l:List Env}{renv cenv:Env}{s:Shared}{h h':Heap}{A:Around}{E:Value→Shared→Prop}{tup:Bool}{live:bn}{xs:List V}{it:Addr}
theorem xn{Q:Value→Shared→Prop}(I:iR s.heap ρ W tup live xs it)(q:Q (.ref it) s):wpAny R.M A (pyIter (.ref it)) Q E s:=by
 induction I with
 | src I=>induction I with
  | bytes _ I=>exact KBw.pyIter_self I q
  | list _ I=>exact wpAny_pyIter_listiter I q
 | enum _ he _=>exact wpAny_pyIter_enum he q
 | rng I=>exact wpAny_pyIter_rangeiter I q
noncomputable def xe(renv:Env)(x:Str×NameKind)(r:List (Str×Addr)):Sem (ForInStep (List (Str×Addr))):=if (x.2 == .free)=true then cellOf renv x.1 >>= fun a=>pure (.yield ((x.1,a) :: r)) else pure (.yield r)
theorem CN:∀ (names:List (Str×NameKind)) (acc:List (Str×Addr)),(∀ q∈names,q.2 = .free→∃ c,renv.cells.lookup q.1=some c)→(∀ y c,(y,c)∈acc→renv.cells.lookup y=some c) →
 ∃ cl,(forIn names acc (xe renv):Sem (List (Str×Addr)))=pure cl ∧
  (∀ y c,(y,c)∈cl→renv.cells.lookup y=some c)∧(∀ x∈acc,x∈cl)∧∀ q∈names,q.2 = .free→∃ c,(q.1,c)∈cl:=by
 intro names
 induction names with
 | nil=>exact fun acc _ ha=>⟨acc,rfl,ha,fun _ m=>m,fun _ m=>absurd m List.not_mem_nil⟩
 | cons q names ih =>
  obtain ⟨x,k⟩:=q
  intro acc hf ha
  rw [List.forIn_cons]
  by_cases hk:(k==NameKind.free)=true
  · refine (hf (x,k) (.head _) (eq_of_beq hk)).elim fun c hc=>(ih ((x,c) :: acc) (fun q m=>hf q (.tail _ m)) fun y c' m=>(List.mem_cons.mp m).elim (fun e=>by cases e;exact hc) (ha y c')).elim fun cl w=>⟨cl,?_,w.2.1,fun y m=>w.2.2.1 y (.tail _ m),fun q m hq=>(List.mem_cons.mp m).elim (fun e=>⟨c,e▸w.2.2.1 _ (.head _)⟩) fun m=>w.2.2.2 q m hq⟩
    have e:xe renv (x,k) acc=pure (.yield ((x,c) :: acc)):=(if_pos hk).trans (by rw [show cellOf renv x=pure c by unfold cellOf;rw [hc]];rfl)
    rw [e]
    exact w.1
  · refine (ih acc (fun q m=>hf q (.tail _ m)) ha).elim fun cl w=>⟨cl,?_,w.2.1,w.2.2.1,fun q m hq=>(List.mem_cons.mp m).elim (fun e=>absurd (by rw [e] at hq;exact beq_iff_eq.mpr hq) hk) fun m=>w.2.2.2 q m hq⟩
    rw [show xe renv (x,k) acc=pure (.yield acc) from if_neg hk]
    exact w.1
theorem sB{f:Str→Option Addr}{cl:List (Str×Addr)}{y:Str}{c:Addr}(h:∀ y c,(y,c)∈cl→f y=some c)(m:(y,c)∈cl):cl.lookup y=some c:=by
 cases e:cl.lookup y with
 | some c'=>rw [← h y c m,h y c' (a6 e)]
 | none=>exact absurd (beq_self_eq_true y) (by have:=List.lookup_eq_none_iff.mp e (y,c) m;rw [bne_iff_ne] at this;exact fun _=>this rfl)
theorem Ce{sc:Scope}(hf:∀ q∈sc.names,q.2 = .free→∃ c,renv.cells.lookup q.1=some c):∃ cl,closureFor sc renv=pure cl∧(∀ y c,(y,c)∈cl→renv.cells.lookup y=some c)∧∀ q∈sc.names,q.2 = .free→∃ c,cl.lookup q.1=some c :=
 (CN sc.names [] hf fun _ _ m=>absurd m List.not_mem_nil).elim fun cl w=>⟨cl,(show closureFor sc renv=(forIn sc.names [] (xe renv) >>= pure) from rfl).trans (by rw [w.1];rfl),w.2.1,fun q m hq=>(w.2.2.2 q m hq).elim fun c mc=>⟨c,sB w.2.1 mc⟩⟩
end
section
variable{R:Rt}{lx:bN}{env:au}{σ:List O}{ρ W:List Addr}{l:List Env}{renv cenv:Env}{s:Shared}{h h':Heap}{A:Around}{E:Value→Shared→Prop}{tup:Bool}{live:bn}{xs:List V}{it:Addr}
theorem pK{sc:Scope}(hk:renv.scope.kind = .function)(hn:renv.scope.names=lx.names):(relabel sc renv).names=bi lx sc:=by
 show sc.names.map _=sc.names.map _
 refine List.map_congr_left fun q _=>?_
 show (if (q.2==NameKind.free&&renv.scope.kind == .function&&renv.scope.names.lookup q.1==some .cell)=true then (q.1,NameKind.cell) else (q.1,q.2))=_
 rw [hk,hn,show (ScopeKind.function==ScopeKind.function)=true from rfl,Bool.and_true]
theorem Bv{sc:Scope}{p:List Nat}{nm:List (Option Str)}{cl:List (Str×Addr)}(I:bM R lx l renv env σ ρ h)(S:Ew lx sc p nm)(cl0:∀ y c,(y,c)∈cl→renv.cells.lookup y=some c)(cl2:∀ q∈sc.names,q.2 = .free→∃ c,cl.lookup q.1=some c)
 (e1:cenv.scope=relabel sc renv) (e2:cenv.globals=mainGlobals) (e3:cenv.builtins=builtinsNs) (e4:cenv.cells=cl) (hC:h.get? cenv.locals=none) (hns:h'.Ns cenv.locals fun _=>none) (keep:Mine.Keeps h h'):bM R ⟨bi lx sc,nm⟩ l cenv (ij p env) σ ρ h':=by
 have E:=I.env
 subst e4
 have cl1:∀ y c,cenv.cells.lookup y=some c→renv.cells.lookup y=some c:=fun y c e=>cl0 y c (a6 e)
 refine ⟨I.st.keepAll keep,⟨e1▸S.kind,e1▸pK E.kind E.names,e2,e3,⟨_,hns,fun i y hi=>?_⟩,fun x y c a b=>E.capart x y c (cl1 x c a) (cl1 y c b),fun x c a q=>(I.sep c (eQ (cl1 x c a))).2.2.elim fun o ho=>aK hC (q▸ho),S.dist⟩,fun a m=>?_,bA (fun a _ o ho hd=>⟨o,keep a o ho,hd⟩) I.ff,I.fsep⟩
 · refine (S.vars i y hi).elim (fun z=>.loc z.2 fun w e=>absurd z.1 (jE e)) fun z=>?_
   refine (cl2 (y,.free) (a6 z.2.1) rfl).elim fun c e=>E.vars.elim fun m w=>?_
   cases w.2 i y z.1 with
   | loc k=>rw [z.2.2.2] at k;cases k
   | no _ k=>exact absurd z.2.2.2 k
   | @cel k c' ov e' d v =>
    have ec:=Option.some.inj ((cl1 y c e).symm.trans e')
    subst ec
    exact .cel z.2.2.1 e (d.elim fun o w=>⟨o,keep _ _ w.1,w.2⟩) fun w hw=>(v w ((iO (jE hw)).symm.trans hw)).elim fun rv q=>⟨rv,q.1,q.2.mono keep.tups (.refl _)⟩
 · refine (List.mem_cons.mp m).elim (fun e=>?_) fun m=>(List.mem_map.mp m).elim fun p w=>have z:=I.sep a (w.2▸eQ (cl0 p.1 p.2 w.1));⟨z.1,z.2.1,z.2.2.elim fun o w=>⟨o,keep _ _ w⟩⟩
   subst e
   exact ⟨I.st.out hC,I.st.out0 hC,(fT hns).1.elim fun o w=>⟨o,w.1⟩⟩
theorem pw{el t itx:PySem.Expr}{ifs:List PySem.Expr}{sc:Scope}{pos:Pos}{acc:Value}{Q:PySem.Fin→Shared→Prop}(I:iR s.heap ρ W tup live xs it)
 (q:Q (.again (.compLoop (.ListComp el [⟨t,itx,ifs,0⟩] sc pos) 0 (.ref it) acc cenv)) s):wpAny R.M A (compStart (.ListComp el [⟨t,itx,ifs,0⟩] sc pos) 0 (.ref it) acc cenv) Q E s:=by
 unfold compStart
 show wpAny _ _ (ask >>= _) _ _ s
 refine wpAny_bind (wpAny_askSetting (wpAny_ite ?_))
 split
 · first
    | exact wpAny_bind (wpAny_pure (wpAny_pure q))
    | exact wpAny_pure q
 · first
    | exact wpAny_bind (wpAny_rule (wpAny_bind (wpAny_standAt (wpAny_bind (xn I (wpAny_pure q))))))
    | (refine wpAny_bind (wpAny_rule ?_);show wpAny _ _ (standAt itx.pos >>= _) _ _ s;exact wpAny_bind (wpAny_standAt (wpAny_bind (xn I (wpAny_pure q)))))
theorem St.join{σ:List O}{a:Addr}{o:O}(S:St R σ ρ h)(hm:a∉ρ)(h0:R.h₀.get? a=none)(ho:bR R h (ρ++[a]) a o):St R (σ++[o]) (ρ++[a]) h:=by
 refine ⟨?_,?_,S.base,fun b m=>(List.mem_append.mp m).elim (S.old b) fun m=>List.mem_singleton.mp m▸h0,fun i b x e1 e2=>?_⟩
 · rw [List.length_append,List.length_append,S.len];rfl
 · exact List.nodup_append.mpr ⟨S.nodup,by simp,fun x hx y hy q=>hm (List.mem_singleton.mp hy▸q▸hx)⟩
 · by_cases hi:i < ρ.length
   · rw [List.getElem?_append_left hi] at e1
     rw [List.getElem?_append_left (S.len▸hi)] at e2
     exact (S.obj i b x e1 e2).mono rfl (.refl _) (dF a)
   · have hl:=(List.getElem?_eq_some_iff.mp e1).1
     rw [List.length_append] at hl
     have:i=ρ.length:=Nat.le_antisymm (Nat.le_of_lt_succ hl) (Nat.le_of_not_lt hi)
     subst this
     rw [List.getElem?_concat_length] at e1
     rw [S.len,List.getElem?_concat_length] at e2
     cases e1;cases e2;exact ho
theorem bV.adoptO{D:Addr}{ob:O}{σ0 σ':List O}{ρ':List Addr}{s':Shared}(o:bV R ρ [] s σ' ρ' s')(S0:St R σ0 ρ s.heap)(a:bR R s'.heap (ρ'++[D]) D ob)(hd:D∉ρ'∧s.heap.get? D=none):bV R ρ [] s (σ'++[ob]) (ρ'++[D]) s'∧aq R s'.heap (ρ'++[D]) (.ref σ'.length) (.ref D) :=
 ⟨⟨o.st.join hd.1 (S0.out0 hd.2) a,⟨fun i b e=>dF _ _ _ (o.stp.pre i b e),o.stp.keep,o.stp.live,fun b mb=>(List.mem_append.mp mb).elim (o.stp.fresh b) fun mb=>.inr (List.mem_singleton.mp mb▸hd.2),o.stp.tups⟩,o.gens,o.drawn,o.os⟩,.ref (o.st.len▸List.getElem?_concat_length)⟩
theorem bV.adopt{D:Addr}{acc:List V}{σ0 σ':List O}{ρ':List Addr}{s':Shared}(o:bV R ρ [] s σ' ρ' s')(S0:St R σ0 ρ s.heap)(a:BD R s'.heap ρ' D acc)(hd:D∉ρ'∧s.heap.get? D=none):bV R ρ [] s (σ'++[.list acc]) (ρ'++[D]) s'∧aq R s'.heap (ρ'++[D]) (.ref σ'.length) (.ref D):=by
 induction a with
 | mk e r=>exact o.adoptO S0 (.list e (r.mono (.refl _) (dF _))) hd
end
structure rQ(R:Rt)(call:aw)(lx:bN)(d n:Nat)(nm:List (Option Str))(elt:E)(pt:Bool)(p:List Nat)(k:oZ)(es cs:List E)(el t it:PySem.Expr)(ifs:List PySem.Expr)(sc:Scope):Prop where
 hi:eJ R call lx d n k es it
 hs:Ew lx sc p nm
 P:y6 (yW ⟨bi lx sc,nm⟩) pt p t
 htup:k = .enum→pt=true
 he:Ok R call ⟨bi lx sc,nm⟩ d n elt el
 hcs:jf R call ⟨bi lx sc,nm⟩ d n cs ifs
inductive Ai(R:Rt)(lx:bN)(l:List Env)(cenv:Env)(s:Shared)(ρ:List Addr)(env':au)(D:Addr)(Qc:aL):Flow→Shared→Prop
 | mk {acc σ' ρ' s'} (o:bV R ρ [] s σ' ρ' s') (I:bM R lx l cenv env' σ' ρ' s'.heap) (A:BD R s'.heap ρ' D acc) (hD:D∉ρ'∧s.heap.get? D=none) (hC:cenv.locals∉ρ'∧s.heap.get? cenv.locals=none) (q:Qc acc σ'):Ai R lx l cenv s ρ env' D Qc .next s'
section
variable{R:Rt}{call:aw}{lx:bN}{d n:Nat}{env:au}{σ:List O}{ρ W:List Addr}{l:List Env}{renv:Env}{s:Shared}{A:Around}{Q:ag}{X:ak}{nm:List (Option Str)}{elt:E}{pt:Bool}{p:List Nat}{k:oZ}{es cs:List E}{el t it:PySem.Expr}{ifs:List PySem.Expr}{sc:Scope}
theorem uP(ok:aZ R){pos fpos:Pos}{use:Option (Value→Sem Unit)}{Qr Er:Value→Shared→Prop}(c:rQ R call lx d n nm elt pt p k es cs el t it ifs sc)(hv:bW call (.comp elt pt p k es cs) env σ Q X)(H:br R d n A l)(I:bM R lx l renv env σ ρ s.heap)
 (kq:∀ v rv σ' ρ' s',bV R ρ [] s σ' ρ' s'→aq R s'.heap ρ' v rv→Q v σ'→Option.casesOn (motive:=fun _=>Prop) use (Qr rv s') fun u=>∀ C,(∃ m,s'.heap.Ns C m)→C∉ρ'→s.heap.get? C=none→aT R.M A (u rv) (fun _ s''=>(∃ m,s''.heap.Ns C m)∧∀ h',Heap.SameBut C s''.heap h'→Qr .none { s'' with heap:=h' }) Er s')
 (kx:KX R l ρ [] s X Er):aT R.M A (comprehension (.ListComp el [⟨t,it,ifs,0⟩] sc pos) sc renv fpos (newList []) false (eval it renv) use) Qr Er s:=by
 refine (Ce (renv:=renv) (sc:=sc) fun q m e=>(c.hs.free q m e).2.elim fun i b=>I.env.vars.elim fun mm w=>?_).elim fun cl hcl=>?_
 · have z:=(c.hs.free q m e).1
   cases w.2 i q.1 b with
   | loc k=>rw [z] at k;cases k
   | no _ k=>exact absurd z k
   | cel k e=>exact ⟨_,e⟩
 unfold comprehension
 rw [hcl.1]
 refine ab (qj ok c.hi hv H I (fun W tup live xs x0 σ1 ρ1 s1 o1 G hl hc hW hp=>ao ?_) kx)
 refine cn (c.hi.folded x0) ?_
 have S1:=o1.st
 have fresh1:∀ {a},s1.heap.get? a=none→a∉ρ1∧s.heap.get? a=none:=fun ha=>⟨S1.out ha,back o1.stp.live ha⟩
 refine ay (cH rfl (am (qp G S1 hl fun W' a h2 k2' It hW'=>?_)))
 have hdW:∀ b∈W',b∉ρ1∧s.heap.get? b=none:=fun b m=>(hW' b m).elim (hW b) fresh1
 have stand:∀ {α:Type} {m:Sem α} {Qm:α→Shared→Prop} {s2:Shared},aT R.M A m Qm Er s2→aT R.M A (if use.isSome=true then (standAt pos >>= fun _=>m) else m) Qm Er s2:=fun {α m Qm s2} q=>by
  cases use with
  | none=>exact cH rfl q
  | some u=>exact mr rfl (ao q)
 refine stand (ai (wpAny_newObj_type (b9 ?_)))
 refine ai (wpAny_newFunctionEnv c.hs.nocell (fun x m=>absurd m List.not_mem_nil) (fun h3 hns hsb=>?_) c.hs.kind)
 have hCn:(h2.push { cls:=.type "list",data:=.seq ([]:List Value).toArray }).objs.size=h2.objs.size+1:=Heap.size_push ..
 generalize hC:(h2.push { cls:=.type "list",data:=.seq ([]:List Value).toArray }).objs.size=C at hns hsb hCn ⊢
 have hD2:h2.get? h2.objs.size=none:=Heap.get?_none_of_le (Nat.le_refl _)
 have hC2:h2.get? C=none:=Heap.get?_none_of_le (hCn▸Nat.le_succ _)
 have hDC:h2.objs.size≠C:=hCn▸Nat.ne_of_lt (Nat.lt_succ_self _)
 have keep:Mine.Keeps h2 h3:=fun b o e=>hsb.extBut b o (fun q=>aK hC2 (q▸e)) (Heap.get?_push_of_some _ (Heap.get?_push_of_some _ e))
 have hDat:h3.get? h2.objs.size=some (bb #[] 0):=hsb.extBut _ _ hDC (Heap.get?_push_of_some _ (Heap.get?_push_size _ rfl))
 have fr2:∀ {a},h2.get? a=none→a∉ρ1∧s.heap.get? a=none:=fun ha=>fresh1 (k2'.back ha)
 have nmem:∀ {a},h2.get? a=none→a∉W':=fun ha m=>(It.nt _ m).elim fun o w=>aK ha w.1
 have I2:bM R lx l renv env σ1 ρ1 h2:=(o1.inv I).next (S1.keepAll k2') k2'.stp
 have I3:bM R ⟨bi lx sc,nm⟩ l (compEnvC sc cl C renv) (ij p env) σ1 ρ1 h3:=Bv I2 c.hs hcl.2.1 hcl.2.2 rfl I.env.glob I.env.blt rfl hC2 hns keep
 have o3:bV R ρ [] s σ1 ρ1 { s1 with heap:=h3,toks:=s1.toks+([]:List (Str×Value)).length }:=o1.trans ⟨I3.st,(k2'.trans keep).stp,rfl,rfl,rfl⟩
 refine aO (ab (lz (aO (wW ((p8 H.handled).symm▸?_) (by intro x;cases x)))))
 have hcell:∀ b∈(compEnvC sc cl C renv).cells.map (·.2),∃ o,s.heap.get? b=some o:=fun b m=>(List.mem_map.mp m).elim fun q w=>w.2▸(I.sep _ (eQ (hcl.2.1 q.1 q.2 w.1))).2.2
 refine dS (R:=RF (Ai R ⟨bi lx sc,nm⟩ l (compEnvC sc cl C renv) s ρ (ij p env) h2.objs.size (wU Q)) fun _ _=>False) (c:=.compStart (.ListComp el [⟨t,it,ifs,0⟩] sc pos) 0 (.ref a) (.ref h2.objs.size) (compEnvC sc cl C renv)) (aG rfl ?_) fun r s' z=>?_
 · rw [Around.under_of_weight rfl]
   refine ah (t':=(compStart (.ListComp el [⟨t,it,ifs,0⟩] sc pos) 0 (.ref a) (.ref h2.objs.size) (compEnvC sc cl C renv)).onRaise fun x=>noteFrame x (compEnvC sc cl C renv) >>= fun _=>standAt theWindowsPlace) rfl (bh (am (pw (It.keep (fun b m o e=>keep b o e) (.refl _)) ⟨rfl,?_⟩)))
   exact yF (W:=W') (ρ0:=ρ) (s0:=s) H I.st (fun b m=>(I.ff.mem m).2.elim fun o w=>⟨o,w.1⟩) hcell c.P (fun z=>c.htup (hc z)) c.he c.hcs (nmem hD2) (nmem hC2) hDC (fun acc σ4 ρ4 s4 o4 I4 A4 h1 h2 q=>.mk o4 I4 A4 h1 h2 q) hp
    ⟨⟨o3,I3,It.keep (fun b m o e=>keep b o e) (.refl _),hdW⟩,.mk hDat .nil,fr2 hD2,fr2 hC2⟩
 have kinds:∀ x∈(sc.names.filter fun x=>(x.2 == .local||x.2 == .cell)&&x.1 != (".0" : Str)),x.2 = .local→Env.kindOf (compEnvC sc cl C renv) x.1=some .local:=fun x hx hl=>lookup_relabel_local (c.hs.loc x (List.mem_filter.mp hx).1 hl)
 cases r with
 | error e=>exact z.elim
 | ok f =>
 have z:Ai R ⟨bi lx sc,nm⟩ l (compEnvC sc cl C renv) s ρ (ij p env) h2.objs.size (wU Q) f s':=z
 induction z with
 | @mk acc σ4 ρ4 s4 o4 I4 A4 hD4 hC4 q4 =>
 have w:=o4.adopt I.st A4 hD4
 have hCD:C∉ρ4++[h2.objs.size]:=fun m=>(List.mem_append.mp m).elim hC4.1 fun m=>hDC (List.mem_singleton.mp m).symm
 refine I4.env.vars.elim fun m4 hm=>?_
 have hm4:s4.heap.Ns C m4:=hm.1
 have nt:∀ {hh:Heap} {mm:Str→Option Value},hh.Ns C mm→NT hh [C]:=fun hn b mb=>List.mem_singleton.mp mb▸hn.elim fun o w=>w.elim fun es w=>w.elim fun ep w=>⟨o,w.1,fun xs n sl e=>Data.noConfusion ((congrArg Obj.data e).symm.trans w.2.1)⟩
 cases use with
 | none =>
  refine ab (aO (am (wpAny_comp_letGo (cenv:=compEnvC sc cl C renv) c.hs.kind _ s4 m4 (fun x hx=>kinds x (List.mem_reverse.mp hx)) hm4 fun h' m' _ hs'=>af ?_)))
  exact kq _ _ _ _ _ (w.1.but (tk:=s4.toks) I.st (fun b mb=>List.mem_singleton.mp mb▸⟨hCD,hC4.2⟩) (nt hm4) (oe.one hs')) (w.2.mono ((oe.one hs').tups (nt hm4)) (.refl _)) q4
 | some u =>
  refine ai (wpAny_rule (ab (aO (bz (kq _ _ _ _ _ w.1 w.2 q4 C ⟨m4,hm4⟩ hCD hC4.2) (fun _ s5 h5=>h5.1.elim fun m5 hm5=>?_) fun _ _ x=>x))))
  refine ab (am (wpAny_comp_letGo (cenv:=compEnvC sc cl C renv) c.hs.kind _ s5 m5 (fun x hx=>?_) hm5 fun h' m' _ hs'=>af (h5.2 h' hs')))
  exact (List.mem_append.mp hx).elim (fun h1=>kinds x (List.mem_reverse.mp (List.mem_of_mem_drop h1))) fun h1=>kinds x (List.mem_reverse.mp (List.mem_of_mem_take h1))
end
section
variable{R:Rt}{call:aw}{lx:bN}{d n:Nat}{nm:List (Option Str)}{elt:E}{pt:Bool}{p:List Nat}{k:oZ}{es cs:List E}{el t it:PySem.Expr}{ifs:List PySem.Expr}{sc:Scope}{pos:Pos}
theorem Ax(ok:aZ R)(c:rQ R call lx d n nm elt pt p k es cs el t it ifs sc):Ok R call lx d n (.comp elt pt p k es cs) (.ListComp el [⟨t,it,ifs,0⟩] sc pos):=fun {env σ Q X A l renv ρ s Qr Er} h H I kq kx =>
 (uP (fpos:=firstIterPos [⟨t,it,ifs,0⟩] pos) ok c h H I (fun v rv σ' ρ' s' o r q=>kq _ _ _ _ _ o r q) kx:aT R.M A (comprehension (.ListComp el [⟨t,it,ifs,0⟩] sc pos) sc renv _ (newList []) false (eval it renv) none) Qr Er s)
theorem Fb(ok:aZ R){i:Nat}{x:Str}{q p':Pos}(hc:eL lx i x=true)(c:rQ R call lx d n nm elt pt p k es cs el t it ifs sc):eK R call lx d n (.asg i (.comp elt pt p k es cs)) (.Assign [.Name x q] (.ListComp el [⟨t,it,ifs,0⟩] sc pos) p'):=fun {env σ Q X A l renv ρ s Qr Er} h H F I kq kx=>by
 have hb:∃ b,swapsWithSole [.Name x q] (.ListComp el [⟨t,it,ifs,0⟩] sc pos) p'.line renv=pure b:=⟨_,rfl⟩
 refine hb.elim fun b hb=>ah (arm_exec_Assign ..) (ao (cn hb ?_))
 cases b with
 | false =>
  exact cH rfl (ab (Ax ok c h H I (fun w σ1 ρ1 ra s1 o1 r1 q1=>cn (m:=swappedStores [.Name x q] (.ListComp el [⟨t,it,ifs,0⟩] sc pos) renv) (a:=none) rfl (ah (t':=assign (.Name x q) renv ra >>= fun _=>pure .next) rfl (ab (am (wpAny_assign_Name (fx hc (o1.inv I) r1 fun s' o I'=>af ((kq.after o1.wide) _ _ _ _ _ _ o I' .next q1))))))) kx.thin))
 | true =>
  refine mr rfl (ab (ah (t':=comprehension (.ListComp el [⟨t,it,ifs,0⟩] sc pos) sc renv (firstIterPos [⟨t,it,ifs,0⟩] pos) (newList []) false (eval it renv) (some fun v=>assignAll v [assign (.Name x q) renv]) >>= fun _=>pure ()) rfl (ab (bz (Q:=fun _ s'=>Qr .next s') (E:=Er) ?_ (fun _ _ z=>af (af z)) fun _ _ z=>z))))
  refine uP ok c h H I (use:=some fun v=>assignAll v [assign (.Name x q) renv]) (Qr:=fun _ s'=>Qr .next s') (fun v rv σ' ρ' s1 o1 r1 q1 C hm hCr hC0=>hm.elim fun m hm=>?_) kx.thin
  have nC:C∉own renv∧C∉sY l:=⟨fun z=>(I.sep _ z).2.2.elim fun o e=>aK hC0 e,fun z=>(I.ff.mem z).2.elim fun o w=>aK hC0 w.1⟩
  refine am (wpAny_assign_Name (fx hc (o1.inv I) r1 fun s2 o2 I2=>?_))
  have hm2:s2.heap.Ns C m:=hm.elim fun o w=>w.elim fun es w=>w.elim fun ep w=>⟨o,es,ep,o2.stp.keep C o w.1 hCr nC.1,w.2⟩
  have nt:NT s2.heap [C]:=fun b mb=>List.mem_singleton.mp mb▸hm2.elim fun o w=>w.elim fun es w=>w.elim fun ep w=>⟨o,w.1,fun xs n sl e=>Data.noConfusion ((congrArg Obj.data e).symm.trans w.2.1)⟩
  refine ⟨⟨m,hm2⟩,fun h' hs'=>?_⟩
  have k3:=oe.one hs'
  exact kq _ _ _ _ _ _ ((o1.wide.trans o2).but (tk:=s2.toks) I.st (fun b mb=>List.mem_singleton.mp mb▸⟨hCr,hC0⟩) nt k3) (I2.but k3 nt (fun b mb=>List.mem_singleton.mp mb▸⟨hCr,I.st.out0 hC0⟩) fun b mb=>List.mem_singleton.mp mb▸nC) .next q1
end
section
variable{R:Rt}{call:aw}{lx:bN}{d n:Nat}{env:au}{l:List Env}{renv:Env}{A:Around}{X:ak}{h:Heap}{ρ:List Addr}
inductive sG(R:Rt)(call:aw)(lx:bN)(d n:Nat):List V→List E→List (Option PySem.Expr)→List PySem.Expr→Prop
 | nil:sG R call lx d n [] [] [] []
 | cons {v c k p e pe ks es keys pes} (hc:AV R v c=true) (h:Ok R call lx d n e pe) (r:sG R call lx d n ks es keys pes):sG R call lx d n (v :: ks) (e :: es) (some (.Constant c k p) :: keys) (pe :: pes)
inductive yo(R:Rt)(h:Heap)(ρ:List Addr):List V→List V→List (Value×Value)→Prop
 | nil:yo R h ρ [] [] []
 | cons {k v rk rv ks vs ps} (hk:aq R h ρ k rk) (hv:aq R h ρ v rv) (r:yo R h ρ ks vs ps):yo R h ρ (k :: ks) (v :: vs) ((rk,rv) :: ps)
noncomputable def Iw(R:Rt)(call:aw)(lx:bN)(d n:Nat)(A:Around)(X:ak)(env:au)(l:List Env)(renv:Env)(ks:List V)(es:List E)(z:Nat)(prs:List (Sem Value×Sem Value)):Prop :=
 ∀ {σ:List O} {Q:aL} {s:Shared} {ρ:List Addr} {Qr:List (Value×Value)→Shared→Prop} {Er:Value→Shared→Prop},vcEs call es env σ Q X→br R d n A l→bM R lx l renv env σ ρ s.heap →
  (∀ vs σ' ρ' ps s',bV R ρ [] s σ' ρ' s'→yo R s'.heap ρ' ks vs ps→Q vs σ'→ps.length=z→Qr ps s')→KX R l ρ [] s X Er→aT R.M A (evalPairs prs) Qr Er s
theorem u8{p:Pos}{ks:List V}{es:List E}{keys:List (Option PySem.Expr)}{pes:List PySem.Expr}(h:sG R call lx d n ks es keys pes):∃ prs:List (Sem Value×Sem Value),
 ((evalEachOpt keys renv).zip ((evalEach pes renv).map fun v=>do let x ← v;standAt p;pure x)=prs.map fun p=>(some p.1,p.2))∧prs.length=pes.length∧Iw R call lx d n A X env l renv ks es pes.length prs:=by
 induction h with
 | nil=>exact ⟨[],rfl,rfl,fun h _ I k _=>af (k _ _ _ _ _ (.refl I.st) .nil h rfl)⟩
 | @cons v c kd p' e pe ks es keys pes hc he r ih =>
  refine ih.elim fun prs w=>⟨(eval (.Constant c kd p') renv,eval pe renv >>= fun x=>standAt p >>= fun _=>pure x) :: prs,congrArg ((some (eval (.Constant c kd p') renv),eval pe renv >>= fun x=>standAt p >>= fun _=>pure x) :: ·) w.1,congrArg (·+1) w.2.1,?_⟩
  intro σ Q s ρ Qr Er h H I k kx
  refine ab (wP (call:=call) hc (X:=X) (Q:=fun v' σ'=>v'=v∧bW call e env σ' (fun a σ2=>vcEs call es env σ2 (fun vs=>Q (a :: vs)) X) X) ⟨rfl,h⟩ H I (fun v' σ0 ρ0 rk s0 o0 r0 q0=>?_) kx)
  refine ay (ab (he q0.2 H (o0.inv I) (fun a σ1 ρ1 ra s1 o1 r1 q1=>ao (af ?_)) (kx.after o0)))
  have o01:=o0.trans o1
  exact ay (w.2.2 q1 H (o01.inv I) (fun vs σ' ρ' ps s' o r q z=>af (k _ _ _ _ _ (o01.trans o) (.cons ((o1.trans o).stp.vrel (q0.1▸r0)) (o.stp.vrel r1) r) q (congrArg (·+1) z))) (kx.after o01))
theorem AB{α:Type}[BEq α][LawfulBEq α]{k:α}{v:V}{es:List (α×V)}:k∉es.map (·.1)→putL k v es=es++[(k,v)] :=
 List.rec (fun _=>rfl) (fun a r ih h=>by
  have hh:=List.ne_and_not_mem_of_not_mem_cons h
  unfold putL
  rw [beq_eq_false_iff_ne.mpr hh.1]
  exact congrArg (a :: ·) (ih hh.2)) es
theorem zZ{K α:Type}[DecidableEq K][BEq α][LawfulBEq α]{knd:KeyKind R.prog R.w K}{g:α→K}{okk:α→Prop}{mk:α→V}(hg:∀ a b,okk a→okk b→g a=g b→a=b)(hk:∀ {a rv},aq R h ρ (mk a) rv→knd.is (g a) rv=true∧okk a){ks vs:List V}{ps:List (Value×Value)}(r:yo R h ρ ks vs ps) :
 ∀ {ns:List α} {es:List (α×V)} {kvs:List (K×Value)},ks=ns.map mk→ns.Nodup→(∀ k∈ns,k∉es.map (·.1))→qP R h ρ g okk (valueAt kvs) es→kvs.length≤es.length →
 ∃ more,Carries knd ps more∧qP R h ρ g okk (valueAt (merged kvs more)) (es++ns.zip vs)∧(merged kvs more).length≤(es++ns.zip vs).length:=by
 induction r with
 | nil =>
  intro ns es kvs e _ _ m z
  cases ns with
  | nil=>exact ⟨[],trivial,(List.append_nil es).symm▸m,(List.append_nil es).symm▸z⟩
  | cons _ _=>exact absurd e (List.cons_ne_nil _ _).symm
 | @cons k v rk rv ks vs ps h1 h2 r ih =>
  intro ns es kvs e hn hf m z
  cases ns with
  | nil=>exact absurd e (List.cons_ne_nil _ _)
  | cons a ns =>
   have ee:=List.cons.inj e
   have hka:=hk (ee.1▸h1)
   have hn:=List.nodup_cons.mp hn
   have mp:=ot hg hka.2 m h2 z
   rw [AB (hf a (.head _))] at mp
   refine (ih ee.2 hn.2 (fun b mb q=>?_) mp.1 mp.2).elim fun more w=>⟨(g a,rv) :: more,⟨hka.1,rfl,w.1⟩,(List.append_assoc es [(a,v)] (ns.zip vs))▸w.2⟩
   rw [List.map_append] at q
   exact (List.mem_append.mp q).elim (hf b (.tail _ mb)) fun q=>hn.1 ((List.mem_singleton.mp q:b=a)▸mb)
theorem sG.nil'{ks:List V}{es:List E}{keys:List (Option PySem.Expr)}{pes:List PySem.Expr}(h:sG R call lx d n ks es keys pes):pes.length=0→ks=[]∧es=[]∧keys=[]∧pes=[]:=by
 induction h with
 | nil=>exact fun _=>⟨rfl,rfl,rfl,rfl⟩
 | cons _ _ _ _=>exact fun e=>absurd e (Nat.succ_ne_zero _)
theorem uq{K:Type}[DecidableEq K]{knd:KeyKind R.prog R.w K}{D:Addr}(hD:h.get? D=some emptyDict):h.DictOf knd D ([]:List (K×Value)):=⟨_,#[],_,hD,⟨rfl,rfl,rfl⟩,rfl,fun e he=>absurd he (by simp),.nil,by simp⟩
theorem Es(ok:aZ R){D:Addr}{σ0 σ:List O}{ρ0:List Addr}{s0 s:Shared}{ks vs:List V}{ps:List (Value×Value)}{Q:ag}{Qr Er:Value→Shared→Prop}(S0:St R σ0 ρ0 s0.heap)(o2:bV R ρ0 [] s0 σ ρ s)(hD:s.heap.get? D=some emptyDict)(hd:D∉ρ∧s0.heap.get? D=none)(r:yo R s.heap ρ ks vs ps)(q:Di σ Q ks vs)(z:ps.length≤15)(k:KQ R ρ0 s0 Q Qr) :
 wpAny R.M A (forIn ps PUnit.unit fun (x:Value×Value) (_:PUnit)=>(do dictSet D x.1 x.2;pure (ForInStep.yield PUnit.unit):Sem (ForInStep PUnit))) (fun _=>Qr (.ref D)) Er s:=by
 have key:∀ {K α:Type} [DecidableEq K] [BEq α] [LawfulBEq α] {knd:KeyKind R.prog R.w K} {g:α→K} {okk:α→Prop} {mk:α→V} {mo:List (α×V)→O},(∀ a b,okk a→okk b→g a=g b→a=b)→(∀ {a rv},aq R s.heap ρ (mk a) rv→knd.is (g a) rv=true∧okk a) →
  (∀ {h ρ es kvs},h.DictOf knd D kvs→kvs.length≤es.length→qP R h ρ g okk (valueAt kvs) es→bR R h ρ D (mo es))→∀ {ns:List α},ks=ns.map mk→ns.Nodup→Q (.ref σ.length) (σ++[mo (ns.zip vs)]) →
  wpAny R.M A (forIn ps PUnit.unit fun (x:Value×Value) (_:PUnit)=>(do dictSet D x.1 x.2;pure (ForInStep.yield PUnit.unit):Sem (ForInStep PUnit))) (fun _=>Qr (.ref D)) Er s:=fun {K α} _ _ _ {knd g okk mk mo} hg hk hO {ns} e hn q=>by
  refine (zZ hg hk r e hn (es:=[]) (kvs:=[]) (fun _ _ m=>absurd m List.not_mem_nil) (fun _ _=>.none) (Nat.le_refl _)).elim fun more w=>wpAny_storeAll ps more [] s _ w.1 (uq hD) (Nat.le_trans (Nat.le_of_eq ((Nat.zero_add _).trans w.1.length)) (aU (Nat.le_trans z (Nat.le_of_ble_eq_true rfl)))) fun h' hm hs=>?_
  have nt:NT s.heap [D]:=fun b mb=>⟨_,List.mem_singleton.mp mb▸hD,fun xs n sl e=>Data.noConfusion (congrArg Obj.data e)⟩
  have k3:=oe.one hs
  have o3:=o2.but (tk:=s.toks+ps.length) S0 (fun b mb=>List.mem_singleton.mp mb▸hd) nt k3
  have o4:=o3.adoptO S0 (hO hm w.2.2 fun x hx=>(w.2.1 x hx).mono (k3.tups nt) (dF _)) hd
  exact k _ _ _ _ _ o4.1 o4.2 q
 induction q with
 | int ns hk hn _ _ e q=>exact key (knd:=intKind R.prog R.w) (g:=fun k:Int=>k) (okk:=fun _=>True) (mo:=.idict) (fun a b _ _ e=>e) (fun v=>v.int' fun t=>⟨decide_eq_true rfl,trivial⟩) .idict hk hn (e▸q)
 | str ns _ hk hn _ _ e q=>exact key (knd:=PySem.strKind R.prog R.w) (g:=R.nm) (okk:=fun k=>k < R.nn) (mo:=.sdict) (fun a b ha hb z=>ok.inj a b ha hb z) (fun v=>v.str' fun t hx=>⟨beq_self_eq_true _,hx⟩) .sdict hk hn (e▸q)
theorem Di.nil'{Q:ag}{σ:List O}{ks vs:List V}(q:Di σ Q ks vs):ks=[]→Q (.ref σ.length) (σ++[.idict []]):=by
 induction q with
 | @int es ns hk hn hl he e h=>exact fun z=>(show es=[] from e.symm.trans (List.map_eq_nil_iff.mp (hk.symm.trans z)▸rfl))▸h
 | str ns h0 hk hn hl he e h=>exact fun z=>absurd (List.map_eq_nil_iff.mp (hk.symm.trans z)) h0
theorem EC(ok:aZ R){ks:List V}{es:List E}{keys:List (Option PySem.Expr)}{pes:List PySem.Expr}{p:Pos}(hd:sG R call lx d n ks es keys pes)(hz:Nat.ble pes.length 15=true):Ok R call lx d n (.dict ks es) (.Dict keys pes p):=fun {env σ Q X A l renv ρ s Qr Er} h H I k kx=>by
 have kp:=Mine.Keeps.push s.heap emptyDict
 have hDn:s.heap.get? s.heap.objs.size=none:=Heap.get?_none_of_le (Nat.le_refl _)
 have hD0:(s.heap.push emptyDict).get? s.heap.objs.size=some emptyDict:=Heap.get?_push_size _ rfl
 have hz:=Nat.le_of_ble_eq_true hz
 have o0:bV R ρ [] s σ ρ { s with heap:=s.heap.push emptyDict }:=.keep I.st kp s.toks
 refine (u8 (p:=p) (renv:=renv) (env:=env) (l:=l) (A:=A) (X:=X) hd).elim fun prs w=>?_
 cases prs with
 | nil =>
  have e:=hd.nil' w.2.1.symm
  obtain ⟨rfl,rfl,rfl,rfl⟩:=e
  refine am (wpAny_Dict_empty ?_)
  have o:=o0.adoptO I.st (.idict (es:=[]) (uq hD0) (Nat.le_refl _) fun _ _=>.none) ⟨I.st.out hDn,hDn⟩
  exact k _ _ _ _ _ o.1 o.2 (Di.nil' (h:Di σ Q [] []) rfl)
 | cons p1 prs =>
  refine ah (arm_eval_Dict ..) (ao ?_)
  rw [w.1,dictDisplay_pairs _ (List.cons_ne_nil _ _) (w.2.1▸Nat.lt_succ_of_lt (Nat.lt_succ_of_le hz))]
  refine ab (ai (wpAny_alloc (ay (ah (if_pos (w.2.1▸hz)) (ab (w.2.2 h H (o0.inv I) (fun vs σ2 ρ2 ps s2 o2 r q e=>aO (ai (wpAny_mono (Es ok I.st (o0.trans o2) ?_ ?_ r q (e▸hz) k) (fun _ _ z=>af (af (af z))) fun _ _ z=>z))) (kx.after o0)))))))
  · exact o2.stp.keep _ _ hD0 (I.st.out hDn) List.not_mem_nil
  · exact ⟨fun m=>(o2.stp.fresh _ m).elim (I.st.out hDn) fun z=>aK z hD0,hDn⟩
end
structure Gv where
 es:List PySem.Expr
 x:Str
 c:Const
 k:Nat
 sc:Scope
noncomputable def nE(es:List PySem.Expr):Gv:=⟨es, "",.none,0,default⟩
noncomputable def gv(e:PySem.Expr):Gv :=
 PySem.Expr.casesOn e (fun _ es _=>nE es) (fun _ _ _=>nE []) (fun a _ b _=>nE [a,b]) (fun _ a _=>nE [a]) (fun _ _ _ _=>nE []) (fun a b c _=>nE [a,b,c]) (fun ks vs _=>nE (vs++ks.flatMap Option.toList)) (fun _ _ _=>nE []) (fun e gs sc _=>⟨e :: gs.flatMap fun g=>g.target :: g.iter :: g.ifs, "",.none,0,sc⟩) (fun _ _ _ _=>nE []) (fun _ _ _ _ _=>nE []) (fun _ _ _ _=>nE []) (fun _ _=>nE []) (fun _ _=>nE []) (fun _ _=>nE []) (fun a _ bs _=>nE (a :: bs)) (fun g as _ _=>nE (g :: as)) (fun _ _ _ _=>nE []) (fun _ _=>nE []) (fun c k _=>⟨[], "",c,k+1,default⟩) (fun a _ _=>nE [a]) (fun v k _=>nE [v,k]) (fun _ _=>nE []) (fun x _=>⟨[],x,.none,0,default⟩) (fun es _=>nE es) (fun es k _=>⟨es, "",.none,k,default⟩) (fun l u s _=>nE (l.toList++(u.toList++s.toList)))
noncomputable def D7:PySem.Expr:=.Name "" ⟨0,0,0,0⟩
noncomputable def bf(pe:PySem.Expr)(i:Nat):PySem.Expr:=(gv pe).es.getD i D7
noncomputable def GT(k pe:PySem.Expr):PySem.Expr:=.UnaryOp .USub (.Constant (.int 1) ((gv k).k - 1) k.pos) pe.pos
noncomputable def B5(k:oZ)(qs:List PySem.Expr→List PySem.Expr)(it:PySem.Expr):PySem.Expr :=
 oZ.casesOn k ((qs [it]).headD D7) (.Call (.Name (gv (bf it 0)).x (bf it 0).pos) (qs (gv it).es.tail) [] it.pos) (.Call (.Name (gv (bf it 0)).x (bf it 0).pos) (qs (gv it).es.tail) [] it.pos)
noncomputable def Et(e:PySem.Expr):PySem.Expr:=.Name (gv e).x e.pos
noncomputable def FM(pt:Bool)(t:PySem.Expr):PySem.Expr:=Bool.casesOn pt (Et t) (.Tuple ((gv t).es.map Et) (gv t).k t.pos)
noncomputable def EW(pt:Bool)(t:PySem.Expr):List Str:=Bool.casesOn pt [(gv t).x] ((gv t).es.map fun e=>(gv e).x)
noncomputable def G3(lx:bN)(sc:Scope)(p:List Nat)(ys:List Str):List (Option Str) :=
 (List.range lx.nm.length).map fun i=>Option.casesOn (motive:=fun _=>Option Str) ((p.zip ys).lookup i) ((lx.nm[i]?.join).filter fun y=>sc.names.lookup y==some .free) some
noncomputable def pr(R:Rt)(e:E):PySem.Expr→PySem.Expr :=
 E.rec (motive_1:=fun _=>PySem.Expr→PySem.Expr) (motive_2:=fun _=>List PySem.Expr→List PySem.Expr)
  (fun _ pe=>.Name (gv pe).x pe.pos)
  (fun _ pe=>Nat.rec (.Name (gv pe).x pe.pos) (fun k _=>.Constant (gv pe).c k pe.pos) (gv pe).k)
  (fun _ a q pe=>.Attribute (q (bf pe 0)) (R.nm a) pe.pos)
  (fun _ _ _ qs pe=>.Call (.Name (gv (bf pe 0)).x (bf pe 0).pos) (qs (gv pe).es.tail) [] pe.pos)
  (fun _ a _ q qs pe=>.Call (.Attribute (q (bf (bf pe 0) 0)) (R.nm a) (bf pe 0).pos) (qs (gv pe).es.tail) [] pe.pos)
  (fun op _ _ q r pe=>.BinOp (q (bf pe 0)) op.py (r (bf pe 1)) pe.pos)
  (fun _ q pe=>.UnaryOp .USub (q (bf pe 0)) pe.pos)
  (fun _ q pe=>.UnaryOp .Not (q (bf pe 0)) pe.pos)
  (fun _ op _ q r pe=>.Compare (q (bf pe 0)) [op.py] [r (bf pe 1)] pe.pos)
  (fun _ op _ op' _ q r t pe=>.Compare (q (bf pe 0)) [op.py,op'.py] [r (bf pe 1),t (bf pe 2)] pe.pos)
  (fun k _ qs pe=>.BoolOp (Bz k) (qs (gv pe).es) pe.pos)
  (fun _ _ _ q r t pe=>.IfExp (q (bf pe 0)) (r (bf pe 1)) (t (bf pe 2)) pe.pos)
  (fun _ _ q r pe=>.Subscript (q (bf pe 0)) (r (bf pe 1)) pe.pos)
  (fun _ lo hi q l h pe=>.Subscript (q (bf pe 0)) (.Slice (l (gv (bf pe 1)).es).head? (h ((gv (bf pe 1)).es.drop lo.length)).head? none (bf pe 1).pos) pe.pos)
  (fun _ q pe=>.Subscript (q (bf pe 0)) (.Slice none none (some (GT (bf (bf (bf pe 1) 0) 0) (bf (bf pe 1) 0))) (bf pe 1).pos) pe.pos)
  (fun _ q pe=>.Subscript (q (bf pe 0)) (.Slice none (some (GT (bf (bf (bf pe 1) 0) 0) (bf (bf pe 1) 0))) none (bf pe 1).pos) pe.pos)
  (fun _ qs pe=>.List (qs (gv pe).es) pe.pos)
  (fun _ qs pe=>.Tuple (qs (gv pe).es) (gv pe).k pe.pos)
  (fun ks _ qs pe=>.Dict (((gv pe).es.drop ks.length).map fun c=>some (.Constant (gv c).c ((gv c).k - 1) c.pos)) (qs (gv pe).es) pe.pos)
  (fun _ pt _ k _ _ q i c pe=>.ListComp (q (bf pe 0)) [⟨FM pt (bf pe 1),B5 k i (bf pe 2),c ((gv pe).es.drop 3),0⟩] (gv pe).sc pe.pos)
  (fun _=>[])
  (fun _ _ q qs pes=>q (pes.headD D7) :: qs pes.tail) e
noncomputable def zf(R:Rt)(lx:bN)(f:E)(x:Str):Bool :=
 E.rec (motive_1:=fun _=>Bool) (motive_2:=fun _=>Bool) (fun i=>eL lx i x) (fun v=>yB R lx x v) (fun _ _ _=>false) (fun _ _ _ _=>false) (fun _ _ _ _ _=>false) (fun _ _ _ _ _=>false) (fun _ _=>false) (fun _ _=>false) (fun _ _ _ _ _=>false) (fun _ _ _ _ _ _ _ _=>false)
  (fun _ _ _=>false) (fun _ _ _ _ _ _=>false) (fun _ _ _ _=>false) (fun _ _ _ _ _ _=>false) (fun _ _=>false) (fun _ _=>false) (fun _ _=>false) (fun _ _=>false) (fun _ _ _=>false) (fun _ _ _ _ _ _ _ _ _=>false) false (fun _ _ _ _=>false) f
noncomputable def DO(R:Rt)(ks:List V)(cs:List PySem.Expr):Bool:=Nat.beq ks.length cs.length&&(ks.zip cs).all fun p=>AV R p.1 (gv p.2).c
noncomputable def HV(R:Rt)(lx:bN)(k:oZ)(pt:Bool)(es:List E)(qs:List PySem.Expr→Bool)(it:PySem.Expr):Bool :=
 oZ.casesOn k (Nat.beq es.length 1&&qs [it]) (pt&&(yB R lx (gv (bf it 0)).x (.blt .enum)&&qs (gv it).es.tail)) (yB R lx (gv (bf it 0)).x (.blt .range)&&qs (gv it).es.tail)
noncomputable def CT(okn:Nat→Str→Bool)(pt:Bool)(p:List Nat)(ys:List Str):Bool:=Nat.beq p.length ys.length&&((pt||Nat.beq p.length 1)&&(p.zip ys).all fun q=>okn q.1 q.2)
noncomputable def side(R:Rt)(e:E):bN→PySem.Expr→Bool :=
 E.rec (motive_1:=fun _=>bN→PySem.Expr→Bool) (motive_2:=fun _=>bN→List PySem.Expr→Bool)
  (fun i lx pe=>eL lx i (gv pe).x)
  (fun v lx pe=>Nat.rec (yB R lx (gv pe).x v) (fun _ _=>AV R v (gv pe).c) (gv pe).k)
  (fun _ a q lx pe=>Nat.blt a R.nn&&q lx (bf pe 0))
  (fun f _ _ qs lx pe=>((gv (bf pe 0)).x != "super" && zf R lx f (gv (bf pe 0)).x)&&qs lx (gv pe).es.tail)
  (fun _ a es q qs lx pe=>(Nat.blt a R.nn&&Nat.beq (bf pe 0).pos.endLine pe.pos.line)&&(Nat.blt es.length 29&&(q lx (bf (bf pe 0) 0)&&qs lx (gv pe).es.tail)))
  (fun _ _ _ q r lx pe=>q lx (bf pe 0)&&r lx (bf pe 1))
  (fun _ q lx pe=>q lx (bf pe 0))
  (fun _ q lx pe=>q lx (bf pe 0))
  (fun _ _ _ q r lx pe=>q lx (bf pe 0)&&r lx (bf pe 1))
  (fun _ _ _ _ _ q r t lx pe=>q lx (bf pe 0)&&(r lx (bf pe 1)&&t lx (bf pe 2)))
  (fun _ _ qs lx pe=>qs lx (gv pe).es)
  (fun _ _ _ q r t lx pe=>q lx (bf pe 0)&&(r lx (bf pe 1)&&t lx (bf pe 2)))
  (fun _ _ q r lx pe=>q lx (bf pe 0)&&r lx (bf pe 1))
  (fun _ lo hi q l h lx pe=>(Nat.ble lo.length 1&&Nat.ble hi.length 1)&&(q lx (bf pe 0)&&(l lx (gv (bf pe 1)).es&&h lx ((gv (bf pe 1)).es.drop lo.length))))
  (fun _ q lx pe=>q lx (bf pe 0))
  (fun _ q lx pe=>q lx (bf pe 0))
  (fun es qs lx pe=>Nat.ble es.length lM&&qs lx (gv pe).es)
  (fun es qs lx pe=>Nat.ble es.length lM&&qs lx (gv pe).es)
  (fun ks es qs lx pe=>(Nat.ble es.length 15&&Nat.beq ks.length es.length)&&(DO R ks ((gv pe).es.drop ks.length)&&qs lx (gv pe).es))
  (fun _ pt p k es _ q i c lx pe =>
   (fun lx'=>(zA lx (gv pe).sc p lx'.nm&&CT (yW lx') pt p (EW pt (bf pe 1)))&&(HV R lx k pt es (i lx) (bf pe 2)&&(q lx' (bf pe 0)&&c lx' ((gv pe).es.drop 3))))
    (⟨bi lx (gv pe).sc,G3 lx (gv pe).sc p (EW pt (bf pe 1))⟩:bN))
  (fun _ _=>true)
  (fun _ _ q qs lx pes=>q lx (pes.headD D7)&&qs lx pes.tail) e
noncomputable def prs(R:Rt)(es:List E)(pes:List PySem.Expr):List PySem.Expr:=(gv (pr R (.list es) (.List pes ⟨0,0,0,0⟩))).es
noncomputable def uI(R:Rt)(es:List E)(lx:bN)(pes:List PySem.Expr):Bool:=side R (.bool true es) lx (.List pes ⟨0,0,0,0⟩)
structure Cx(R:Rt)(d:Nat)(call:aw):Prop where
 ok:aZ R
 pk:yt R
 hc:eP R d call
section
variable{R:Rt}{call:aw}{lx:bN}{d n:Nat}
theorem ar{a b:Bool}{P:Prop}(h:(a&&b)=true)(k:a=true→b=true→P):P:=k ((Bool.and_eq_true _ _).mp h).1 ((Bool.and_eq_true _ _).mp h).2
theorem Dt(ok:aZ R){f:E}{x:Str}{p:Pos}:zf R lx f x=true→Ok R call lx d n f (.Name x p) :=
 E.casesOn (motive_1:=fun f=>zf R lx f x=true→Ok R call lx d n f (.Name x p)) f (fun _ h=>DH h) (fun _ h=>F3 ok h) (fun _ _ h=>absurd h Bool.false_ne_true) (fun _ _ h=>absurd h Bool.false_ne_true) (fun _ _ _ h=>absurd h Bool.false_ne_true) (fun _ _ _ h=>absurd h Bool.false_ne_true) (fun _ h=>absurd h Bool.false_ne_true) (fun _ h=>absurd h Bool.false_ne_true) (fun _ _ _ h=>absurd h Bool.false_ne_true) (fun _ _ _ _ _ h=>absurd h Bool.false_ne_true) (fun _ _ h=>absurd h Bool.false_ne_true) (fun _ _ _ h=>absurd h Bool.false_ne_true) (fun _ _ h=>absurd h Bool.false_ne_true) (fun _ _ _ h=>absurd h Bool.false_ne_true) (fun _ h=>absurd h Bool.false_ne_true) (fun _ h=>absurd h Bool.false_ne_true) (fun _ h=>absurd h Bool.false_ne_true) (fun _ h=>absurd h Bool.false_ne_true) (fun _ _ h=>absurd h Bool.false_ne_true) (fun _ _ _ _ _ _ h=>absurd h Bool.false_ne_true)
theorem Hc{e:E}{pe:PySem.Expr}(k:Ok R call lx d n e pe)(hq:∀ {env σ Q X},vcT call e env σ Q X→bW call e env σ (wB Q) X)(hi:∀ renv (m:Sem Value),isTrue pe renv m=(m >>= fun v=>standAt pe.pos >>= fun _=>holding [v] (truthy v)))(pl:Pl pe):Ex R call lx d n e pe:=⟨k,Gb k hq hi,pl⟩
theorem y4{e:E}{pe:PySem.Expr}(k:Ok R call lx d n e pe)(h:∀ {env σ Q X},vcT call e env σ Q X→False)(pl:Pl pe):Ex R call lx d n e pe:=⟨k,fun hv=>(h hv).elim,pl⟩
theorem yX{x:Str}{p q:Pos}{as:List PySem.Expr}(h:(x != "super")=true)(a:Str)(env:Env)(m:Sem Value):attributeBase (.Call (.Name x p) as [] q) a env m=m:=by
 cases as with
 | nil=>unfold attributeBase;simp [h]
 | cons _ _=>rfl
theorem mw{es:List E}{pes:List PySem.Expr}(h:jf R call lx d n es pes):es.length=pes.length:=by
 induction h with
 | nil=>rfl
 | cons _ _ ih=>exact congrArg (·+1) ih
theorem xc{es:List E}{pes:List PySem.Expr}(hz:es.length≤1)(h:jf R call lx d n es pes):yE R call lx d n es pes.head?:=by
 induction h with
 | nil=>exact .nil
 | cons h r _ =>
  induction r with
  | nil=>exact .one h.ev
  | cons _ _ _=>exact absurd hz (by simp)
theorem FV{es:List E}{pes:List PySem.Expr}(h:jf R call lx d n es pes):∀ {ks:List V} {cs:List PySem.Expr},ks.length=es.length→DO R ks cs=true→sG R call lx d n ks es (cs.map fun c=>some (.Constant (gv c).c ((gv c).k - 1) c.pos)) pes:=by
 induction h with
 | nil =>
  intro ks cs hl hk
  cases ks with
  | cons _ _=>exact absurd hl (Nat.succ_ne_zero _)
  | nil=>cases cs with
   | cons _ _=>exact absurd hk Bool.false_ne_true
   | nil=>exact .nil
 | cons he _ ih =>
  intro ks cs hl hk
  cases ks with
  | nil=>exact absurd hl (Nat.succ_ne_zero _).symm
  | cons v ks=>cases cs with
   | nil=>exact absurd hk Bool.false_ne_true
   | cons c cs=>exact ar hk fun h1 h=>ar h fun h2 h3=>.cons h2 he.ev (ih (Nat.succ.inj hl) ((Bool.and_eq_true _ _).mpr ⟨h1,h3⟩))
theorem wg{okn:Nat→Str→Bool}{es:List PySem.Expr}:∀ {p:List Nat},Nat.beq p.length (es.map fun e=>(gv e).x).length=true→((p.zip (es.map fun e=>(gv e).x)).all fun q=>okn q.1 q.2)=true→y5 okn p (es.map Et) (es.map fun e=>(gv e).x):=by
 induction es with
 | nil =>
  intro p h1 _
  cases p with
  | nil=>exact .nil
  | cons _ _=>exact absurd h1 Bool.false_ne_true
 | cons e es ih =>
  intro p h1 h2
  cases p with
  | nil=>exact absurd h1 Bool.false_ne_true
  | cons i p=>exact ar h2 fun h2 h3=>.cons h2 (ih h1 h3)
theorem vN{okn:Nat→Str→Bool}{pt:Bool}{p:List Nat}{t:PySem.Expr}(h:CT okn pt p (EW pt t)=true):y6 okn pt p (FM pt t):=by
 cases pt with
 | true=>exact ar h fun h1 h=>ar h fun _ h2=>.tup (wg h1 h2)
 | false =>
  refine ar h fun h1 h=>ar h fun _ h2=>?_
  have z:=wg (es:=[t]) h1 h2
  cases p with
  | nil=>exact absurd h1 Bool.false_ne_true
  | cons i p=>cases p with
   | nil=>exact ar h2 fun h2 _=>.name h2
   | cons _ _=>exact absurd h1 Bool.false_ne_true
theorem zJ{es:List E}{pes:List PySem.Expr}(hz:Nat.beq es.length 1=true)(h:jf R call lx d n es pes):eJ R call lx d n .plain es (pes.headD D7):=by
 induction h with
 | nil=>exact absurd hz Bool.false_ne_true
 | cons he r _ =>
  induction r with
  | nil=>exact .plain he.ev he.pl
  | cons _ _ _=>exact absurd hz Bool.false_ne_true
theorem zh(ok:aZ R){k:oZ}{pt:Bool}{es:List E}{it:PySem.Expr}(h:HV R lx k pt es (uI R es lx) it=true)(q:∀ pes,uI R es lx pes=true→jf R call lx d n es (prs R es pes)):eJ R call lx d n k es (B5 k (prs R es) it)∧(k = .enum→pt=true):=by
 cases k with
 | plain=>exact ar h fun h1 h2=>⟨zJ h1 (q _ h2),fun z=>oZ.noConfusion z⟩
 | enum=>exact ar h fun h1 h=>ar h fun h2 h3=>⟨.enum h2 (q _ h3),fun _=>h1⟩
 | rng=>exact ar h fun h2 h3=>⟨.rng h2 (q _ h3),fun z=>oZ.noConfusion z⟩
noncomputable def OE(R:Rt)(call:aw)(d n:Nat)(e:E):Prop:=∀ (lx:bN) (pe:PySem.Expr),side R e lx pe=true→Ex R call lx d n e (pr R e pe)
noncomputable def Iz(R:Rt)(call:aw)(d n:Nat)(es:List E):Prop:=∀ (lx:bN) (pes:List PySem.Expr),uI R es lx pes=true→jf R call lx d n es (prs R es pes)
theorem sO(C:Cx R d call)(e:E):OE R call d (n+1) e:=by
 refine E.rec (motive_1:=OE R call d (n+1)) (motive_2:=Iz R call d (n+1)) ?_ ?_ ?_ ?_ ?_ ?_ ?_ ?_ ?_ ?_ ?_ ?_ ?_ ?_ ?_ ?_ ?_ ?_ ?_ ?_ ?_ ?_ e
 case refine_1=>exact fun i lx pe h=>Hc (DH h) (fun h=>h) (fun _ _=>rfl) ⟨fun _ _=>rfl,fun _=>rfl,fun _ _=>rfl,fun _ _ _=>rfl,fun _ _=>rfl⟩
 case refine_2 =>
  intro v lx pe
  show (Nat.rec (yB R lx (gv pe).x v) (fun _ _=>AV R v (gv pe).c) (gv pe).k:Bool)=true→Ex R call lx d (n+1) (.cst v) (Nat.rec (.Name (gv pe).x pe.pos) (fun k _=>.Constant (gv pe).c k pe.pos) (gv pe).k)
  cases (gv pe).k with
  | zero=>exact fun h=>y4 (F3 C.ok h) (fun h=>h) ⟨fun _ _=>rfl,fun _=>rfl,fun _ _=>rfl,fun _ _ _=>rfl,fun _ _=>rfl⟩
  | succ k=>exact fun h=>y4 (wP h) (fun h=>h) ⟨fun _ _=>rfl,fun _=>rfl,fun _ _=>rfl,fun _ _ _=>rfl,fun _ _=>rfl⟩
 case refine_3=>exact fun e a q lx pe h=>ar h fun h1 h2=>Hc (FH C.ok C.pk C.hc (Nat.blt_eq▸h1) (q lx _ h2).pl (q lx _ h2).ev) (fun h=>h) (fun _ _=>rfl) ⟨fun _ _=>rfl,fun _=>rfl,fun _ _=>rfl,fun _ _ _=>rfl,fun _ _=>rfl⟩
 case refine_4=>exact fun f es _ qs lx pe h=>ar h fun h1 h2=>ar h1 fun h0 h1=>Hc (Ft C.ok C.pk C.hc (Dt C.ok h1) (qs lx _ h2)) (fun h=>h) (fun _ _=>rfl) ⟨fun _ _=>rfl,fun _=>rfl,fun _ _=>rfl,yX h0,fun _ _=>rfl⟩
 case refine_5=>exact fun o a es q qs lx pe h=>ar h fun h h'=>ar h fun h1 h2=>ar h' fun h3 h=>ar h fun h4 h5=>Hc (Ed C.ok C.pk C.hc (Nat.blt_eq▸h1) (q lx _ h4).pl h2 (mw (qs lx _ h5)▸Nat.blt_eq▸h3) (q lx _ h4).ev (qs lx _ h5)) (fun h=>h) (fun _ _=>rfl) ⟨fun _ _=>rfl,fun _=>rfl,fun _ _=>rfl,fun _ _ _=>rfl,fun _ _=>rfl⟩
 case refine_6=>exact fun op l r q1 q2 lx pe h=>ar h fun h1 h2=>y4 (GF (q1 lx _ h1).ev (q2 lx _ h2).ev) (fun h=>h) ⟨fun _ _=>rfl,fun _=>rfl,fun _ _=>rfl,fun _ _ _=>rfl,fun _ _=>rfl⟩
 case refine_7=>exact fun e q lx pe h=>y4 (Gf (q lx _ h).ev) (fun h=>h) ⟨fun _ _=>rfl,fun _=>rfl,fun _ _=>rfl,fun _ _ _=>rfl,fun _ _=>rfl⟩
 case refine_8=>exact fun e q lx pe h=>⟨Gq (q lx _ h).ev,FZ (q lx _ h).te,⟨fun _ _=>rfl,fun _=>rfl,fun _ _=>rfl,fun _ _ _=>rfl,fun _ _=>rfl⟩⟩
 case refine_9=>exact fun a op b q r lx pe h=>ar h fun h1 h2=>⟨FU C.ok (r lx _ h2).pl (q lx _ h1).ev (r lx _ h2).ev,GV C.ok (r lx _ h2).pl (q lx _ h1).ev (r lx _ h2).ev,⟨fun _ _=>rfl,fun _=>rfl,fun _ _=>rfl,fun _ _ _=>rfl,fun _ _=>rfl⟩⟩
 case refine_10=>exact fun a op b op' c q r t lx pe h=>ar h fun h1 h=>ar h fun h2 h3=>⟨EZ C.ok (t lx _ h3).pl (q lx _ h1).ev (r lx _ h2).ev (t lx _ h3).ev,EV C.ok (t lx _ h3).pl (q lx _ h1).ev (r lx _ h2).ev (t lx _ h3).ev,⟨fun _ _=>rfl,fun _=>rfl,fun _ _=>rfl,fun _ _ _=>rfl,fun _ _=>rfl⟩⟩
 case refine_11=>exact fun k es qs lx pe h=>⟨E0 (qs lx _ h),Fy (qs lx _ h),⟨fun _ _=>rfl,fun _=>rfl,fun _ _=>rfl,fun _ _ _=>rfl,fun _ _=>rfl⟩⟩
 case refine_12=>exact fun a b c q r t lx pe h=>ar h fun h1 h=>ar h fun h2 h3=>⟨GI (q lx _ h1).te (r lx _ h2).ev (t lx _ h3).ev,GK (q lx _ h1).te (r lx _ h2).te (t lx _ h3).te,⟨fun _ _=>rfl,fun _=>rfl,fun _ _=>rfl,fun _ _ _=>rfl,fun _ _=>rfl⟩⟩
 case refine_13=>exact fun a b q r lx pe h=>ar h fun h1 h2=>y4 (Gp C.ok (r lx _ h2).pl (q lx _ h1).ev (r lx _ h2).ev) (fun h=>h) ⟨fun _ _=>rfl,fun _=>rfl,fun _ _=>rfl,fun _ _ _=>rfl,fun _ _=>rfl⟩
 case refine_14=>exact fun e lo hi q l u lx pe h=>ar h fun h h'=>ar h fun h1 h2=>ar h' fun h3 h=>ar h fun h4 h5=>y4 (BK C.ok (q lx _ h3).ev (xc (Nat.le_of_ble_eq_true h1) (l lx _ h4)) (xc (Nat.le_of_ble_eq_true h2) (u lx _ h5))) (fun h=>h) ⟨fun _ _=>rfl,fun _=>rfl,fun _ _=>rfl,fun _ _ _=>rfl,fun _ _=>rfl⟩
 case refine_15=>exact fun e q lx pe h=>y4 (Gx (q lx _ h).ev) (fun h=>h) ⟨fun _ _=>rfl,fun _=>rfl,fun _ _=>rfl,fun _ _ _=>rfl,fun _ _=>rfl⟩
 case refine_16=>exact fun e q lx pe h=>y4 (ED (q lx _ h).ev) (fun h=>h) ⟨fun _ _=>rfl,fun _=>rfl,fun _ _=>rfl,fun _ _ _=>rfl,fun _ _=>rfl⟩
 case refine_17=>exact fun es qs lx pe h=>ar h fun h1 h2=>y4 (Fa (mw (qs lx _ h2)▸Nat.le_of_ble_eq_true h1) (qs lx _ h2)) (fun h=>h) ⟨fun _ _=>rfl,fun _=>rfl,fun _ _=>rfl,fun _ _ _=>rfl,fun _ _=>rfl⟩
 case refine_18=>exact fun es qs lx pe h=>ar h fun h1 h2=>y4 (Gz (mw (qs lx _ h2)▸Nat.le_of_ble_eq_true h1) (qs lx _ h2)) (fun h=>h) ⟨fun _ _=>rfl,fun _=>rfl,fun _ _=>rfl,fun _ _ _=>rfl,fun _ _=>rfl⟩
 case refine_19=>exact fun ks es qs lx pe h=>ar h fun h h'=>ar h fun h1 h2=>ar h' fun h3 h4=>y4 (EC C.ok (FV (qs lx _ h4) (Nat.eq_of_beq_eq_true h2) h3) (mw (qs lx _ h4)▸h1)) (fun h=>h) ⟨fun _ _=>rfl,fun _=>rfl,fun _ _=>rfl,fun _ _ _=>rfl,fun _ _=>rfl⟩
 case refine_20=>exact fun elt pt p k es cs q i c lx pe h=>ar h fun h h'=>ar h fun h1 h2=>ar h' fun h3 h=>ar h fun h4 h5=>(zh C.ok h3 fun qs h=>i lx qs h).elim fun i1 i2=>y4 (Ax C.ok ⟨i1,tV h1,vN h2,i2,(q _ _ h4).ev,c _ _ h5⟩) (fun h=>h) ⟨fun _ _=>rfl,fun _=>rfl,fun _ _=>rfl,fun _ _ _=>rfl,fun _ _=>rfl⟩
 case refine_21=>exact fun _ _ _=>jf.nil
 case refine_22=>exact fun e es q qs lx pes h=>ar h fun h1 h2=>jf.cons (q lx _ h1) (qs lx _ h2)
theorem Fk(C:Cx R d call)(es:List E):∀ (pes:List PySem.Expr),uI R es lx pes=true→jf R call lx d (n+1) es (prs R es pes):=by
 induction es with
 | nil=>exact fun _ _=>.nil
 | cons e es ih=>exact fun pes h=>ar h fun h1 h2=>.cons (sO C e lx _ h1) (ih _ h2)
end
structure Sv where
 es:List PySem.Expr
 b:List PySem.Stmt
 o:List PySem.Stmt
 x:Str
 q:Pos
noncomputable def p0:Pos:=⟨0,0,0,0⟩
noncomputable def hv(bd:List PySem.Stmt):ExceptHandler→Sv
 | .ExceptHandler t z b p=>⟨t.toList,bd++b,[],z.getD "",p⟩
noncomputable def qq:Sv:=⟨[],[],[], "",p0⟩
noncomputable def D5(es:List PySem.Expr)(b o:List PySem.Stmt):Sv:=⟨es,b,o, "",p0⟩
noncomputable def sv(st:PySem.Stmt):Sv :=
 PySem.Stmt.casesOn st (fun _ _ _ _ _ _ _ _ _ _=>qq) (fun _ _ _ _ _ _ _ _ _ _=>qq) (fun _ _ _ _ _ _ _ _ _ _ _=>qq) (fun v _=>D5 v.toList [] []) (fun _ _=>qq) (fun ts v _=>D5 (v :: ts) [] []) (fun _ _ _ _ _ _ _=>qq) (fun t _ v _=>D5 [v,t] [] []) (fun _ _ _ _ _=>qq) (fun t i b _ _=>D5 [t,i] b []) (fun _ _ _ _ _=>qq) (fun t b _ _=>D5 [t] b []) (fun t b o _=>D5 [t] b o) (fun _ _ _=>qq) (fun _ _ _=>qq) (fun _ _ _=>qq) (fun e _ _=>D5 e.toList [] []) (fun b hs _ _ _=>(hs.map (hv b)).headD qq) (fun _ _ _ _ _=>qq) (fun _ _ _=>qq) (fun _ _=>qq) (fun _ _ _ _=>qq) (fun _ _=>qq) (fun _ _=>qq) (fun v _=>D5 [v] [] []) (fun _=>qq) (fun _=>qq) (fun _=>qq)
noncomputable def sk(st:PySem.Stmt)(i:Nat):PySem.Expr:=(sv st).es.getD i D7
noncomputable def sb(st:PySem.Stmt)(i:Nat):PySem.Stmt:=(sv st).b.getD i (.Pass p0)
noncomputable def HX(R:Rt)(s:S):PySem.Stmt→PySem.Stmt :=
 S.rec (motive_1:=fun _=>PySem.Stmt→PySem.Stmt) (motive_2:=fun _=>List PySem.Stmt→List PySem.Stmt)
  (fun _ e st=>.Assign [Et (sk st 1)] (pr R e (sk st 0)) st.pos)
  (fun _ e st=>.Assign [FM true (sk st 1)] (pr R e (sk st 0)) st.pos)
  (fun o a e st=>.Assign [.Attribute (pr R o (bf (sk st 1) 0)) (R.nm a) (sk st 1).pos] (pr R e (sk st 0)) st.pos)
  (fun o k e st=>.Assign [.Subscript (pr R o (bf (sk st 1) 0)) (pr R k (bf (sk st 1) 1)) (sk st 1).pos] (pr R e (sk st 0)) st.pos)
  (fun o a _ e st=>.AugAssign (.Attribute (pr R o (bf (sk st 1) 0)) (R.nm a) (sk st 1).pos) .Sub (pr R e (sk st 0)) st.pos)
  (fun e st=>.Expr (pr R e (sk st 0)) st.pos)
  (fun e st=>.Return (some (pr R e (sk st 0))) st.pos)
  (fun c _ _ q r st=>.If (pr R c (sk st 0)) (q (sv st).b) (r (sv st).o) st.pos)
  (fun c _ q st=>.While (pr R c (sk st 0)) (q (sv st).b) [] st.pos)
  (fun pt _ k es _ q st=>.For (FM pt (sk st 0)) (B5 k (prs R es) (sk st 1)) (q (sv st).b) [] st.pos)
  (fun e st=>.Raise (some (.Call (Et (bf (sk st 0) 0)) [pr R e (bf (sk st 0) 1)] [] (sk st 0).pos)) none st.pos)
  (fun _ e _ _ st=>.Try [.Assign [Et (sk (sb st 0) 1)] (pr R e (sk (sb st 0) 0)) (sb st 0).pos]
   [.ExceptHandler (some (Et (sk st 0))) (some (sv st).x) (vL (sv st).x (R.nm cO) (gv (bf (sk (sb st 1) 0) 1)).x (bf (bf (sk (sb st 1) 0) 0) 0).pos (bf (sk (sb st 1) 0) 0).pos (bf (sk (sb st 1) 0) 1).pos (sk (sb st 1) 0).pos (sk (sb (sb st 1) 0) 0).pos (sb (sb st 1) 0).pos (sb st 1).pos (sb st 2).pos ((gv (sk (sb (sb st 1) 0) 0)).k - 1)) (sv st).q] [] [] st.pos)
  (fun st=>.Break st.pos) (fun st=>.Continue st.pos) (fun st=>.Pass st.pos) (fun st=>st)
  (fun _=>[])
  (fun _ _ q r ss=>q (ss.headD (.Pass p0)) :: r ss.tail) s
noncomputable def nc(e:E):Bool:=E.casesOn e (fun _=>true) (fun _=>true) (fun _ _=>true) (fun _ _=>true) (fun _ _ _=>true) (fun _ _ _=>true) (fun _=>true) (fun _=>true) (fun _ _ _=>true) (fun _ _ _ _ _=>true) (fun _ _=>true) (fun _ _ _=>true) (fun _ _=>true) (fun _ _ _=>true) (fun _=>true) (fun _=>true) (fun _=>true) (fun _=>true) (fun _ _=>true) (fun _ _ _ _ _ _=>false)
noncomputable def DX(op:Op):Bool:=Op.casesOn op false true false false false false false false
noncomputable def EM(ns:List Str)(m:Sem (Option (List Str))):Bool :=
 Sem.casesOn (motive:=fun _=>Bool) m (fun o=>Option.casesOn o true fun ys=>ys==ns) (fun _=>false) (fun _=>false) (fun _=>false) (fun _ _=>false) (fun _ _=>false) (fun _ _ _=>false) (fun _ _ _ _=>false) (fun _ _=>false) (fun _ _=>false) (fun _ _=>false) (fun _ _=>false) (fun _=>false) (fun _=>false) (fun _ _ _=>false) (fun _ _ _=>false) (fun _ _ _ _ _=>false) (fun _ _=>false) (fun _ _=>false) (fun _ _=>false) (fun _ _ _ _=>false) (fun _ _ _ _=>false) (fun _=>false) (fun _ _=>false) (fun _=>false) (fun _ _ _ _ _=>false)
noncomputable def DC(R:Rt)(tr:Bool)(lx:bN)(s:S):PySem.Stmt→Bool :=
 S.rec (motive_1:=fun _=>PySem.Stmt→Bool) (motive_2:=fun _=>List PySem.Stmt→Bool)
  (fun i e st=>eL lx i (gv (sk st 1)).x&&side R e lx (sk st 0))
  (fun ts e st=>(CT (eL lx) true ts (EW true (sk st 1))&&decide ts.Nodup)&&(nc e&&(EM (EW true (sk st 1)) (swappedStores [FM true (sk st 1)] (pr R e (sk st 0)) (xH lx))&&side R e lx (sk st 0))))
  (fun o a e st=>(Nat.blt a R.nn&&nc e)&&(side R o lx (bf (sk st 1) 0)&&side R e lx (sk st 0)))
  (fun o k e st=>nc e&&(side R o lx (bf (sk st 1) 0)&&(side R k lx (bf (sk st 1) 1)&&side R e lx (sk st 0))))
  (fun o a op e st=>(DX op&&Nat.blt a R.nn)&&(side R o lx (bf (sk st 1) 0)&&side R e lx (sk st 0)))
  (fun e st=>nc e&&side R e lx (sk st 0))
  (fun e st=>side R e lx (sk st 0))
  (fun c _ _ q r st=>side R c lx (sk st 0)&&(q (sv st).b&&r (sv st).o))
  (fun c _ q st=>side R c lx (sk st 0)&&q (sv st).b)
  (fun pt p k es _ q st=>CT (eL lx) pt p (EW pt (sk st 0))&&(HV R lx k pt es (uI R es lx) (sk st 1)&&q (sv st).b))
  (fun e st=>yB R lx (gv (bf (sk st 0) 0)).x (.cls aQ)&&side R e lx (bf (sk st 0) 1))
  (fun i e j due st=>((tr&&nc e)&&(eL lx i (gv (sk (sb st 0) 1)).x&&yB R lx (gv (sk st 0)).x (.cls aQ)))&&((yW lx j (sv st).x&&eL lx due (gv (bf (sk (sb st 1) 0) 1)).x)&&side R e lx (sk (sb st 0) 0)))
  (fun _=>true) (fun _=>true) (fun _=>true) (fun _=>true)
  (fun _=>true)
  (fun _ _ q r ss=>q (ss.headD (.Pass p0))&&r ss.tail) s
noncomputable def Ec(R:Rt)(ss:List S)(st:List PySem.Stmt):List PySem.Stmt:=(sv (HX R (.whl (.bool true []) ss) (.While D7 st [] p0))).b
noncomputable def vU(R:Rt)(tr:Bool)(lx:bN)(ss:List S)(st:List PySem.Stmt):Bool:=DC R tr lx (.whl (.bool true []) ss) (.While D7 st [] p0)
section
variable{R:Rt}{call:aw}{lx:bN}{d n:Nat}{tr:Bool}
theorem F6{pe:PySem.Expr}{P:E→Prop}(k:∀ e,m8 (pr R e pe)→P e)(c:∀ elt pt p it es cs,P (.comp elt pt p it es cs))(e:E):P e:=by
 cases e with
 | comp=>exact c _ _ _ _ _ _
 | cst v =>
  refine k _ ?_
  show m8 (Nat.rec (.Name (gv pe).x pe.pos) (fun k _=>.Constant (gv pe).c k pe.pos) (gv pe).k:PySem.Expr)
  cases (gv pe).k<;>exact fun _ _ _=>rfl
 | _=>exact k _ fun _ _ _=>rfl
theorem ur{e:E}{pe:PySem.Expr}:nc e=true→m8 (pr R e pe):=F6 (R:=R) (pe:=pe) (P:=fun e=>nc e=true→m8 (pr R e pe)) (fun _ h _=>h) (fun _ _ _ _ _ _ h=>absurd h Bool.false_ne_true) e
theorem CR{ns:List Str}{m:Sem (Option (List Str))}:EM ns m=true→m=pure none∨m=pure (some ns) :=
 Sem.casesOn (motive:=fun m=>EM ns m=true→m=pure none∨m=pure (some ns)) m (fun o=>Option.casesOn o (fun _=>.inl rfl) fun ys h=>.inr (congrArg (fun y=>Sem.pure (some y)) (eq_of_beq h))) (fun _ h=>absurd h Bool.false_ne_true) (fun _ h=>absurd h Bool.false_ne_true) (fun _ h=>absurd h Bool.false_ne_true) (fun _ _ h=>absurd h Bool.false_ne_true) (fun _ _ h=>absurd h Bool.false_ne_true) (fun _ _ _ h=>absurd h Bool.false_ne_true) (fun _ _ _ _ h=>absurd h Bool.false_ne_true) (fun _ _ h=>absurd h Bool.false_ne_true) (fun _ _ h=>absurd h Bool.false_ne_true) (fun _ _ h=>absurd h Bool.false_ne_true) (fun _ _ h=>absurd h Bool.false_ne_true) (fun _ h=>absurd h Bool.false_ne_true) (fun _ h=>absurd h Bool.false_ne_true) (fun _ _ _ h=>absurd h Bool.false_ne_true) (fun _ _ _ h=>absurd h Bool.false_ne_true) (fun _ _ _ _ _ h=>absurd h Bool.false_ne_true) (fun _ _ h=>absurd h Bool.false_ne_true) (fun _ _ h=>absurd h Bool.false_ne_true) (fun _ _ h=>absurd h Bool.false_ne_true) (fun _ _ _ _ h=>absurd h Bool.false_ne_true) (fun _ _ _ _ h=>absurd h Bool.false_ne_true) (fun _ h=>absurd h Bool.false_ne_true) (fun _ _ h=>absurd h Bool.false_ne_true) (fun _ h=>absurd h Bool.false_ne_true) (fun _ _ _ _ _ h=>absurd h Bool.false_ne_true)
theorem Cr(C:Cx R d call){elt:E}{pt:Bool}{p:List Nat}{k:oZ}{es cs:List E}{pe:PySem.Expr}(h:side R (.comp elt pt p k es cs) lx pe=true):rQ R call lx d (n+1) (G3 lx (gv pe).sc p (EW pt (bf pe 1))) elt pt p k es cs (pr R elt (bf pe 0)) (FM pt (bf pe 1)) (B5 k (prs R es) (bf pe 2)) (prs R cs ((gv pe).es.drop 3)) (gv pe).sc :=
 ar h fun h h'=>ar h fun h1 h2=>ar h' fun h3 h=>ar h fun h4 h5=>(zh C.ok h3 fun qs h=>Fk C es qs h).elim fun i1 i2=>⟨i1,tV h1,vN h2,i2,(sO C elt _ _ h4).ev,Fk C cs _ h5⟩
theorem Ff{P:Op→Prop}{op:Op}(h:DX op=true)(k:P .sub):P op:=by
 cases op with
 | sub=>exact k
 | _=>exact absurd h Bool.false_ne_true
theorem Fc(C:Cx R d call){i:Nat}{x:Str}{q p:Pos}{pe:PySem.Expr}(hc:eL lx i x=true)(e:E):side R e lx pe=true→eK R call lx d (n+1) (.asg i e) (.Assign [.Name x q] (pr R e pe) p) :=
 F6 (R:=R) (pe:=pe) (P:=fun e=>side R e lx pe=true→eK R call lx d (n+1) (.asg i e) (.Assign [.Name x q] (pr R e pe) p)) (fun e hn h=>GJ hc hn (sO C e lx pe h).ev) (fun _ _ _ _ _ _ h=>Fb C.ok hc (Cr C h)) e
theorem Iu(C:Cx R d call)(po:u4 R)(ht:tr=true→d=100)(ss:List S):∀ (st:List PySem.Stmt),vU R tr lx ss st=true→gA R call lx d (n+1) ss (Ec R ss st):=by
 refine S.rec_1 (motive_1:=fun s=>∀ (st:PySem.Stmt),DC R tr lx s st=true→eK R call lx d (n+1) s (HX R s st)) (motive_2:=fun ss=>∀ (st:List PySem.Stmt),vU R tr lx ss st=true→gA R call lx d (n+1) ss (Ec R ss st)) ?_ ?_ ?_ ?_ ?_ ?_ ?_ ?_ ?_ ?_ ?_ ?_ ?_ ?_ ?_ ?_ ?_ ?_ ss
 case refine_1=>exact fun i e st h=>ar h fun h1 h2=>Fc C h1 e h2
 case refine_2=>exact fun ts e st h=>ar h fun h h'=>ar h fun h1 h2=>ar h' fun h3 h=>ar h fun h4 h5=>ar h1 fun h1 h=>ar h fun _ h6=>ES (wg h1 h6) (of_decide_eq_true h2) (ur h3) (CR h4) (sO C e lx _ h5).ev
 case refine_3=>exact fun o a e st h=>ar h fun h h'=>ar h fun h1 h2=>ar h' fun h3 h4=>EN C.ok C.pk (Nat.blt_eq▸h1) (ur h2) (sO C o lx _ h3).ev (sO C e lx _ h4).ev
 case refine_4=>exact fun o k e st h=>ar h fun h1 h=>ar h fun h2 h=>ar h fun h3 h4=>EA C.ok (ur h1) (sO C o lx _ h2).ev (sO C k lx _ h3).ev (sO C e lx _ h4).ev
 case refine_5=>exact fun o a op e st h=>ar h fun h h'=>ar h fun h1 h2=>ar h' fun h3 h4=>Ff (P:=fun op=>eK R call lx d (n+1) (.augA o a op e) (HX R (.augA o a .sub e) st)) h1 (Fw C.ok C.pk C.hc (Nat.blt_eq▸h2) (sO C o lx _ h3).ev (sO C e lx _ h4).ev)
 case refine_6=>exact fun e st h=>ar h fun h1 h2=>Fe (ur h1) (sO C e lx _ h2).ev
 case refine_7=>exact fun e st h=>Gw (sO C e lx _ h).ev
 case refine_8=>exact fun c b o q r st h=>ar h fun h1 h=>ar h fun h2 h3=>FO (sO C c lx _ h1).te (q _ h2) (r _ h3)
 case refine_9=>exact fun c b q st h=>ar h fun h1 h2=>FY (sO C c lx _ h1).te (q _ h2)
 case refine_10=>exact fun pt p k es b q st h=>ar h fun h1 h=>ar h fun h2 h3=>(zh C.ok h2 fun qs h=>Fk C es qs h).elim fun i1 i2=>G1 C.ok i1 (vN h1) i2 (q _ h3)
 case refine_11=>exact fun e st h=>ar h fun h1 h2=>CJ C.ok po h1 (.cons (sO C e lx _ h2) .nil)
 case refine_12=>exact fun i e j due st h=>ar h fun h h'=>ar h fun h1 h2=>ar h1 fun h1 h3=>ar h2 fun h4 h5=>ar h' fun h h6=>ar h fun h7 h8=>FG C.ok po (ht h1) h4 (ur h3) (sO C e lx _ h6).ev h5 h7 h8
 case refine_13=>exact fun _ _=>GN
 case refine_14=>exact fun _ _=>E1
 case refine_15=>exact fun _ _=>EB
 case refine_16=>exact fun _ _ _ _ _ _ _ _ _ _ _ _ _ h=>h.elim
 case refine_17=>exact fun _ _=>G8
 case refine_18=>exact fun a ss q r st h=>ar h fun h1 h2=>EP (q _ h1) (r _ h2)
end
noncomputable def H4(d:Data):FuncData:=Data.casesOn (motive:=fun _=>FuncData) d default (fun _=>default) (fun _ _=>default) (fun _ _=>default) (fun _ _ _=>default) (fun _ _=>default) (fun _=>default) (fun f=>f) (fun _=>default) (fun _=>default) default
noncomputable def Am(b:FuncBody):List PySem.Stmt:=match b with
 | .stmts x=>x
 | _=>[]
noncomputable def E3(R:Rt)(f:Nat):PySem.Obj:=(R.K.lookup (R.fa f)).getD default
noncomputable def BF(R:Rt)(f:Nat):FuncData:=H4 (E3 R f).data
noncomputable def Hh(R:Rt)(F:Fn)(f:Nat):List PySem.Stmt:=Ec R F.body (Am (BF R f).body)
noncomputable def Eu(R:Rt)(F:Fn)(f:Nat):FuncData:={ BF R f with body:=.stmts (Hh R F f),scope:=⟨.function,(BF R f).scope.names,false,false,(BF R f).scope.more⟩,globals:=mainGlobals,closure:=[],builtins:=builtinsNs }
noncomputable def y8(R:Rt)(f:Nat):List Str:=(BF R f).params.args.map (·.arg)
noncomputable def Ez(R:Rt)(F:Fn)(f:Nat):bN:=⟨(BF R f).scope.names,F.nm⟩
noncomputable def Hg(R:Rt)(f:Nat):List Value:=(((peek R.K ⟨R.M.prog,R.M.w.params⟩ (seqItems? (BF R f).defaults)).getD none).getD #[]).toList
noncomputable def GE(R:Rt)(F:Fn)(f m:Nat):List Value:=(Hg R f).drop ((Hg R f).length - (F.np - m))
noncomputable def Hr(nm:List (Option Str))(ps:List Str)(i:Nat):Bool:=Option.casesOn (motive:=fun _=>Bool) (nm[i]?.join) true fun y=>(Nat.ble ps.length i||ps[i]?==some y)&&Nat.beq (nm.idxOf (some y)) i
noncomputable def Im(R:Rt)(F:Fn)(f:Nat):Bool :=
 (keepIn R.K (.ref (R.fa f))&&(codeIn R.K (BF R f).code (BF R f).qualname&&vU R (Nat.beq f 102) (Ez R F f) F.body (Am (BF R f).body))) &&
 ((decide (y8 R f).Nodup&&((y8 R f).all (fun x=>(Ez R F f).names.lookup x==some .local||(Ez R F f).names.lookup x==some .cell)&&decide ((Ez R F f).names.map (·.1)).Nodup)) &&
 (((List.range F.nm.length).all (Hr F.nm (y8 R f))&&Nat.beq (y8 R f).length F.np)&&(Nat.beq F.dv.length (Hg R f).length&&(F.dv.zip (Hg R f)).all fun p=>gN R p.1 p.2)))
noncomputable def DQ:Fn:=⟨2,[some "self",some "told"],[.none],[.setA (.var 0) 0 (.var 1)]⟩
noncomputable def oQ:List (Fn×Nat):=(DQ,104) :: HO.zipIdx
structure Hp(R:Rt)(q:Fn×Nat):Prop where
 obj:R.K.lookup (R.fa q.2)=some ⟨(E3 R q.2).cls,(E3 R q.2).dict,.func (Eu R q.1 q.2),(E3 R q.2).slots⟩
 chk:Im R q.1 q.2=true
 bnd:∀ {j},j≤q.1.dv.length→∀ S g,peek R.K S (bindArgs (Eu R q.1 q.2) ⟨(List.range (q.1.np - j)).map g,[]⟩)=some ((y8 R q.2).zip ((List.range (q.1.np - j)).map g++GE R q.1 q.2 (q.1.np - j)))
section
variable{R:Rt}{h:Heap}{ρ:List Addr}
theorem Dq:∀ {vs:List V} {xs:List Value},vs.length=xs.length→((vs.zip xs).all fun p=>gN R p.1 p.2)=true→∀ n,VRels R h ρ (vs.drop n) (xs.drop n):=by
 intro vs
 induction vs with
 | nil =>
  intro xs hl _ n
  cases xs with
  | nil=>rw [List.drop_nil,List.drop_nil];exact .nil
  | cons _ _=>exact absurd hl.symm (Nat.succ_ne_zero _)
 | cons v vs ih =>
  intro xs hl ha n
  cases xs with
  | nil=>exact absurd hl (Nat.succ_ne_zero _)
  | cons x xs =>
   refine ar ha fun h1 h2=>?_
   cases n with
   | zero=>exact .cons (mC h1) (ih (Nat.succ.inj hl) h2 0)
   | succ n=>exact ih (Nat.succ.inj hl) h2 n
theorem B0(l:List Value):l=(List.range l.length).map fun i=>l.getD i .none:=by
 refine List.ext_getElem ((List.length_map ..).trans List.length_range).symm fun i h1 h2=>?_
 rw [List.getElem_map,List.getElem_range,List.getD_eq_getElem?_getD,List.getElem?_eq_getElem h1];rfl
theorem BU(F:Fn)(k:Nat):F.defs k=F.dv.drop (F.dv.length - (F.np - k)):=by
 unfold Fn.defs
 cases F.dv with
 | nil=>exact List.drop_nil.symm
 | cons _ _=>rfl
theorem vg{nm:List (Option Str)}{ps:List Str}(h:(List.range nm.length).all (Hr nm ps)=true){i:Nat}{y:Str}(e:nm[i]? = some (some y)):(i < ps.length→ps[i]? = some y)∧nm.idxOf (some y)=i:=by
 have z:=List.all_eq_true.mp h i (List.mem_range.mpr (List.getElem?_eq_some_iff.mp e).1)
 unfold Hr at z
 rw [e] at z
 exact ar z fun h1 h2=>⟨fun hi=>((Bool.or_eq_true _ _).mp h1).elim (fun q=>absurd hi (Nat.not_lt_of_le (Nat.le_of_ble_eq_true q))) eq_of_beq,Nat.eq_of_beq_eq_true h2⟩
theorem DK{f:Nat}{F:Fn}(K:Hp R (F,f)):ve R f (Ez R F f) (Eu R F f) (Hh R F f) (y8 R f) :=
 ar K.chk fun h h'=>ar h fun _ h=>ar h fun h2 _=>ar h' fun h h'=>ar h fun h3 h=>ar h fun h4 h5=>ar h' fun h _=>ar h fun h6 _ =>
  ⟨⟨_,_,_,K.obj⟩,rfl,rfl,rfl,rfl,rfl,rfl,rfl,h2,rfl,of_decide_eq_true h3,fun x m=>((Bool.or_eq_true _ _).mp (List.all_eq_true.mp h4 x m)).imp eq_of_beq eq_of_beq,of_decide_eq_true h5,fun _ _ hi ey=>(vg h6 ey).1 hi,fun _ _ _ e1 e2=>(vg h6 e1).2.symm.trans (vg h6 e2).2⟩
theorem uH{f m:Nat}{F:Fn}(K:Hp R (F,f))(h1:m≤F.np)(h2:F.np≤m+F.dv.length):uv R (Eu R F f) (y8 R f) m (F.defs m):=by
 intro rvs hr
 have hm:F.np - (F.np - m)=m:=Nat.sub_sub_self h1
 have z:=K.bnd (j:=F.np - m) (Nat.sub_le_iff_le_add'.mpr h2)
 rw [hm] at z
 refine ar K.chk fun _ h=>ar h fun _ h=>ar h fun h h'=>ar h fun _ h6=>ar h' fun h7 h8=>?_
 have h7:=Nat.eq_of_beq_eq_true h7
 have hl:=B0 rvs
 rw [hr] at hl
 refine ⟨GE R F f m,fun S=>?_,?_,fun h ρ=>?_⟩
 · rw [hl];exact z S _
 · rw [List.length_append,hr,Nat.eq_of_beq_eq_true h6]
   unfold GE
   rw [List.length_drop,← h7,Nat.sub_sub_self (Nat.sub_le_iff_le_add'.mpr h2)]
   exact (Nat.add_sub_cancel' h1).symm
 · rw [BU]
   unfold GE
   rw [h7]
   exact Dq h7 h8 _
theorem Cg(ok:aZ R)(pk:yt R)(po:u4 R)(K:∀ q∈oQ,Hp R q)(d:Nat):eP R d (Call d):=by
 induction d with
 | zero=>exact fun h=>h.go.elim
 | succ d ih =>
  intro f vs σ Q X h
  refine h.go.elim fun F w=>?_
  have K:=K (F,f) (.tail _ (List.mem_zipIdx_iff_getElem?.mpr w.1))
  have B:=K.chk
  refine ar B fun B _=>ar B fun h1 B=>ar B fun _ h3=>⟨h1,fun H Fr r k kx=>?_⟩
  exact Gn ok (DK K) (uH K w.2.1 w.2.2.1) rfl (Iu ⟨ok,pk,ih⟩ po (fun q=>w.2.2.2.1 (Nat.eq_of_beq_eq_true q)) F.body _ h3) w.2.2.2.2 H Fr r k kx
end
end
section
open PySem PySem.Calls PyProof.Rows PySem.W
theorem Call.go{d f:Nat}{vs:List V}{σ:List O}{Q:ag}{X:ak}(F:Fn)(e:HO[f]? = some F)(h1:Nat.ble vs.length F.np=true)(h2:Nat.ble F.np (vs.length+F.dv.length)=true)(h3:Nat.beq f zO=false)
 (h:vcSs (Call d) F.body (F.env (vs++F.defs vs.length)) σ (eO Q) X):Call (d+1) f vs σ Q X :=
 ⟨F,e,Nat.le_of_ble_eq_true h1,Nat.le_of_ble_eq_true h2,fun q=>absurd (q▸h3) (by decide),h⟩
section
variable{call:aw}{env:au}{σ:List O}{Q:ag}{QF:aF}{QB:aX}{X:ak}{t:C1}{b:yw}
theorem Cm.eqI{i j:Int}(h1:i=j→QB true σ)(h2:i≠j→QB false σ):Cm σ QB .eq (.int i) (.int j):=.eq (.val .int) (if h:i=j then decide_eq_true h▸h1 h else decide_eq_false h▸h2 h)
theorem Cm.eqB{i j:ae}(h1:i=j→QB true σ)(h2:i≠j→QB false σ):Cm σ QB .eq (.bytes i) (.bytes j):=.eq (.val .bytes) (if h:i=j then decide_eq_true h▸h1 h else decide_eq_false h▸h2 h)
theorem Cm.eqS{i j:Nat}(h1:i=j→QB true σ)(h2:i≠j→QB false σ):Cm σ QB .eq (.str i) (.str j):=.eq (.val .str) (if h:i=j then decide_eq_true h▸h1 h else decide_eq_false h▸h2 h)
theorem Cm.neI{i j:Int}(h1:i=j→QB false σ)(h2:i≠j→QB true σ):Cm σ QB .ne (.int i) (.int j):=.ne (.val .int) (if h:i=j then decide_eq_true h▸h1 h else decide_eq_false h▸h2 h)
theorem Cm.neB{i j:ae}(h1:i=j→QB false σ)(h2:i≠j→QB true σ):Cm σ QB .ne (.bytes i) (.bytes j):=.ne (.val .bytes) (if h:i=j then decide_eq_true h▸h1 h else decide_eq_false h▸h2 h)
theorem fE{c n:UInt8}{k:Int}(e:(n.toNat:Int)=k):(c.toNat:Int)=k↔c=n:=e▸⟨fun h=>UInt8.toNat_inj.mp (Int.ofNat.inj h),fun h=>h▸rfl⟩
theorem Cm.eqC{c:UInt8}{k:Int}(n:UInt8)(h1:c=n→QB true σ)(h2:c≠n→QB false σ)(e:(n.toNat:Int)=k:=by rfl):Cm σ QB .eq (.int c.toNat) (.int k) :=
 .eqI (fun q=>h1 ((fE e).mp q)) fun q=>h2 fun z=>q ((fE e).mpr z)
theorem Cm.neC{c:UInt8}{k:Int}(n:UInt8)(h1:c=n→QB false σ)(h2:c≠n→QB true σ)(e:(n.toNat:Int)=k:=by rfl):Cm σ QB .ne (.int c.toNat) (.int k) :=
 .neI (fun q=>h1 ((fE e).mp q)) fun q=>h2 fun z=>q ((fE e).mpr z)
theorem rT(c:UInt8):∀ b:ae,ia (c.toNat:Int) b=b.contains c
 | []=>rfl
 | x :: b=>by
  rw [List.contains_cons,← rT c b,show (c==x)=decide ((x.toNat:Int)=c.toNat) from ?_]
  · rfl
  · exact Bool.eq_iff_iff.mpr ⟨fun h=>decide_eq_true (eq_of_beq h▸rfl),fun h=>((fE rfl).mp (of_decide_eq_true h))▸BEq.rfl⟩
theorem D2(c:UInt8):(c.toNat:Int) < 256:=Int.ofNat_lt.mpr c.toNat_lt
theorem Cm.inC{c:UInt8}{b:ae}{r:Bool}(e:b.contains c=r)(h:QB r σ):Cm σ QB .isin (.int c.toNat) (.bytes b):=.inI (Int.natCast_nonneg _) (D2 c) ((rT c b).trans e) h
theorem Cm.ninC{c:UInt8}{b:ae}{r:Bool}(e:b.contains c=r)(h:QB (!r) σ):Cm σ QB .notIn (.int c.toNat) (.bytes b):=.ninI (Int.natCast_nonneg _) (D2 c) ((rT c b).trans e) h
theorem Cm.in2{lo hi x:Int}{r:Ev}(hr:∀ K:ag,K (.int hi) σ→r env σ K X)(h1:lo≤x∧x≤hi→QB true σ)(h2:¬(lo≤x∧x≤hi)→QB false σ):Cm σ (zv .le (.int x) r env QB X) .le (.int lo) (.int x) :=
 .le (fun q=>hr _ (.le (fun q'=>h1 ⟨q,q'⟩) fun q'=>h2 fun z=>q' z.2)) fun q=>h2 fun z=>q z.1
theorem Cm.inN(a b:Nat){n:Nat}{lo hi:Int}{r:Ev}(h1:a≤n∧n≤b→QB true σ)(h2:¬(a≤n∧n≤b)→QB false σ)(hr:∀ K:ag,K (.int hi) σ→r env σ K X:=by exact fun _ h=>h)(ea:(a:Int)=lo:=by rfl)(eb:(b:Int)=hi:=by rfl) :
 Cm σ (zv .le (.int n) r env QB X) .le (.int lo) (.int n):=by
 subst ea eb
 exact .in2 hr (fun q=>h1 ⟨Int.ofNat_le.mp q.1,Int.ofNat_le.mp q.2⟩) fun q=>h2 fun z=>q ⟨Int.ofNat_le.mpr z.1,Int.ofNat_le.mpr z.2⟩
noncomputable def jk(P:au→List O→Prop)(Q:aF):aF
 | .next,env,σ=>P env σ
 | .brk,env,σ=>Q .brk env σ
 | .cont,env,σ=>Q .cont env σ
 | .ret v,env,σ=>Q (.ret v) env σ
theorem zx:∀ (k:Nat) (ss:List S) (env:au) (σ:List O),vcSs call (ss.take k) env σ (jk (fun env σ=>vcSs call (ss.drop k) env σ QF X) QF) X=vcSs call ss env σ QF X
 | 0,_,_,_=>rfl
 | _+1,[],_,_=>rfl
 | k+1,s :: ss,env,σ=>congrArg (fun K=>HP call s env σ K X) (funext fun fl=>funext fun env=>funext fun σ=>by
  cases fl with
  | next=>exact zx k ss env σ
  | _=>rfl)
theorem d6(k:Nat){ss:List S}(h:∀ P:au→List O→Prop,(∀ env σ,vcSs call (ss.drop k) env σ QF X→P env σ)→vcSs call (ss.take k) env σ (jk P QF) X):vcSs call ss env σ QF X :=
 zx k ss env σ▸h _ fun _ _ h=>h
theorem tT{a b:yw}(h:a env σ QF X):xr a b env QF X true σ:=h
theorem Hj{r:C1}(h:QB false σ):FL true r env QB X false σ:=h
theorem tF{a b:yw}(h:b env σ QF X):xr a b env QF X false σ:=h
theorem DY{i:Int}(h:i.natAbs < 2 ^ 64):GO i:=Nat.lt_trans h (by decide +kernel)
theorem kB{i:Int}(h:i.natAbs < 2 ^ 64):oY i:=Nat.lt_trans h (by decide +kernel)
theorem kh{α:Type}{i:Nat}{elt:Ev}{live:bn}{QL:aL}(f:α→V)(p:α→Bool)(g:α→V)(hl:live σ) :
 ∀ (l:List α) (acc:List V),(∀ a∈l,∀ K:aX,K (p a) σ→t (env.set i (some (f a))) σ K fun _ _=>False)→(∀ a∈l,p a=true→∀ K:ag,K (g a) σ→elt (env.set i (some (f a))) σ K fun _ _=>False) →
  acc.length+l.length≤1000000→QL (acc++(l.filter p).map g) σ→cF (aR false [i]) t elt live env QL (l.map f) acc σ:=by
 intro l
 induction l with
 | nil=>intro acc _ _ _ h;exact ⟨hl,(List.append_nil acc)▸h⟩
 | cons x l ih =>
  intro acc ht he hn h
  have r:=fun acc=>ih acc (fun a m=>ht a (.tail _ m)) (fun a m=>he a (.tail _ m))
  refine ⟨hl,_,rfl,ht x (.head _) _ ?_⟩
  rw [List.filter_cons] at h
  cases q:p x with
  | true =>
   rw [q,if_pos rfl] at h
   exact he x (.head _) q _ ⟨Nat.le_trans (Nat.le_add_right ..) hn,r _ (by rw [List.length_append];exact Nat.add_right_comm ..▸hn) (List.append_assoc ..▸h)⟩
  | false =>
   rw [q,if_neg Bool.false_ne_true] at h
   exact r _ (Nat.le_of_succ_le hn) h
theorem xj{α:Type}{i:Nat}{elt:Ev}{live:bn}{QL:aL}(f g:α→V)(hl:live σ)(l:List α)(he:∀ a∈l,∀ K:ag,K (g a) σ→elt (env.set i (some (f a))) σ K fun _ _=>False)(hn:l.length≤1000000)(h:QL (l.map g) σ) :
 cF (aR false [i]) (vcBt call true []) elt live env QL (l.map f) [] σ :=
 kh f (fun _=>true) g hl l [] (fun _ _ _ h=>h) (fun a m _=>he a m) ((Nat.zero_add _).symm▸hn) (by rw [List.filter_eq_self.mpr fun _ _=>rfl];exact h)
theorem DI.nil{i j:Nat}{xs:List V}(h1:σ[i]? = some (.list xs))(h2:σ[j]? = some (.list [])):DI σ (.ref i) (.ref j) xs.isEmpty:=by
 cases xs with
 | nil=>exact .list h1 h2 .nil
 | cons a r=>exact .len h1 h2 nofun
theorem Cm.eqNil{i j:Nat}{xs:List V}(h1:σ[i]? = some (.list xs))(h2:σ[j]? = some (.list []))(hT:xs=[]→QB true σ)(hF:xs≠[]→QB false σ):Cm σ QB .eq (.ref i) (.ref j):=by
 refine .eq (.nil h1 h2) ?_
 cases xs with
 | nil=>exact hT rfl
 | cons a r=>exact hF nofun
theorem Cm.neNil{i j:Nat}{xs:List V}(h1:σ[i]? = some (.list xs))(h2:σ[j]? = some (.list []))(hT:xs=[]→QB false σ)(hF:xs≠[]→QB true σ):Cm σ QB .ne (.ref i) (.ref j):=by
 refine .ne (.nil h1 h2) ?_
 cases xs with
 | nil=>exact hT rfl
 | cons a r=>exact hF nofun
end
theorem ux{α:Type}{l:List α}{a b:α}:(l++[a]).set l.length b=l++[b]:=by
 rw [List.set_append_right _ _ (Nat.le_refl _),Nat.sub_self];rfl
theorem zI{α:Type}{l t:List α}{n k:Nat}(h:n=l.length+k):(l++t)[n]? = t[k]?:=by subst h;rw [List.getElem?_append_right (Nat.le_add_right ..),Nat.add_sub_cancel_left]
theorem aa{α:Type}{l:List α}{a:α}:(l++[a])[l.length]? = some a:=zI (k:=0) rfl
theorem bm{α:Type}{l:List α}{i:Nat}{a:α}(h:l[i]? = some a):i < l.length:=(List.getElem?_eq_some_iff.mp h).1
theorem ac{α:Type}{l t:List α}{i:Nat}{a:α}(h:l[i]? = some a):(l++t)[i]? = some a:=List.getElem?_append_left (bm h)▸h
def Ge(σ σ':List O):Prop:=∀ (i:Nat) (o:O),σ[i]? = some o→σ'[i]? = some o
section
variable{σ σ' σ'' τ τ2 τ3 τ4:List O}
theorem Ge.rfl:Ge σ σ:=fun _ _ e=>e
theorem Ge.trans(a:Ge σ σ')(b:Ge σ' σ''):Ge σ σ'':=fun i o e=>b i o (a i o e)
theorem Ge.a1:Ge σ (σ++τ):=fun _ _ e=>ac e
theorem Ge.a2:Ge σ (σ++τ++τ2):=fun _ _ e=>ac (ac e)
theorem Ge.a3:Ge σ (σ++τ++τ2++τ3):=fun _ _ e=>ac (ac (ac e))
theorem Ge.a4:Ge σ (σ++τ++τ2++τ3++τ4):=fun _ _ e=>ac (ac (ac (ac e)))
end
noncomputable def aH(c:UInt8):Bool:=([0,9,10,12,13,32]:ae).contains c
noncomputable def b6(c:UInt8):Bool:=([40,41,60,62,91,93,123,125,47,37]:ae).contains c
noncomputable def bE(c:UInt8):Bool:=aH c||c==4
noncomputable def kF(n:Nat):Option Nat:=if 48≤n∧n≤57 then some (n - 48) else if 65≤n∧n≤70 then some (n - 55) else if 97≤n∧n≤102 then some (n - 87) else none
noncomputable def dV(n:Nat):Option Nat:=if 48≤n∧n≤57 then some (n - 48) else if 65≤n∧n≤90 then some (n - 55) else if 97≤n∧n≤122 then some (n - 87) else none
noncomputable def dW:Option Nat→V
 | some n=>.int n
 | none=>.none
noncomputable def dg:Nat→Nat→ae
 | 0,_=>[]
 | k+1,n=>UInt8.ofNat (48+n % 10) :: if n < 10 then [] else dg k (n / 10)
noncomputable def eS(n:Nat):ae:=(dg 40 n).reverse
noncomputable def qT(n:Int):ae:=if n < 0 then [45] else []
noncomputable def cg(n:Int):ae:=qT n++eS n.natAbs
theorem vD:∀ {k n:Nat},(dg k n).length≤k
 | 0,_=>Nat.le_refl 0
 | k+1,n=>Nat.succ_le_succ (by split;exact Nat.zero_le _;exact vD)
theorem Il(n:Nat):((UInt8.ofNat (48+n % 10)).toNat:Int)=48+(n:Int) % 10:=by
 rw [UInt8.toNat_ofNat_of_lt' (Nat.lt_of_lt_of_le (Nat.add_lt_add_left (Nat.mod_lt n (show 0 < 10 by decide)) 48) (by decide))];rfl
theorem c8{a b:ae}:av (a++b)=av a++av b:=List.map_append
theorem bI{a:ae}:(av a).length=a.length:=List.length_map _
section
variable{d n:Nat}{c:UInt8}{σ:List O}{Q:ag}{X:ak}
theorem iX(h:Q (.bool (aH c)) σ):Call (d+1) wj [.int c.toNat] σ Q X :=
 .go lJ rfl rfl rfl rfl (.inC rfl h)
theorem dK(h:Q (.bool (b6 c)) σ):Call (d+1) mT [.int c.toNat] σ Q X :=
 .go fV rfl rfl rfl rfl (.inC rfl h)
theorem pI(h:Q (.bool (c==10||c==13)) σ):Call (d+1) pm [.int c.toNat] σ Q X:=by
 refine .go gI rfl rfl rfl rfl (.eqC 10 (fun q=>?_) fun q=>.eqC 13 (fun r=>?_) fun r=>?_)
 · subst q;exact h
 · subst r;exact h
 · rw [beq_false_of_ne q,beq_false_of_ne r] at h;exact h
theorem nU(h1:48≤n∧n≤55→Q (.bool true) σ)(h2:¬(48≤n∧n≤55)→Q (.bool false) σ):Call (d+1) vc [.int n] σ Q X :=
 .go lh rfl rfl rfl rfl (.inN 48 55 h1 h2)
theorem i4{a n:Nat}(h:a≤n){b:Int}(e:(a:Int)=b:=by rfl):(n:Int) - b=(n - a:Nat):=e▸(Int.ofNat_sub h).symm
theorem sV(h:Q (dW (kF n)) σ):Call (d+1) uz [.int n] σ Q X:=by
 unfold kF at h
 refine .go jN rfl rfl rfl rfl (.inN 48 57 (fun q=>.sub (i4 q.1) ?_) fun q1=>.inN 65 70 (fun q=>.sub (i4 (a:=55) (Nat.le_trans (by decide) q.1)) ?_) fun q2=>.inN 97 102 (fun q=>.sub (i4 (a:=87) (Nat.le_trans (by decide) q.1)) ?_) fun q3=>?_)
 · rw [if_pos q] at h;exact h
 · rw [if_neg q1,if_pos q] at h;exact h
 · rw [if_neg q1,if_neg q2,if_pos q] at h;exact h
 · rw [if_neg q1,if_neg q2,if_neg q3] at h;exact h
theorem pA(h:Q (dW (dV n)) σ):Call (d+1) pH [.int n] σ Q X:=by
 unfold dV at h
 refine .go g8 rfl rfl rfl rfl (.inN 48 57 (fun q=>.sub (i4 q.1) ?_) fun q1=>.inN 65 90 (fun q=>.sub (i4 (a:=55) (Nat.le_trans (by decide) q.1)) ?_) fun q2=>.inN 97 122 (fun q=>.sub (i4 (a:=87) (Nat.le_trans (by decide) q.1)) ?_) fun q3=>?_)
 · rw [if_pos q] at h;exact h
 · rw [if_neg q1,if_pos q] at h;exact h
 · rw [if_neg q1,if_neg q2,if_pos q] at h;exact h
 · rw [if_neg q1,if_neg q2,if_neg q3] at h;exact h
noncomputable def at_(ss:List S)(k:Nat):S:=(ss.drop k).headD .dead
noncomputable def sc:S→E | .whl c _=>c | .ife c _ _=>c | _=>.cst .none
noncomputable def qA:S→List S | .whl _ b=>b | .ife _ b _=>b | .forr _ _ _ _ b=>b | _=>[]
noncomputable def so:S→List S | .ife _ _ b=>b | _=>[]
abbrev H2(call:aw)(s:S)(P:au→List O→Prop)(QF:aF)(X:ak):Prop:=∀ env σ,vcT call (sc s) env σ (HF (vcSs call (qA s)) env P QF X) X→P env σ
theorem Bt{P:au→List O→Prop}{QF:aF}{n:Int}{y:ae}(hP:H2 (Call d) (at_ b8 3) P QF X)(h:QF .next [some (.int n),some (.int 0),some (.ref σ.length)] (σ++[.list (av y)])) :
 ∀ (k a:Nat) (z:Int) (x:ae),z=a→x.length+k≤100→x++(if a=0 then [] else dg k a)=y→a < 10 ^ k→P [some (.int n),some (.int z),some (.ref σ.length)] (σ++[.list (av x)]):=by
 intro k
 induction k with
 | zero =>
  intro a z x hz hl e ha
  have a0:a=0:=Nat.lt_one_iff.mp ha
  subst a0
  refine hP _ _ (.gt (fun q=>absurd (hz▸q) (by decide)) fun q=>?_)
  rw [if_pos rfl,List.append_nil] at e
  exact hz▸e▸h
 | succ k ih =>
  intro a z x hz hl e ha
  refine hP _ _ (.gt (fun q=>?_) fun q=>?_)
  · refine .lApp aa (.mod (by decide) (hz▸rfl) (.add (Il a).symm (.lApp aa (bI▸Nat.le_trans (Nat.le_trans (Nat.le_add_right ..) hl) (by decide)) (c8 (b:=[_])).symm (.fdiv (by decide) (DY (by decide)) rfl ?_))))
    rw [ux]
    refine ih (a / 10) _ _ (hz▸rfl) (by rw [List.length_append];exact Nat.le_trans (Nat.le_of_eq (Nat.add_right_comm ..)) hl) ?_ (Nat.div_lt_of_lt_mul (Nat.mul_comm ..▸ha))
    rw [if_neg (Nat.ne_of_gt (Int.ofNat_lt.mp (hz▸q:((0:Nat):Int) < a))),dg] at e
    rw [List.append_assoc,← e]
    by_cases h1:a < 10
    · rw [if_pos h1,if_pos (Nat.div_eq_of_lt h1),List.append_nil]
    · rw [if_neg h1,if_neg fun w=>h1 ((Nat.div_eq_zero_iff_lt (by decide)).mp w)];rfl
  · have a0:a=0:=Nat.eq_zero_of_not_pos fun w=>q (hz▸Int.ofNat_lt.mpr w)
    subst a0
    rw [if_pos rfl,List.append_nil] at e
    exact hz▸e▸h
theorem uU{a:ae}:(av a).reverse=av a.reverse:=List.map_reverse.symm
theorem cS{n:Int}(hn:n.natAbs < 10 ^ 40)(h:∀ σ',Ge σ σ'→Q (.bytes (cg n)) σ'):Call (d+1) eV [.int n] σ Q X:=by
 have fin:∀ y:ae,y.length≤100→y.reverse=cg n→vcSs (Call d) (b8.drop 5) [some (.int n),some (.int 0),some (.ref σ.length)] (σ++[.list (av y)]) (eO Q) X:=fun y hl e=>by
  refine .list aa (bI▸Nat.le_trans hl (by decide)) uU (.bytesL aa rfl (by rw [List.length_reverse];exact Nat.le_trans hl (by decide)) ?_)
  rw [e]
  exact h _ .a2
 have main:∀ N:Nat,N < 10 ^ 40→N=n.natAbs→∀ z:Int,z=N→vcSs (Call d) (b8.drop 1) [some (.int n),some (.int z),none] σ (eO Q) X:=fun N hN hn z hz=>by
  have hl:=vD (k:=40) (n:=N)
  refine .mod (by decide) (hz▸rfl) (.add (Il N).symm (.fdiv (by decide) (DY (by decide)) rfl ⟨fun P hP=>Bt (y:=dg 40 N) hP (.lt (fun q=>?_) fun q=>?_) 39 (N / 10) _ [UInt8.ofNat (48+N % 10)] (hz▸rfl) (show 1+39≤100 by decide) ?_ (Nat.div_lt_of_lt_mul (Nat.mul_comm ..▸hN))⟩))
  · refine .lApp aa (.lApp aa (bI▸Nat.le_trans hl (by decide)) (c8 (b:=[45])).symm ?_)
    rw [ux]
    exact fin _ (by rw [List.length_append];exact Nat.succ_le_succ (Nat.le_trans hl (by decide))) (by rw [List.reverse_append,cg,qT,if_pos q,← hn];rfl)
  · exact fin _ (Nat.le_trans hl (by decide)) (by rw [cg,qT,if_neg q,← hn];rfl)
  · show _ :: _=_ :: _
    by_cases h1:N < 10
    · rw [if_pos h1,if_pos (Nat.div_eq_of_lt h1)];rfl
    · rw [if_neg h1,if_neg fun w=>h1 ((Nat.div_eq_zero_iff_lt (by decide)).mp w)];rfl
 exact .go eB rfl rfl rfl rfl (.ge (fun q=>main _ hn rfl _ (Int.natAbs_of_nonneg q).symm) fun q=>main _ hn rfl _ (Int.ofNat_natAbs_of_nonpos (Int.le_of_lt (Int.not_le.mp q))).symm)
end
noncomputable def lim:ae:=[108,105,109,105,116,99,104,101,99,107]
noncomputable def zU(n b:Int):Int:=if n < 0 then -((2 * (n.natAbs:Int)+b) / (2 * b)) else (2 * (n.natAbs:Int)+b) / (2 * b)
noncomputable def val(b:Nat):List Nat→Nat
 | []=>0
 | x :: l=>x * b ^ l.length+val b l
theorem jz(b:Nat):∀ l1 l2:List Nat,val b (l1++l2)=val b l1 * b ^ l2.length+val b l2
 | [],l2=>by rw [val,Nat.zero_mul,Nat.zero_add];rfl
 | x :: l1,l2=>by
  show x * b ^ (l1++l2).length+val b (l1++l2)=(x * b ^ l1.length+val b l1) * _+_
  rw [jz b l1,List.length_append,Nat.pow_add,Nat.add_mul,Nat.mul_assoc,Nat.add_assoc]
theorem sg(b:Nat)(l:List Nat)(x:Nat):val b (l++[x])=val b l * b+x:=by
 rw [jz];show _ * b ^ 1+(x * b ^ 0+0)=_;rw [Nat.pow_one,Nat.pow_zero,Nat.mul_one];rfl
theorem vf{b:Nat}:∀ (l:List Nat),(∀ x∈l,x < b)→val b l < b ^ l.length
 | [],_=>Nat.one_pos
 | x :: l,h=>Nat.lt_of_lt_of_le (Nat.add_lt_add_left (vf l fun y m=>h y (.tail _ m)) _)
  (Nat.succ_mul ..▸Nat.pow_succ'▸Nat.mul_le_mul_right (b ^ l.length) (h x (.head _)))
theorem mz{b n:Nat}(hb:b≤36)(hn:n≤1000):b ^ n < 2 ^ 20000 :=
 Nat.lt_of_le_of_lt (Nat.le_trans (Nat.pow_le_pow_left hb n) (Nat.pow_le_pow_right (by decide) hn)) (by decide +kernel:36 ^ 1000 < 2 ^ 20000)
theorem Dk{b:Nat}{l:List Nat}(hb:b≤36)(hn:l.length≤1000)(h:∀ x∈l,x < b):oY (val b l:Int):=Nat.lt_trans (vf l h) (mz hb hn)
inductive lR where
 | no | lim | int (n:Int) | real (m:Int)
noncomputable def lR.out(x:lR)(Q:ag)(X:ak)(σ:List O):Prop:=match x with
 | .no=>Q .none σ
 | .lim=>X Mine.lim σ
 | .int n=>Q (.tup [.str bF,.int n]) σ
 | .real m=>Q (.tup [.str dB,.int m]) σ
theorem lR.mono{x:lR}{Q Q':ag}{X:ak}{σ:List O}(h:x.out Q X σ)(hq:∀ v,Q v σ→Q' v σ):x.out Q' X σ:=by
 cases x with
 | lim=>exact h
 | _=>exact hq _ h
noncomputable def chk(m:Int):lR:=if m.natAbs≤1000000000000000000000 then .real m else .lim
noncomputable def g6(n:Int):lR:=if -2147483648≤n∧n≤2147483647 then .int n else chk (n * 1000000)
section
variable{d:Nat}{c:UInt8}{σ:List O}{Q:ag}{X:ak}
theorem DV{m:Int}(h:(chk m).out Q X σ)(h1:m.natAbs≤1000000000000000000000):Q (.tup [.str dB,.int m]) σ:=by
 rw [chk,if_pos h1] at h;exact h
theorem Ea{m:Int}(h:(chk m).out Q X σ)(h1:¬ m.natAbs≤1000000000000000000000):X lim σ:=by
 rw [chk,if_neg h1] at h;exact h
theorem yz{n b:Int}(hb:0 < b)(h1:oY n)(h2:oY b)(h3:GO (2 * b))(h:Q (.int (zU n b)) σ):Call (d+1) yf [.int n,.int b] σ Q X:=by
 unfold zU at h
 have e:(b.natAbs:Int)=b:=Int.natAbs_of_nonneg (Int.le_of_lt hb)
 refine .go mJ rfl rfl rfl rfl (.abs (.abs (.mul (kB (by decide)) h1 rfl (.add rfl (.mul (kB (by decide)) (e.symm▸h2) rfl (.fdiv (e.symm▸by omega) (e.symm▸h3) rfl ?_))))))
 rw [e]
 refine .lt (fun q=>?_) fun q=>?_
 · rw [if_pos q] at h
   exact .lt (fun z=>absurd z (by omega)) fun _=>.eq (.val .bool) h
 · rw [if_neg q] at h
   exact .lt (fun z=>absurd z (by omega)) fun _=>.eq (.val .bool) h
theorem ju{n:Int}(h1:-2147483648≤n∧n≤2147483647→Q (.bool true) σ)(h2:¬(-2147483648≤n∧n≤2147483647)→Q (.bool false) σ):Call (d+1) jZ [.int n] σ Q X :=
 .go dR rfl rfl rfl rfl (.in2 (fun _ h=>h) h1 h2)
theorem gK{m:Int}(h1:m.natAbs≤1000000000000000000000→Q (.int m) σ)(h2:¬ m.natAbs≤1000000000000000000000→X lim σ):Call (d+1) gr [.int m] σ Q X :=
 .go f5 rfl rfl rfl rfl (.abs (.gt (fun q=>h2 (by omega)) fun q=>h1 (by omega)))
theorem pu{n:Nat}(hn:n < 4294967296)(h:Q (.int (if n≤2147483647 then n else n - 4294967296)) σ):Call (d+1) pd [.int n] σ Q X :=
 .go gp rfl rfl rfl rfl (.mod (by decide) (n:=n) (by omega) (.le (fun q=>by rw [if_pos (by omega)] at h;exact h) fun q=>.sub rfl (by rw [if_neg (by omega)] at h;exact h)))
theorem xU{n:Int}(hn:oY n)(h1:(n * 1000000).natAbs≤1000000000000000000000→Q (.int (n * 1000000)) σ)(h2:¬ (n * 1000000).natAbs≤1000000000000000000000→X lim σ):Call (d+2) xS [.int n] σ Q X :=
 .go nI rfl rfl rfl rfl (.mul hn (kB (by decide)) rfl (gK h1 h2))
theorem gJ{n:Int}(hn:oY n)(h:(g6 n).out Q X σ):Call (d+3) nP [.int n] σ Q X:=by
 unfold g6 at h
 refine .go f9 rfl rfl rfl rfl (ju (fun q=>?_) fun q=>?_)
 · rw [if_pos q] at h;exact h
 · rw [if_neg q] at h;exact xU hn (DV h) (Ea h)
end
noncomputable def aV(l:List Nat):List V:=l.map fun n:Nat=>.int n
theorem aC{l:List Nat}:(aV l).length=l.length:=List.length_map _
section
variable{d b i:Nat}{c:UInt8}{σ:List O}{Q:ag}{X:ak}
theorem xL{QF:aF}{e2 e3:Option V}{L:List Nat}{N:Nat}(hb:b≤36)(hi:σ[i]? = some (.list (aV L)))(h:∀ e5,QF .next [some (.ref i),some (.int b),e2,e3,some (.int N),e5] σ) :
 ∀ (l:List Nat) (m a:Nat) (z:Int) (e5:Option V),z=a→a < b ^ m→m+l.length≤1000→(∀ x∈l,x < b)→a * b ^ l.length+val b l=N →
  lf (aR false [5]) (vcSs (Call d) (qA (at_ fm 2))) (fun σ'=>σ'[i]? = some (.list (aV L))) QF X (aV l) [some (.ref i),some (.int b),e2,e3,some (.int z),e5] σ:=by
 intro l
 induction l with
 | nil =>
  intro m a z e5 hz _ _ _ e
  refine ⟨hi,?_⟩
  rw [hz,show (a:Int)=N from congrArg _ (by rw [← e];exact (Nat.mul_one a).symm)]
  exact h _
 | cons y l ih =>
  intro m a z e5 hz ha hm hx e
  have hy:=hx y (.head _)
  refine ⟨hi,_,rfl,.mul (hz▸Nat.lt_trans ha (mz hb (Nat.le_trans (Nat.le_add_right ..) hm))) (kB (Nat.lt_of_le_of_lt hb (by decide))) rfl (.add rfl (ih (m+1) (a * b+y) _ _ (hz▸by simp) ?_ (Nat.add_right_comm m _ 1▸hm) (fun x k=>hx x (.tail _ k)) ?_))⟩
  · exact Nat.lt_of_lt_of_le (Nat.add_lt_add_left hy _) (Nat.succ_mul ..▸Nat.mul_le_mul_right b ha)
  · rw [← e,Nat.add_mul,Nat.mul_assoc,← Nat.pow_succ',Nat.add_assoc];rfl
theorem Hs{L K:Nat}(h:L≤2 * K)(h1:1 < L):∃ n m,m+n=L∧(L:Int) / 2=n∧n≤K∧m≤K :=
 ⟨L / 2,L - L / 2,Nat.sub_add_cancel (Nat.div_le_self ..),rfl,Nat.div_le_of_le_mul ‹_›,(Nat.lt_or_ge (L / 2) K).elim (fun q=>Nat.sub_le_iff_le_add.mpr (Nat.le_of_lt_succ (Nat.lt_of_lt_of_le (Nat.lt_mul_div_succ L (by decide)) (Nat.two_mul _▸Nat.add_le_add_right q _)))) fun q=>Nat.sub_le_iff_le_add.mpr (Nat.le_trans ‹_› (Nat.two_mul K▸Nat.add_le_add_left q K))⟩
theorem kn(hb:b≤36):∀ (k:Nat) {d i:Nat} {l:List Nat} {σ:List O} {Q:ag} {X:ak},l.length≤32 * 2 ^ k→l.length≤1000→(∀ x∈l,x < b)→σ[i]? = some (.list (aV l)) →
 (∀ σ',Ge σ σ'→Q (.int (val b l)) σ')→Call (d+k+1) kE [.ref i,.int b] σ Q X:=by
 intro k
 induction k with
 | zero =>
  intro d i l σ Q X hk hl hx hi h
  have hn:(aV l).length≤1000000:=aC▸Nat.le_trans hl (by decide)
  refine .go cE rfl rfl rfl rfl (.lenL hi hn (.gt (fun q=>?_) fun q=>.plainL hi hn (xL hb hi (fun e5=>?_) l 0 0 _ _ rfl Nat.one_pos (Nat.zero_add _▸hl) hx (by rw [Nat.zero_mul,Nat.zero_add]))))
  · rw [aC] at q;exact absurd (Int.ofNat_lt.mp q) (Nat.not_lt.mpr hk)
  · exact h _ .rfl
 | succ k ih =>
  intro d i l σ Q X hk hl hx hi h
  have hn:(aV l).length≤1000000:=aC▸Nat.le_trans hl (by decide)
  refine .go cE rfl rfl rfl rfl (.lenL hi hn (.gt (fun q=>?_) fun q=>.plainL hi hn (xL hb hi (fun e5=>?_) l 0 0 _ _ rfl Nat.one_pos (Nat.zero_add _▸hl) hx (by rw [Nat.zero_mul,Nat.zero_add]))))
  · rw [aC] at q
    obtain ⟨n,m,hs,e0,n1,m1⟩:=Hs (K:=32 * 2 ^ k) (Nat.mul_left_comm ..▸Nat.pow_succ'▸hk) (Nat.lt_trans (by decide) (Int.ofNat_lt.mp q))
    have nl:n≤1000:=Nat.le_trans (Nat.le_add_left ..) (hs▸hl)
    have ml:m≤1000:=Nat.le_trans (Nat.le_add_right ..) (hs▸hl)
    have l1:(l.take m).length=m:=List.length_take_of_le (hs▸Nat.le_add_right ..)
    have l2:(l.drop m).length=n:=by rw [List.length_drop,← hs,Nat.add_sub_cancel_left]
    have lM:∀ {x},x≤1000→x≤1000000:=fun h=>Nat.le_trans h (by decide)
    refine .lenL hi hn (.fdiv (by decide) (DY (by decide)) (aC▸e0) (.lenL hi hn (.sub (n:=m) (by rw [aC,← hs,Int.natCast_add];exact Int.add_sub_cancel ..) (.list hi .nil (.int rfl (lM ml)) hn (List.map_take ..).symm (ih (l:=l.take m) (l1.symm▸m1) (l1.symm▸ml) (fun x y=>hx x (List.mem_of_mem_take y)) aa fun σ1 g1=>?_)))))
    refine .pow rfl (Nat.lt_of_le_of_lt hb (by decide)) (Nat.le_trans nl (by decide)) (Int.natCast_pow b n).symm (.mul (Dk hb (l1.symm▸ml) fun x y=>hx x (List.mem_of_mem_take y)) (mz hb nl) (Int.natCast_mul ..).symm ?_)
    refine .list (g1 _ _ (ac hi)) (.int rfl (lM ml)) .nil hn (List.map_drop ..).symm (ih (l:=l.drop m) (l2.symm▸n1) (l2.symm▸nl) (fun x y=>hx x (List.mem_of_mem_drop y)) aa fun σ2 g2=>.add (n:=val b l) ?_ ?_)
    · rw [← Int.natCast_add,← l2,← jz,List.take_append_drop]
    · exact h _ ((Ge.a1.trans g1).trans (Ge.a1.trans g2))
  · exact h _ .rfl
end
noncomputable def cf(x:ae):List Nat:=x.map fun c=>(dV c.toNat).getD 0
noncomputable def bx(b:Nat)(c:UInt8):Bool:=(dV c.toNat).any fun n=>decide (n < b)
noncomputable def aW(x:ae)(b:Nat):Option Nat:=if x≠[]∧x.all (bx b)=true then some (val b (cf x)) else none
theorem mZ{b:Nat}{c:UInt8}(h:bx b c=true):dV c.toNat=some ((dV c.toNat).getD 0)∧(dV c.toNat).getD 0 < b:=by
 unfold bx at h
 cases e:dV c.toNat with
 | none=>rw [e] at h;cases h
 | some n=>rw [e] at h;exact ⟨rfl,of_decide_eq_true h⟩
theorem zK{b:Nat}{x:ae}(h:x.all (bx b)=true):(x.map fun c=>dW (dV c.toNat))=aV (cf x)∧∀ n∈cf x,n < b:=by
 constructor
 · rw [cf,aV,List.map_map]
   exact List.map_congr_left fun c m=>congrArg dW (mZ (List.all_eq_true.mp h c m)).1
 · intro n m
   obtain ⟨c,k,rfl⟩:=List.mem_map.mp m
   exact (mZ (List.all_eq_true.mp h c k)).2
section
variable{d:Nat}{c:UInt8}{σ:List O}{Q:ag}{X:ak}
theorem bP{x:ae}{b:Nat}(hb:b≤36)(hl:x.length≤1000)(h:∀ σ',Ge σ σ'→Q (dW (aW x b)) σ'):Call (d+7) lY [.bytes x,.int b] σ Q X:=by
 have hl':∀ {f:UInt8→V},(x.map f).length≤1000000:=(List.length_map ..).symm▸Nat.le_trans hl (by decide)
 have no:¬(x≠[]∧x.all (bx b)=true)→∀ σ',Ge σ σ'→Q .none σ':=fun q=>by
  rw [aW,if_neg q] at h;exact h
 refine .go fh rfl rfl rfl rfl (.plainB (Nat.le_trans hl (by decide)) (xj (fun o:UInt8=>.int o.toNat) (fun c=>dW (dV c.toNat)) trivial x (fun _ _ _ h=>pA h) (Nat.le_trans hl (by decide)) ?_))
 refine .eqNil (ac aa) aa (fun q=>no (fun z=>z.1 (List.map_eq_nil_iff.mp q)) _ .a2) fun q=>?_
 refine .plainL (ac aa) hl' (kh (fun c:UInt8=>dW (dV c.toNat)) (fun c=>!bx b c) (fun c:UInt8=>dW (dV c.toNat)) (ac aa) x [] (fun c _ K h=>?_) (fun _ _ _ _ h=>h) (Nat.zero_add _▸Nat.le_trans hl (by decide)) ?_)
 · unfold bx at h
   cases e:dV c.toNat with
   | none=>rw [e] at h;exact .isN rfl h
   | some n =>
    rw [e] at h
    have h:K (!decide (n < b)) _:=h
    refine .isN rfl (.ge (fun z=>?_) fun z=>?_)
    · rw [decide_eq_false (Nat.not_lt.mpr (Int.ofNat_le.mp z))] at h;exact h
    · rw [decide_eq_true (Nat.not_le.mp fun w=>z (Int.ofNat_le.mpr w))] at h;exact h
 refine .neNil (ac aa) aa (fun e=>?_) fun e=>no (fun z=>e (List.map_eq_nil_iff.mpr (List.filter_eq_nil_iff.mpr fun c m w=>?_))) _ .a4
 · have ok:x.all (bx b)=true:=List.all_eq_true.mpr fun c m=>Bool.of_not_eq_false fun w=>List.filter_eq_nil_iff.mp (List.map_eq_nil_iff.mp e) c m (by rw [w];rfl)
   obtain ⟨k1,k2⟩:=zK ok
   refine kn hb 5 (l:=cf x) ?_ ?_ k2 (k1▸ac (ac (ac aa))) fun σ' g=>?_
   · exact (List.length_map ..).symm▸Nat.le_trans hl (by decide)
   · exact (List.length_map ..).symm▸hl
   · rw [aW,if_pos ⟨fun w=>q (w▸rfl),ok⟩] at h
     exact h _ (Ge.a4.trans g)
 · rw [List.all_eq_true.mp z.2 c m] at w;cases w
end
theorem jX{x:ae}{b n:Nat}(h:aW x b=some n):n < b ^ x.length:=by
 unfold aW at h
 by_cases q:x≠[]∧x.all (bx b)=true
 · rw [if_pos q] at h
   have:=vf (cf x) (zK q.2).2
   rw [cf,List.length_map] at this
   exact Option.some.inj h▸this
 · rw [if_neg q] at h;cases h
theorem wo{k:Nat}(h:k≤2700):2 * 10 ^ k < 2 ^ 9000 :=
 Nat.lt_of_le_of_lt (Nat.mul_le_mul_left _ (Nat.pow_le_pow_right (by decide) h)) (by decide +kernel:2 * 10 ^ 2700 < 2 ^ 9000)
theorem hJ{n:Int}{k:Nat}(h:n.natAbs < 10 ^ k)(hk:k≤2700):oY n :=
 Nat.lt_trans (Nat.lt_of_lt_of_le h (Nat.le_mul_of_pos_left _ Nat.two_pos)) (Nat.lt_trans (wo hk) (Nat.pow_lt_pow_right (by decide) (by decide)))
theorem Cc{n:Int}(h:n.natAbs < 10 ^ 800):Builtin.Int.intBits n≤2690:=by
 unfold Builtin.Int.intBits
 split
 · decide
 · rename_i q
   exact Nat.succ_le_of_lt ((Nat.log2_lt (fun z=>q (by rw [Int.natAbs_eq_zero.mp z];rfl))).mpr (Nat.lt_trans h (by decide +kernel:10 ^ 800 < 2 ^ 2690)))
noncomputable def cQ(n:Nat):Int:=if n≤2147483647 then n else n - 4294967296
noncomputable def oK(x:ae)(a:Nat):lR:=match aW (x.take a) 10 with
 | none=>.no
 | some b=>if a≤2 then if 2≤b∧b≤36 then (match aW (x.drop (a+1)) b with
  | none=>.no
  | some n=>if 4294967296≤n then .lim else .int (cQ n)) else .no else .no
noncomputable def gy(x:ae):Bool:=([[43],[45]]:List ae).any fun b=>decide (b=x.take 1)
noncomputable def gi(x:ae):Bool:=decide (x.take 1=[45])
noncomputable def aP(x:ae):ae:=x.drop (match gy x with | true=>1 | false=>0)
noncomputable def dI:Bool→Nat→Int
 | true,n=>-n
 | false,n=>n
noncomputable def G5:Option Int→V
 | some n=>.int n
 | none=>.none
noncomputable def xW:Option ae→V
 | some n=>.bytes n
 | none=>.none
noncomputable def AW(x:ae):Option Int:=(aW (aP x) 10).map (dI (gi x))
noncomputable def bG(n t:Int):lR:=if n=0 then .real 0 else if 0≤t then (if 32 < t then .lim else chk (n * 10 ^ t.toNat)) else if (Builtin.Int.intBits n:Int) < -t then .real 0 else chk (zU n (10 ^ (-t).toNat))
noncomputable def aj(p:UInt8→Bool):ae→ae×Option ae
 | []=>([],none)
 | c :: r=>match p c with | true=>([],some r) | false=>(c :: (aj p r).1,(aj p r).2)
noncomputable def gC(c:UInt8):Bool:=([101,69]:ae).contains c
noncomputable def bg(c:UInt8):Bool:=([46]:ae).contains c
noncomputable def nW(below:Bool)(k:Nat):Option Int→Option Nat→lR
 | some t,some n=>bG (dI below n) (t - k+6)
 | _,_=>.no
noncomputable def FF:Option ae→Option Int
 | none=>some 0
 | some e=>AW e
noncomputable def Gj(below:Bool)(w:ae):Option ae→Option ae→lR
 | none,none=>.no
 | ex,fr=>nW below (fr.getD []).length (FF ex) (aW (w++fr.getD []) 10)
noncomputable def cN(x:ae)(below:Bool):lR:=Gj below (aj bg (aj gC x).1).1 (aj gC x).2 (aj bg (aj gC x).1).2
noncomputable def bq(x:ae):lR:=if x.contains 35 then oK x (x.idxOf 35) else match aW (aP x) 10 with
 | some n=>g6 (dI (gi x) n)
 | none=>cN (aP x) (gi x)
theorem fA(x:ae):(aP x).length≤x.length:=List.length_drop ..▸Nat.sub_le ..
theorem fQ{b:Bool}{n:Nat}:(dI b n).natAbs=n:=by cases b;rfl;exact Int.natAbs_neg n
section
variable{d:Nat}{c:UInt8}{σ:List O}{Q:ag}{X:ak}{x y:ae}
theorem w7{m:Int}(h:(chk m).out Q X σ):Call (d+1) gr [.int m] σ (fun v σ=>Q (.tup [.str dB,v]) σ) X:=gK (DV h) (Ea h)
theorem rH{a:Nat}(ha:a≤x.length)(hl:x.length≤800)(h:∀ σ',Ge σ σ'→(oK x a).out Q X σ'):Call (d+8) rE [.bytes x,.int a] σ Q X:=by
 have hx:x.length≤1000000:=Nat.le_trans hl (by decide)
 refine .go iz rfl rfl rfl rfl (.bytes .nil (.int rfl (Nat.le_trans ha hx)) hx rfl (bP (b:=10) (by decide) (by show (x.take a).length≤_;rw [List.length_take];omega) fun σ' g=>?_))
 have h:=fun σ2 g2=>h σ2 (g.trans g2)
 unfold oK at h
 show oE _ _ _ (dW (aW (x.take a) 10)) _
 cases e:aW (x.take a) 10 with
 | none=>rw [e] at h;exact .isN rfl (h _ .rfl)
 | some b =>
  rw [e] at h
  refine .isN rfl (.gt (fun q=>?_) fun q=>.inN 2 36 (fun q2=>?_) fun q2=>?_)
  · have h:∀ σ2,Ge σ' σ2→lR.out (if a≤2 then _ else _) Q X σ2:=h
    rw [if_neg (by omega)] at h;exact h _ .rfl
  · have h:∀ σ2,Ge σ' σ2→lR.out (if a≤2 then _ else _) Q X σ2:=h
    rw [if_pos (by omega),if_pos q2] at h
    refine .add (n:=(a+1:Nat)) rfl (.bytes (.int rfl (by omega)) .nil hx rfl (bP q2.2 (by show (x.drop (a+1)).length≤_;rw [List.length_drop];exact Nat.le_trans (Nat.sub_le ..) (Nat.le_trans ‹x.length≤800› (by decide))) fun σ2 g2=>?_))
    show oE _ _ _ (dW (aW (x.drop (a+1)) b)) _
    cases e2:aW (x.drop (a+1)) b with
    | none=>rw [e2] at h;exact .isN rfl (h _ g2)
    | some n =>
     rw [e2] at h
     have h:∀ σ2,Ge σ' σ2→lR.out (if 4294967296≤n then .lim else .int (cQ n)) Q X σ2:=h
     refine .isN rfl (.ge (fun q=>?_) fun q=>?_)
     · rw [if_pos (by omega)] at h;exact h _ g2
     · rw [if_neg (by omega)] at h
       exact pu (by omega) (h _ g2)
  · have h:∀ σ2,Ge σ' σ2→lR.out (if a≤2 then _ else _) Q X σ2:=h
    rw [if_pos (by omega),if_neg q2] at h;exact h _ .rfl
theorem fW(hl:x.length≤800)(h:∀ σ',Ge σ σ'→Q (G5 (AW x)) σ'):Call (d+8) lZ [.bytes x] σ Q X:=by
 have hx:x.length≤1000000:=Nat.le_trans hl (by decide)
 have go:∀ (k:Int) (n:Nat),k=n→n≤1000000→x.drop n=aP x→vcSs (Call (d+7)) (gb.drop 1) [some (.bytes x),some (.int k),none,none] σ (eO Q) X:=fun k n hk hn e=>by
  refine .bytes (.int hk hn) .nil hx e (bP (b:=10) (by decide) (Nat.le_trans (fA x) (Nat.le_trans hl (by decide))) fun σ' g=>?_)
  have h:=h σ' g
  unfold AW at h
  cases e:aW (aP x) 10 with
  | none=>rw [e] at h;exact .isN rfl h
  | some n =>
   rw [e] at h
   have h:Q (.int (dI (gi x) n)) σ':=h
   refine .isN rfl (.bytes (z:=x.take 1) .nil (.int rfl (by decide:1≤1000000)) hx rfl (.eqB (fun q=>?_) fun q=>?_))
   · rw [gi,decide_eq_true q] at h;exact h
   · rw [gi,decide_eq_false q] at h;exact h
 refine .go fv rfl rfl rfl rfl (.bytes .nil (.int rfl (by decide:1≤1000000)) hx rfl (.inT (bs:=[[43],[45]]) rfl rfl (?_:zt _ _ _ _ _ (gy x) _)))
 cases e:gy x with
 | true=>exact go 1 1 rfl (by decide) (by rw [aP,e])
 | false=>exact go 0 0 rfl (by decide) (by rw [aP,e])
theorem gc{n t:Int}(hn:n.natAbs < 10 ^ 800)(h:(bG n t).out Q X σ):Call (d+2) l6 [.int n,.int t] σ (fun v σ=>Q (.tup [.str dB,v]) σ) X:=by
 have hi:oY n:=hJ hn (by decide)
 unfold bG at h
 refine .go fu rfl rfl rfl rfl (.eqI (fun q=>?_) fun q=>.ge (fun q1=>.mul (kB (by decide)) (kB (by decide)) rfl (.add (n:=32) rfl (.gt (fun q2=>?_) fun q2=>?_))) fun q1=>.bits (.bits hi rfl (.gt (fun q2=>?_) fun q2=>?_)))
 · rw [if_pos q] at h;exact h
 · rw [if_neg q,if_pos q1,if_pos q2] at h;exact h
 · rw [if_neg q,if_pos q1,if_neg q2] at h
   have q3:t.toNat≤32:=Int.toNat_le.mpr (Int.not_lt.mp q2)
   refine .pow (Int.toNat_of_nonneg q1).symm (by decide) (Nat.le_trans q3 (by decide)) rfl (.mul hi (hJ (k:=33) ?_ (by decide)) rfl (w7 h))
   rw [Int.natAbs_pow]
   exact Nat.pow_lt_pow_right (by decide) (Nat.lt_succ_of_le q3)
 · rw [if_neg q,if_neg q1,if_pos q2] at h;exact h
 · rw [if_neg q,if_neg q1,if_neg q2] at h
   have hk:(-t).toNat≤2690:=Int.toNat_le.mpr (Int.le_trans (Int.not_lt.mp q2) (Int.ofNat_le.mpr (Cc hn)))
   have hl:((10:Int) ^ (-t).toNat).natAbs=10 ^ (-t).toNat:=Int.natAbs_pow ..
   refine .pow (k:=(-t).toNat) (Int.toNat_of_nonneg (Int.neg_nonneg_of_nonpos (Int.le_of_lt (Int.not_le.mp q1)))).symm (by decide) (Nat.le_trans hk (by decide)) rfl (yz (Int.pow_pos (by decide)) hi (hJ (k:=(-t).toNat+1) (hl▸Nat.pow_lt_pow_right (by decide) (Nat.lt_succ_self _)) (by omega)) ?_ (w7 h))
   unfold GO
   rw [Int.natAbs_mul,hl]
   exact wo (by omega)
theorem cW(p:UInt8→Bool):∀ x:ae,(aj p x).1.length+((aj p x).2.getD []).length≤x.length
 | []=>Nat.le_refl _
 | c :: r=>by
  rw [aj]
  cases p c with
  | true=>exact Nat.zero_add _▸Nat.le_succ _
  | false=>exact Nat.succ_add ..▸Nat.succ_le_succ (cW p r)
theorem cz(p:UInt8→Bool):∀ x:ae,(aj p x).2=none→(aj p x).1=x
 | [],_=>rfl
 | c :: r,h=>by
  rw [aj] at *
  cases q:p c with
  | true=>rw [q] at h;cases h
  | false=>rw [q] at h;exact congrArg (c :: ·) (cz p r h)
theorem DA{QF:aF}{s:ae}(hx:x.length≤1000000)(h0:(aj s.contains x).2=none→∀ e2 e3,QF .next [some (.bytes x),some (.bytes s),e2,e3] σ)
 (h1:∀ y,(aj s.contains x).2=some y→∀ env,QF (.ret (.tup [.bytes (aj s.contains x).1,.bytes y])) env σ) :
 ∀ (l:ae) (n:Nat) (z:Int) (e2 e3:Option V),z=n→n+l.length=x.length→x.drop n=l→aj s.contains x=(x.take n++(aj s.contains l).1,(aj s.contains l).2) →
  lf (aR true [2,3]) (vcSs (Call d) (qA (at_ nZ 0))) (fun _=>True) QF X (enumL z (av l)) [some (.bytes x),some (.bytes s),e2,e3] σ:=by
 intro l
 induction l with
 | nil=>intro n z e2 e3 _ _ _ e;exact ⟨trivial,h0 (by rw [e];rfl) _ _⟩
 | cons c l ih =>
  intro n z e2 e3 hz hn hd e
  have hn1:n+1+l.length=x.length:=(Nat.add_right_comm ..).trans hn
  have hx1:n+1≤1000000:=Nat.le_trans (hn1▸Nat.le_add_right ..) hx
  have hd1:x.drop (n+1)=l:=by rw [← List.drop_drop,hd];rfl
  refine ⟨trivial,_,rfl,.inC rfl ?_⟩
  rw [aj] at e
  cases q:s.contains c with
  | true =>
   rw [q] at e
   refine .bytes .nil (.int hz (Nat.le_of_succ_le hx1)) hx rfl (.add (n:=(n+1:Nat)) (hz▸rfl) (.bytes (.int rfl hx1) .nil hx hd1 ?_))
   have:=h1 l (by rw [e])
   rw [e,List.append_nil] at this
   exact this _
  | false =>
   rw [q] at e
   refine ih (n+1) _ _ _ (hz▸rfl) hn1 hd1 ?_
   rw [e,← List.take_append_drop n (x.take (n+1)),List.take_take,Nat.min_eq_left (Nat.le_succ n),List.drop_take,hd,Nat.add_sub_cancel_left,List.append_assoc];rfl
theorem mX{s:ae}(hl:x.length≤800)(h:Q (.tup [.bytes (aj s.contains x).1,xW (aj s.contains x).2]) σ):Call (d+1) vi [.bytes x,.bytes s] σ Q X:=by
 have hx:x.length≤1000000:=Nat.le_trans hl (by decide)
 refine .go lq rfl rfl rfl rfl (.enumB hx (DA hx (fun e _ _=>?_) (fun y e _=>by rw [e] at h;exact h) x 0 0 _ _ rfl (Nat.zero_add _) rfl rfl))
 rw [e,cz _ _ e] at h
 exact h
theorem lc{P:au→List O→Prop}{below:Bool}{v2 v3 v5:V}{wh beh:ae}{tens:Option Int}(hP:∀ env σ,vcSs (Call (d+8)) (lu.drop 5) env σ (eO Q) X→P env σ)(hl:wh.length+beh.length≤800)
 (h:∀ σ',Ge σ σ'→(nW below beh.length tens (aW (wh++beh) 10)).out Q X σ'):P [some (.bytes x),some (.bool below),some v2,some v3,some (.bytes wh),some v5,some (G5 tens),some (.bytes beh),none] σ:=by
 refine hP _ _ (.cat (Nat.le_trans hl (by decide)) rfl (bP (b:=10) (by decide) (by rw [List.length_append];omega) fun σ' g=>?_))
 have h:=h σ' g
 show oE _ _ _ (dW (aW (wh++beh) 10)) _
 cases tens with
 | none=>exact .isN (r:=true) rfl h
 | some t =>
  cases e:aW (wh++beh) 10 with
  | none=>rw [e] at h;exact .isN (r:=false) rfl (.isN rfl h)
  | some n =>
   rw [e] at h
   have hn:(dI below n).natAbs < 10 ^ 800:=fQ.symm▸Nat.lt_of_lt_of_le (jX e) (Nat.pow_le_pow_right (by decide) (List.length_append▸hl))
   have hb:beh.length≤1000000:=by omega
   refine .isN (r:=false) rfl (.isN (r:=false) rfl ?_)
   cases below with
   | true=>exact .lenB hb (.sub rfl (.add rfl (gc hn h)))
   | false=>exact .lenB hb (.sub rfl (.add rfl (gc hn h)))
theorem uC{below:Bool}(hl:x.length≤800)(h:∀ σ',Ge σ σ'→(cN x below).out Q X σ'):Call (d+9) uo [.bytes x,.bool below] σ Q X:=by
 have l1:=cW gC x
 have l2:=cW bg (aj gC x).1
 unfold cN at h
 refine .go jC rfl rfl rfl rfl (d6 5 fun P hP=>mX (s:=[101,69]) hl (mX (s:=[46]) (x:=(aj gC x).1) (by omega) ?_))
 have e1:aj ([101,69]:ae).contains x=aj gC x:=rfl
 have e2:aj ([46]:ae).contains (aj gC x).1=aj bg (aj gC x).1:=rfl
 rw [e1,e2]
 generalize (aj gC x).1=fg at *
 generalize (aj gC x).2=ex at *
 generalize (aj bg fg).1=wh at *
 generalize (aj bg fg).2=fr at *
 cases ex with
 | none=>cases fr with
  | none=>exact .isN (r:=true) rfl (.isN (r:=true) rfl (h _ .rfl))
  | some y=>exact .isN (r:=true) rfl (.isN (r:=false) rfl (.isN (r:=true) rfl (.isN (r:=false) rfl (lc (tens:=some 0) (v3:=.none) (v5:=.bytes y) hP (by simp only [Option.getD] at *;omega) h))))
 | some ee =>
  have ll:ee.length≤800:=by simp only [Option.getD] at *;omega
  cases fr with
  | none=>exact .isN (r:=false) rfl (.isN (r:=false) rfl (fW ll fun σ' g=>.isN (r:=true) rfl (lc (v3:=.bytes ee) (v5:=.none) hP (by simp only [Option.getD] at *;rw [List.length_nil];omega) fun σ2 g2=>h σ2 (g.trans g2))))
  | some y=>exact .isN (r:=false) rfl (.isN (r:=false) rfl (fW ll fun σ' g=>.isN (r:=false) rfl (lc (v3:=.bytes ee) (v5:=.bytes y) hP (by simp only [Option.getD] at *;omega) fun σ2 g2=>h σ2 (g.trans g2))))
end
section
variable{d:Nat}{c:UInt8}{σ:List O}{Q:ag}{X:ak}{x y:ae}
theorem Ei{n:Nat}{l:ae}(hd:x.drop n=35 :: l)(hn:(35:UInt8)∉x.take n)(hl:n≤x.length):x.contains 35=true∧x.idxOf 35=n:=by
 have e:x=x.take n++35 :: l:=hd▸(List.take_append_drop n x).symm
 constructor
 · rw [e];exact List.contains_iff_mem.mpr (List.mem_append_right _ (List.mem_cons_self ..))
 · rw [e,List.idxOf_append,if_neg hn,List.idxOf_cons_self,List.length_take];exact (Nat.zero_add _).trans (Nat.min_eq_left hl)
theorem CU{QF:aF}(hl:x.length≤800)(hq:∀ v env σ',Q v σ'→QF (.ret v) env σ')(h0:x.contains 35=false→∀ e1 e2,QF .next [some (.bytes x),e1,e2,none,none,none] σ)(h1:x.contains 35=true→∀ σ',Ge σ σ'→(oK x (x.idxOf 35)).out Q X σ') :
 ∀ (l:ae) (n:Nat) (z:Int) (e1 e2:Option V),z=n→n+l.length=x.length→x.drop n=l→(35:UInt8)∉x.take n →
  lf (aR true [1,2]) (vcSs (Call (d+9)) (qA (at_ eI 0))) (fun _=>True) QF X (enumL z (av l)) [some (.bytes x),e1,e2,none,none,none] σ:=by
 intro l
 induction l with
 | nil =>
  intro n z e1 e2 hz hn hd hm
  exact ⟨trivial,h0 (Bool.eq_false_iff.mpr fun w=>by rw [List.take_of_length_le (Nat.le_of_eq (id hn.symm:x.length=n))] at hm;exact hm (List.contains_iff_mem.mp w)) _ _⟩
 | cons c l ih =>
  intro n z e1 e2 hz hn hd hm
  have hx:n≤x.length:=hn▸Nat.le_add_right ..
  refine ⟨trivial,_,rfl,.eqC 35 (fun q=>?_) fun q=>?_⟩
  · obtain ⟨g1,g2⟩:=Ei (q▸hd) hm hx
    have h1:=h1 g1
    rw [g2] at h1
    subst hz
    exact rH (d:=d+1) hx hl fun σ' g=>lR.mono (h1 σ' g) fun _ h=>hq _ _ _ h
  · refine ih (n+1) _ _ _ (hz▸rfl) ((Nat.add_right_comm ..).trans hn) (by rw [← List.drop_drop,hd];rfl) fun m=>?_
    rw [List.take_add_one,List.mem_append,show x[n]? = (x.drop n)[0]? by rw [List.getElem?_drop];rfl,hd] at m
    rcases m with m | m
    · exact hm m
    · exact q (List.mem_singleton.mp m).symm
theorem pR(hl:x.length≤800)(h:∀ σ',Ge σ σ'→(bq x).out Q X σ'):Call (d+10) oU [.bytes x] σ Q X:=by
 have hx:x.length≤1000000:=Nat.le_trans hl (by decide)
 have hn:=fA x
 unfold bq at h
 refine .go gM rfl rfl rfl rfl (d6 1 fun P0 hP0=>.enumB hx (CU (Q:=Q) hl (fun _ _ _ h=>h) (fun e e1 e2=>hP0 _ _ (d6 1 fun P hP=>?_)) (fun e=>by rw [if_pos e] at h;exact h) x 0 0 _ _ rfl (Nat.zero_add _) rfl nofun))
 rw [e,if_neg Bool.false_ne_true] at h
 have go:∀ (k:Int) (n:Nat),k=n→n≤1000000→x.drop n=aP x→P [some (.bytes x),e1,e2,some (.int k),none,none] σ:=fun k n hk hk1 e=>by
  have main:∀ b,gi x=b→vcSs (Call (d+9)) (eI.drop 3) [some (.bytes x),e1,e2,some (.int k),some (.bool b),none] σ (eO Q) X:=fun b hb=>by
   refine .bytes (.int hk hk1) .nil hx e (bP (b:=10) (by decide) (by omega) fun σ' g=>?_)
   show oE _ _ _ (dW (aW (aP x) 10)) _
   cases e2:aW (aP x) 10 with
   | none =>
    rw [e2] at h
    have h:∀ σ',Ge σ σ'→(cN (aP x) (gi x)).out Q X σ':=h
    exact .notN (r:=true) rfl rfl (.bytes (.int hk hk1) .nil hx e (uC (by omega) fun σ2 g2=>hb▸h _ (g.trans g2)))
   | some n =>
    rw [e2] at h
    have h:(g6 (dI (gi x) n)).out Q X σ':=h _ g
    have hl2:oY (dI b n):=hJ (k:=800) (fQ.symm▸Nat.lt_of_lt_of_le (jX e2) (Nat.pow_le_pow_right (by decide) (by omega))) (by decide)
    rw [hb] at h
    refine .notN (r:=false) rfl rfl ?_
    cases b with
    | true=>exact gJ hl2 h
    | false=>exact gJ hl2 h
  exact hP _ _ (.bytes (z:=x.take 1) .nil (.int rfl (by decide:1≤1000000)) hx rfl (.eqB (fun q=>main true (decide_eq_true q)) fun q=>main false (decide_eq_false q)))
 refine .bytes .nil (.int rfl (by decide:1≤1000000)) hx rfl (.inT (bs:=[[43],[45]]) rfl rfl (?_:zt _ _ _ _ _ (gy x) _))
 cases e:gy x with
 | true=>exact go 1 1 rfl (by decide) (by rw [aP,e])
 | false=>exact go 0 0 rfl (by decide) (by rw [aP,e])
end
noncomputable def lW:ae:=[115,121,110,116,97,120,101,114,114,111,114]
def aS(S:List Nat)(σ σ':List O):Prop:=∀ (i:Nat) (o:O),σ[i]? = some o→i∉S→σ'[i]? = some o
section
variable{S T:List Nat}{σ σ' σ'' τ:List O}{j k:Nat}{o:O}
theorem aS.refl:aS S σ σ:=fun _ _ h _=>h
theorem aS.trans(h:aS S σ σ')(h':aS S σ' σ''):aS S σ σ'':=fun i o e m=>h' i o (h i o e m) m
theorem aS.mono(h:aS S σ σ')(hs:∀ i∈S,i∈T):aS T σ σ':=fun i o e m=>h i o e fun z=>m (hs i z)
theorem aS.of(h:Ge σ σ'):aS S σ σ':=fun i o e _=>h i o e
theorem aS.app:aS S σ (σ++τ):=.of .a1
theorem aS.put(h:aS S σ σ')(hj:j∈S):aS S σ (σ'.set j o):=fun i x e m=>by
 rw [List.getElem?_set_ne fun q=>m (by rw [← q];exact hj)];exact h i x e m
theorem aS.new(h:aS S σ σ')(hj:σ.length≤j):aS S σ (σ'.set j o):=fun i x e m=>by
 rw [List.getElem?_set_ne (fun q:j=i=>Nat.not_lt.mpr hj (q▸bm e))];exact h i x e m
theorem bk(h:σ[j]? = some o){o':O}:(σ.set j o')[j]? = some o':=List.getElem?_set_self (bm h)
theorem aN(h:σ[k]? = some o)(n:j≠k){o':O}:(σ.set j o')[k]? = some o:=by rw [List.getElem?_set_ne n];exact h
end
noncomputable def pos(all r:ae):Nat:=all.length - r.length
section
variable{all rest r:ae}{c:UInt8}
theorem fN(h:rest <:+ all):pos all rest+rest.length=all.length:=Nat.sub_add_cancel h.length_le
theorem kb(h:rest <:+ all):all.drop (pos all rest)=rest:=by
 obtain ⟨p,rfl⟩:=h
 rw [pos,List.length_append,Nat.add_sub_cancel,List.drop_left]
theorem fP:pos all rest≤all.length:=Nat.sub_le ..
theorem xF(h:c :: r <:+ all):all[pos all (c :: r)]? = some c:=by rw [← List.head?_drop,kb h];rfl
theorem a8(h:c :: r <:+ all):r <:+ all:=(List.suffix_cons _ _).trans h
theorem cZ(h:c :: r <:+ all):pos all r=pos all (c :: r)+1:=by
 have e:=fN h
 rw [List.length_cons,Nat.add_comm r.length,← Nat.add_assoc] at e
 exact Nat.add_right_cancel ((fN (a8 h)).trans e.symm)
theorem zq(h:c :: r <:+ all):pos all (c :: r) < all.length:=Nat.lt_of_lt_of_eq (Nat.lt_add_of_pos_right (Nat.succ_pos _)) (fN h)
end
noncomputable def GY(all rest:ae)(b:Bool):O:=.attrs [(gO,.bytes all),(x8,.int (pos all rest)),(qz,.bool b)]
structure dw(i j:Nat)(all:ae)(σ:List O)(rest:ae)(b:Bool):Prop where
 inst:σ[i]? = some (.inst 5 j)
 dat:σ[j]? = some (GY all rest b)
 suf:rest <:+ all
 len:all.length≤100000
structure Mv(i j:Nat)(all:ae)(σ σ':List O)(r:ae)(b:Bool):Prop where
 src:dw i j all σ' r b
 keep:aS [j] σ σ'
 len:σ.length≤σ'.length
noncomputable def f7:ae→V
 | []=>.none
 | c :: _=>.int c.toNat
section
variable{call:aw}{d:Nat}{c:UInt8}{σ σ' σ'' τ:List O}{Q:ag}{X:ak}{K:bn}{i j:Nat}{all rest rest' r:ae}{b b' b'':Bool}
theorem dw.ne(hs:dw i j all σ rest b):j≠i:=fun z=>by have:=hs.inst;rw [← z,hs.dat] at this;cases this
theorem dw.len'(hs:dw i j all σ rest b):all.length≤1000000:=Nat.le_trans hs.len (by decide)
theorem dw.set(hs:dw i j all σ rest b)(hl:r <:+ all):dw i j all (σ.set j (GY all r b')) r b':=⟨aN hs.inst hs.ne,bk hs.dat,hl,hs.len⟩
theorem dw.mv(hs:dw i j all σ rest b)(hl:r <:+ all):Mv i j all σ (σ.set j (GY all r b')) r b':=⟨hs.set hl,aS.refl.put (.head _),Nat.le_of_eq List.length_set.symm⟩
theorem dw.keep{S:List Nat}(hs:dw i j all σ rest b)(k:aS S σ σ')(hi:i∉S)(hj:j∉S):dw i j all σ' rest b:=⟨k _ _ hs.inst hi,k _ _ hs.dat hj,hs.suf,hs.len⟩
theorem dw.app(hs:dw i j all σ rest b):dw i j all (σ++τ) rest b:=⟨ac hs.inst,ac hs.dat,hs.suf,hs.len⟩
theorem Mv.refl(hs:dw i j all σ rest b):Mv i j all σ σ rest b:=⟨hs,.refl,Nat.le_refl _⟩
theorem Mv.trans(m:Mv i j all σ σ' rest b)(m':Mv i j all σ' σ'' r b'):Mv i j all σ σ'' r b':=⟨m'.src,m.keep.trans m'.keep,Nat.le_trans m.len m'.len⟩
theorem dw.g16(hs:dw i j all σ rest b)(h:Q (.bytes all) σ):At σ Q call (.ref i) 16:=.val hs.inst hs.dat rfl rfl rfl h
theorem dw.g30(hs:dw i j all σ rest b)(h:Q (.int (pos all rest)) σ):At σ Q call (.ref i) 30:=.val hs.inst hs.dat rfl rfl rfl h
theorem dw.g31(hs:dw i j all σ rest b)(h:Q (.bool b) σ):At σ Q call (.ref i) 31:=.val hs.inst hs.dat rfl rfl rfl h
theorem dw.s31(hs:dw i j all σ rest b)(h:K (σ.set j (GY all rest b'))):Sa σ K (.ref i) 31 (.bool b'):=.mk hs.inst hs.dat rfl rfl rfl rfl h
theorem dw.s30{n:Int}(hs:dw i j all σ rest b)(hn:n=pos all r)(h:K (σ.set j (GY all r b))):Sa σ K (.ref i) 30 (.int n):=.mk hs.inst hs.dat rfl rfl rfl rfl (hn▸h)
theorem dw.tn{as:pJ}{env:au}(hs:dw i j all σ rest b)(h:as env σ (Ck call dL (.ref i) Q X) X):Mt call as env σ Q X (.ref i) 32:=.own hs.inst hs.dat rfl rfl h
theorem dw.tb{as:pJ}{env:au}(hs:dw i j all σ rest b)(h:as env σ (Ck call dX (.ref i) Q X) X):Mt call as env σ Q X (.ref i) 33:=.own hs.inst hs.dat rfl rfl h
theorem wQ(hs:dw i j all σ rest b)(h:Q (.int (pos all rest)) σ):Call (d+1) ie [.ref i] σ Q X:=.go du rfl rfl rfl rfl (hs.g30 h)
theorem dA(hs:dw i j all σ rest b)(h:∀ σ',Mv i j all σ σ' rest.tail (!rest.isEmpty)→Q (f7 rest) σ'):Call (d+1) dL [.ref i] σ Q X:=by
 refine .go dC rfl rfl rfl rfl (hs.g30 (hs.g16 (.lenB hs.len' (.lt (fun q=>hs.s31 (b':=true) ?_) fun q=>hs.s31 (b':=false) ((hs.set hs.suf).g31 ?_)))))
 · have h1:=hs.set hs.suf (b':=true)
   cases rest with
   | nil=>exact absurd (Int.ofNat_lt.mp q) (Nat.lt_irrefl _)
   | cons c r =>
    have hr:=a8 hs.suf
    have h2:=h1.set hr (b':=true)
    refine h1.g31 (h1.g30 (.add (n:=pos all r) (by rw [cZ hs.suf];rfl) (h1.s30 rfl (h2.g16 (h2.g30 (.sub rfl (.bytes (n:=pos all (c :: r)) (by rw [cZ hs.suf];exact Int.add_sub_cancel (pos all _:Int) 1) (xF hs.suf) hs.len' (h _ ((hs.mv hs.suf).trans (h1.mv hr))))))))))
 · cases rest with
   | nil=>exact h _ (hs.mv hs.suf)
   | cons c r=>exact absurd (Int.ofNat_lt.mpr (zq hs.suf)) q
theorem d7(hs:dw i j all σ r true)(hp:c :: r <:+ all)(h:∀ σ',Mv i j all σ σ' (c :: r) false→Q .none σ'):Call (d+1) dX [.ref i] σ Q X:=by
 have h1:=hs.set (b':=true) hp
 exact .go dD rfl rfl rfl rfl (hs.g31 (hs.g30 (.sub rfl (hs.s30 (r:=c :: r) (by rw [cZ hp];exact Int.add_sub_cancel (pos all _:Int) 1) (h1.s31 (h _ ((hs.mv hp).trans (h1.mv hp))))))))
theorem mQ(h:Q (.bool (bE c)) σ):Call (d+2) vV [.int c.toNat] σ Q X:=by
 refine .go lm rfl rfl rfl rfl (iX (?_:lS (.bool _) _ _))
 unfold bE at h
 cases q:aH c with
 | true=>rw [q] at h;exact h
 | false =>
  rw [q] at h
  exact .eqC 4 (fun z=>(beq_iff_eq.mpr z▸h:Q (.bool true) σ)) fun z=>(beq_false_of_ne z▸h:Q (.bool false) σ)
theorem bH(hs:dw i j all σ rest b)(h0:rest=[]→∀ σ',Mv i j all σ σ' [] false→X lW σ')(h1:∀ c r,rest=c :: r→∀ σ',Mv i j all σ σ' r true→Q (.int c.toNat) σ'):Call (d+2) tQ [.ref i] σ Q X :=
 .go jG rfl rfl rfl rfl (hs.tn (dA hs fun σ' m=>by
  cases rest with
  | nil=>exact .isN (r:=true) rfl (h0 rfl _ m)
  | cons c r=>exact .isN (r:=false) rfl (h1 c r rfl _ m)))
end
noncomputable def bj:ae→ae
 | []=>[]
 | c :: r=>if c=10 then r else c :: r
theorem bK:∀ x:ae,bj x <:+ x
 | []=>List.suffix_refl _
 | c :: r=>by
  rw [bj]
  by_cases q:c=10
  · rw [if_pos q];exact List.suffix_cons _ _
  · rw [if_neg q];exact List.suffix_refl _
noncomputable def ci:ae→ae
 | []=>[]
 | c :: r=>if c=10∨c=12 then r else if c=13 then bj r else ci r
noncomputable def an:Bool→ae→ae
 | _,[]=>[]
 | true,c :: r=>if c=10∨c=12∨c=13 then an false r else an true r
 | false,c :: r=>if c=37 then an true r else if bE c then an false r else c :: r
theorem vY:∀ x:ae,an false (bj x)=an false x
 | []=>rfl
 | c :: r=>by
  rw [bj]
  by_cases q:c=10
  · rw [if_pos q,q];rfl
  · rw [if_neg q]
theorem ny:∀ x:ae,an true x=an false (ci x)
 | []=>rfl
 | c :: r=>by
  rw [an,ci]
  by_cases q:c=10∨c=12
  · rw [if_pos q,if_pos (q.elim .inl fun z=>.inr (.inl z))]
  · by_cases q':c=13
    · rw [if_neg q,if_pos q',if_pos (.inr (.inr q')),vY]
    · rw [if_neg q,if_neg q',if_neg (fun z=>z.elim (fun z=>q (.inl z)) fun z=>z.elim (fun z=>q (.inr z)) q'),ny r]
theorem jc:∀ x:ae,ci x <:+ x
 | []=>List.suffix_refl _
 | c :: r=>by
  rw [ci]
  by_cases q:c=10∨c=12
  · rw [if_pos q];exact List.suffix_cons _ _
  · rw [if_neg q]
    by_cases q':c=13
    · rw [if_pos q'];exact (bK r).trans (List.suffix_cons _ _)
    · rw [if_neg q'];exact (jc r).trans (List.suffix_cons _ _)
section
variable{d:Nat}{c:UInt8}{σ σ0:List O}{Q:ag}{QF:aF}{X:ak}{i j:Nat}{all rest r t:ae}{b b':Bool}
theorem cb(hs:dw i j all σ rest b)(h:∀ σ' b',Mv i j all σ σ' (bj rest) b'→Q .none σ'):Call (d+2) kY [.ref i] σ Q X:=by
 refine .go eu rfl rfl rfl rfl (hs.tn (dA hs fun σ' m=>?_))
 cases rest with
 | nil=>exact .notN (r:=true) rfl rfl (h _ _ m)
 | cons c r =>
  refine .notN (r:=false) rfl rfl (.neC 10 (fun q=>?_) fun q=>m.src.tb (d7 m.src hs.suf fun σ2 m2=>?_))
  · rw [bj,if_pos q] at h;exact h _ _ m
  · rw [bj,if_neg q] at h;exact h _ _ (m.trans m2)
theorem sM(hs:dw i j all σ rest b)(h:∀ σ' b',Mv i j all σ σ' (ci rest) b'→Q .none σ'):Call (d+3) sh [.ref i] σ Q X:=by
 refine .go j6 rfl rfl rfl rfl (hs.tn (dA hs fun σ1 m1=>⟨fun P hP=>?_⟩))
 have loop:∀ (n:Nat) (t:ae) (σ':List O),t.length < n→t <:+ all→Mv i j all σ σ' t.tail (!t.isEmpty)→ci t=ci rest→P [some (.ref i),some (f7 t)] σ':=fun n=>by
  induction n with
  | zero=>exact fun t σ' hn=>absurd hn (Nat.not_lt_zero _)
  | succ n ih =>
   intro t σ' hn hp m e
   cases t with
   | nil=>rw [← e] at h;exact hP _ _ (.notN (r:=true) rfl rfl (.eq (.val .noneI) (h _ _ m)))
   | cons c r =>
    rw [ci] at e
    have n13:c=10∨c=12→c≠13:=fun q z=>by rw [z] at q;revert q;decide
    have stop:c=10∨c=12→(c:UInt8)≠13∧Mv i j all σ σ' (ci rest) true:=fun q=>⟨n13 q,by rw [if_pos q] at e;exact e▸m⟩
    refine hP _ _ (.notN (r:=false) rfl rfl (pI (?_:lS (.bool _) _ _)))
    by_cases q:c=10
    · rw [beq_iff_eq.mpr q]
      exact .eqC 13 (fun z=>absurd z (n13 (.inl q))) fun _=>h _ _ (stop (.inl q)).2
    · rw [beq_false_of_ne q]
      by_cases q3:c=13
      · rw [beq_iff_eq.mpr q3]
        refine .eqC 13 (fun _=>cb m.src fun σ2 b2 m2=>h _ b2 ?_) fun z=>absurd q3 z
        rw [if_neg (fun z=>z.elim q fun z=>n13 (.inr z) q3),if_pos q3] at e
        exact e▸m.trans m2
      · rw [beq_false_of_ne q3]
        refine .neC 12 (fun q2=>.eqC 13 (fun z=>absurd z q3) fun _=>h _ _ (stop (.inr q2)).2) fun q2=>m.src.tn (dA m.src fun σ2 m2=>?_)
        rw [if_neg (fun z=>z.elim q q2),if_neg q3] at e
        exact ih r _ (Nat.lt_of_succ_lt_succ hn) m.src.suf (m.trans m2) e
 exact loop _ rest _ (Nat.lt_succ_self _) hs.suf m1 rfl
theorem rO(hs:dw i j all σ rest b)(h:∀ σ',Mv i j all σ σ' (an false rest).tail (!(an false rest).isEmpty)→Q (f7 (an false rest)) σ'):Call (d+4) jH [.ref i] σ Q X:=by
 refine .go iJ rfl rfl rfl rfl (hs.tn (dA hs fun σ1 m1=>⟨fun P hP=>?_⟩))
 have loop:∀ (n:Nat) (t:ae) (σ':List O),t.length < n→t <:+ all→Mv i j all σ σ' t.tail (!t.isEmpty)→an false t=an false rest→P [some (.ref i),some (f7 t)] σ':=fun n=>by
  induction n with
  | zero=>exact fun t σ' hn=>absurd hn (Nat.not_lt_zero _)
  | succ n ih =>
   intro t σ' hn hp m e
   cases t with
   | nil=>rw [← e] at h;exact hP _ _ (.notN (r:=true) rfl rfl (h _ m))
   | cons c r =>
    rw [an] at e
    refine hP _ _ (.notN (r:=false) rfl rfl (.eqC 37 (fun q=>sM m.src fun σ2 b2 m2=>m2.src.tn (dA m2.src fun σ3 m3=>?_)) fun q=>mQ (?_:lS (.bool _) _ _)))
    · rw [if_pos q,ny] at e
      exact ih _ _ (Nat.lt_of_le_of_lt (jc r).length_le (Nat.lt_of_succ_lt_succ hn)) m2.src.suf ((m.trans m2).trans m3) e
    · rw [if_neg q] at e
      cases q':bE c with
      | true =>
       rw [q',if_pos rfl] at e
       exact m.src.tn (dA m.src fun σ3 m3=>ih r _ (Nat.lt_of_succ_lt_succ hn) m.src.suf (m.trans m3) e)
      | false =>
       rw [q',if_neg Bool.false_ne_true] at e
       rw [← e] at h
       exact h _ m
 exact loop _ rest _ (Nat.lt_succ_self _) hs.suf m1 rfl
end
noncomputable def bo(c:UInt8):Bool:=!bE c&&!b6 c
noncomputable def ax:ae→ae
 | []=>[]
 | c :: r=>match bo c with | true=>c :: ax r | false=>[]
noncomputable def aD:ae→ae
 | []=>[]
 | c :: r=>match bo c with | true=>aD r | false=>(match b6 c with | true=>c :: r | false=>if c=13 then bj r else r)
theorem cB:∀ x:ae,aD x <:+ x
 | []=>List.suffix_refl _
 | c :: r=>by
  rw [aD]
  cases bo c with
  | true=>exact (cB r).trans (List.suffix_cons _ _)
  | false =>
   cases b6 c with
   | true=>exact List.suffix_refl _
   | false =>
    by_cases q2:c=13
    · rw [if_pos q2];exact (bK r).trans (List.suffix_cons _ _)
    · rw [if_neg q2];exact List.suffix_cons _ _
theorem bY:∀ x:ae,(ax x).length≤x.length
 | []=>Nat.le_refl _
 | c :: r=>by
  rw [ax]
  cases bo c with
  | true=>exact Nat.succ_le_succ (bY r)
  | false=>exact Nat.zero_le _
noncomputable def cj(c:UInt8):Bool:=decide (48≤c.toNat∧c.toNat≤55)
noncomputable def bX:Nat→Nat→ae→Nat×ae
 | 0,n,r=>(n % 256,r)
 | _+1,n,[]=>(n % 256,[])
 | k+1,n,c :: r=>match cj c with | true=>bX k (8 * n+(c.toNat - 48)) r | false=>(n % 256,c :: r)
theorem qy:∀ (k n:Nat) (x:ae),(bX k n x).2 <:+ x
 | 0,_,_=>List.suffix_refl _
 | _+1,_,[]=>List.suffix_refl _
 | k+1,n,c :: r=>by
  rw [bX]
  cases cj c with
  | true=>exact (qy k _ r).trans (List.suffix_cons _ _)
  | false=>exact List.suffix_refl _
theorem uw:∀ (k n:Nat) (x:ae),(bX k n x).1 < 256
 | 0,_,_=>Nat.mod_lt _ (by decide)
 | _+1,_,[]=>Nat.mod_lt _ (by decide)
 | k+1,n,c :: r=>by
  rw [bX]
  cases cj c with
  | true=>exact uw k _ r
  | false=>exact Nat.mod_lt _ (by decide)
structure Mb(i j k:Nat)(all:ae)(σ σ':List O)(r:ae)(b:Bool)(f:ae):Prop where
 src:dw i j all σ' r b
 bar:σ'[k]? = some (.bar f)
 keep:aS [j,k] σ σ'
 len:σ.length≤σ'.length
section
variable{d:Nat}{c:UInt8}{σ σ0 σ' σ'' τ:List O}{Q:ag}{QF:aF}{X:ak}{i j k:Nat}{all rest r t f g:ae}{b b':Bool}
theorem Mb.trans(m:Mb i j k all σ σ' rest b f)(m':Mb i j k all σ' σ'' r b' g):Mb i j k all σ σ'' r b' g:=⟨m'.src,m'.bar,m.keep.trans m'.keep,Nat.le_trans m.len m'.len⟩
theorem Mb.mv(m:Mb i j k all σ σ' rest b f)(n:j≠k)(m':Mv i j all σ' σ'' r b'):Mb i j k all σ σ'' r b' f:=⟨m'.src,m'.keep _ _ m.bar fun z=>n (List.mem_singleton.mp z).symm,m.keep.trans (m'.keep.mono fun _ z=>List.mem_singleton.mp z ▸ .head _),Nat.le_trans m.len m'.len⟩
theorem Mb.app(m:Mb i j k all σ σ' rest b f):Mb i j k all σ (σ'++τ) rest b f:=⟨m.src.app,ac m.bar,m.keep.trans .app,Nat.le_trans m.len (List.length_append▸Nat.le_add_right ..)⟩
theorem Mb.put(m:Mb i j k all σ σ' rest b f)(n:j≠k):Mb i j k all σ (σ'.set k (.bar g)) rest b g :=
 ⟨⟨aN m.src.inst (fun z=>by have:=m.bar;rw [z,m.src.inst] at this;cases this),aN m.src.dat n.symm,m.src.suf,m.src.len⟩,bk m.bar,m.keep.put (.tail _ (.head _)),Nat.le_trans m.len (Nat.le_of_eq List.length_set.symm)⟩
theorem Mb.refl(hs:dw i j all σ rest b)(hb:σ[k]? = some (.bar f)):Mb i j k all σ σ rest b f:=⟨hs,hb,.refl,Nat.le_refl _⟩
theorem Mb.out(m:Mb i j k all σ σ' rest b f)(h:σ0.length≤k)(hk:aS [j] σ0 σ)(hl:σ0.length≤σ.length):Mv i j all σ0 σ' rest b :=
 ⟨m.src,fun a o e n=>m.keep _ _ (hk _ _ e n) fun z=>by
  rcases List.mem_cons.mp z with z | z
  · exact n (z ▸ .head _)
  · exact Nat.not_lt.mpr h (List.mem_singleton.mp z▸bm e),Nat.le_trans hl m.len⟩
theorem uh{m:Int}(hs:dw i j all σ rest b)(hm:((ax rest).length:Int)≤m)(h:∀ σ' b',Mv i j all σ σ' (aD rest) b'→Q (.bytes (ax rest)) σ'):Call (d+4) sH [.ref i,.int m] σ Q X:=by
 have hj:j≠σ.length:=fun z=>absurd (bm hs.dat) (z▸Nat.lt_irrefl _)
 have hal:=hs.len
 have hwl:=Nat.le_trans (bY rest) hs.suf.length_le
 refine .go jd rfl rfl rfl rfl (.bar0 (hs.app.tn (dA hs.app fun σ1 m1=>⟨fun P hP=>?_⟩)))
 have loop:∀ (n:Nat) (t f:ae) (σ':List O),t.length < n→t <:+ all→Mb i j σ.length all (σ++[.bar []]) σ' t.tail (!t.isEmpty) f→f++ax t=ax rest→aD t=aD rest→P [some (.ref i),some (.int m),some (.ref σ.length),some (f7 t)] σ':=fun n=>by
  induction n with
  | zero=>exact fun t f σ' hn=>absurd hn (Nat.not_lt_zero _)
  | succ n ih =>
   intro t f σ' hn hp m1 e1 e2
   have hfl:f.length≤(ax rest).length:=e1▸List.length_append▸Nat.le_add_right ..
   have out:∀ {σ2 r b},Mb i j σ.length all (σ++[.bar []]) σ2 r b f→Mv i j all σ σ2 r b:=fun m=>m.out (Nat.le_refl _) .app (List.length_append▸Nat.le_add_right ..)
   have bts:∀ {K:ag} {σ2},σ2[σ.length]? = some (.bar f)→K (.bytes f) σ2→Bi σ2 K .bytes [.ref σ.length]:=fun hb hk=>.bytesA hb (by omega) hk
   cases t with
   | nil =>
    rw [ax,List.append_nil] at e1
    rw [← e1,← e2] at h
    exact hP _ _ (.notN (r:=true) rfl rfl (.isN (r:=true) rfl (bts m1.bar (h _ _ (out m1)))))
   | cons c r =>
    rw [ax] at e1
    rw [aD] at e2
    unfold bo at e1 e2
    refine hP _ _ (.notN (r:=false) rfl rfl (mQ (?_:lS (.bool _) _ _)))
    cases hb:bE c with
    | true =>
     rw [hb] at e1 e2
     have e1:f++[]=ax rest:=e1
     rw [← e1,List.append_nil] at h
     refine .isN (r:=false) rfl (dK (?_:lS (.bool _) _ _))
     cases hd:b6 c with
     | true =>
      rw [hd] at e2
      have e2:c :: r=aD rest:=e2
      rw [← e2] at h
      exact m1.src.tb (d7 m1.src hp fun σ2 m2=>bts (m1.mv hj m2).bar (h _ _ (out (m1.mv hj m2))))
     | false =>
      rw [hd] at e2
      have e2:(if c=13 then bj r else r)=aD rest:=e2
      rw [← e2] at h
      refine .eqC 13 (fun q=>cb m1.src fun σ2 b2 m2=>bts (m1.mv hj m2).bar (h _ b2 ?_)) fun q=>bts m1.bar (h _ true ?_)
      · rw [if_pos q];exact out (m1.mv hj m2)
      · rw [if_neg q];exact out m1
    | false =>
     refine dK (?_:lS (.bool _) _ _)
     cases hd:b6 c with
     | true =>
      rw [hb,hd] at e1 e2
      have e1:f++[]=ax rest:=e1
      have e2:c :: r=aD rest:=e2
      rw [← e1,List.append_nil,← e2] at h
      refine .isN (r:=false) rfl (dK (hd▸m1.src.tb (d7 m1.src hp fun σ2 m2=>bts (m1.mv hj m2).bar (h _ _ (out (m1.mv hj m2))))))
     | false =>
      rw [hb,hd] at e1 e2
      have e1:f++c :: ax r=ax rest:=e1
      have hfl2:f.length+1≤(ax rest).length:=by rw [← e1,List.length_append];exact Nat.add_le_add_left (Nat.succ_le_succ (Nat.zero_le _)) _
      refine .lenA m1.bar (by omega) (.ge (fun z=>absurd z (by omega)) fun _=>.bApp m1.bar (.bApp m1.bar (by omega) rfl rfl ((m1.put (g:=f++[c]) hj).src.tn (dA (m1.put hj).src fun σ2 m2=>?_))))
      exact ih r _ _ (Nat.lt_of_succ_lt_succ hn) m1.src.suf ((m1.put hj).mv hj m2) (by rw [List.append_assoc];exact e1) e2
 exact loop _ rest [] _ (Nat.lt_succ_self _) hs.suf ((Mb.refl hs.app aa).mv hj m1) rfl rfl
end
noncomputable def wJ:List (UInt8×UInt8):=[(110,10),(114,13),(116,9),(98,8),(102,12)]
noncomputable def iy(c:UInt8):UInt8:=(wJ.lookup c).getD c
noncomputable def iu:List (Int×V):=[(110,.int 10),(114,.int 13),(116,.int 9),(98,.int 8),(102,.int 12)]
theorem i0{α:Type}{c:UInt8}{g:α→V}:∀ l:List (UInt8×α),(l.map fun p=>((p.1.toNat:Int),g p.2)).lookup (c.toNat:Int)=(l.lookup c).map g
 | []=>rfl
 | (k,v) :: l=>by
  rw [List.map_cons,List.lookup_cons,List.lookup_cons,show ((c.toNat:Int)==k.toNat)=(c==k) from Bool.eq_iff_iff.mpr ⟨fun h=>beq_iff_eq.mpr ((fE rfl).mp (eq_of_beq h)),fun h=>beq_iff_eq.mpr ((fE rfl).mpr (eq_of_beq h))⟩]
  cases c==k with
  | true=>rfl
  | false=>exact i0 l
theorem qD(c:UInt8):(iu.lookup (c.toNat:Int)).getD (.int c.toNat) = .int (iy c).toNat:=by
 rw [show iu.lookup (c.toNat:Int)=(wJ.lookup c).map fun x:UInt8=>V.int x.toNat from i0 (g:=fun x:UInt8=>V.int x.toNat) wJ]
 unfold iy
 cases wJ.lookup c<;>rfl
noncomputable def oP:ae→ae×ae
 | []=>([],[])
 | c :: r=>match cj c with
  | true=>([UInt8.ofNat (bX 2 (c.toNat - 48) r).1],(bX 2 (c.toNat - 48) r).2)
  | false=>if c=13 then ([],bj r) else if c=10 then ([],r) else ([iy c],r)
theorem hM:∀ {x:ae},(oP x).2 <:+ x∧(x≠[]→(oP x).2.length < x.length)∧(oP x).1.length≤1
 | []=>⟨List.suffix_refl _,fun h=>absurd rfl h,Nat.zero_le _⟩
 | c :: r=>by
  have fin:∀ {y o:ae},y <:+ r→o.length≤1→y <:+ c :: r∧(c :: r≠[]→y.length < (c :: r).length)∧o.length≤1:=fun hy ho=>⟨hy.trans (List.suffix_cons _ _),fun _=>Nat.lt_succ_of_le hy.length_le,ho⟩
  rw [oP]
  cases cj c with
  | true=>exact fin (qy _ _ _) (Nat.le_refl _)
  | false =>
   by_cases q:c=13
   · rw [if_pos q];exact fin (bK _) (Nat.zero_le _)
   · rw [if_neg q]
     by_cases q:c=10
     · rw [if_pos q];exact fin (List.suffix_refl _) (Nat.zero_le _)
     · rw [if_neg q];exact fin (List.suffix_refl _) (Nat.le_refl _)
section
variable{d:Nat}{c:UInt8}{σ σ0 σ' σ'' τ:List O}{Q:ag}{QF:aF}{X:ak}{i j k:Nat}{all rest r t f g:ae}{b b':Bool}
theorem Df{n:Nat}(h:n < 256):(n:Int)=(UInt8.ofNat n).toNat:=congrArg Int.ofNat (UInt8.toNat_ofNat_of_lt' h).symm
theorem band{K:ag}(n:Nat){z:Int}(hz:z=n)(hk:K (.int (n % 256:Nat)) σ):Bn σ K .band (.int z) (.int 255):=.band (hz▸Int.natCast_nonneg _) (hz▸(Int.natCast_emod ..).symm) hk
theorem rU(hs:dw i j all σ rest b)(ho:cj c=true)(h:∀ σ' b',Mv i j all σ σ' (bX 2 (c.toNat - 48) rest).2 b'→Q (.int (bX 2 (c.toNat - 48) rest).1) σ'):Call (d+2) rq [.ref i,.int c.toNat] σ Q X:=by
 have hc:48≤c.toNat∧c.toNat≤55:=of_decide_eq_true ho
 have loop:∀ (k:Nat) (a z:Int) (n:Nat) (t:ae) (v1:V) (e3:Option V) (σ':List O) (b:Bool),z=n→(n+1) * 8 ^ k≤512→Mv i j all σ σ' t b→bX k n t=bX 2 (c.toNat - 48) rest →
  lf (aR false [3]) (vcSs (Call (d+1)) (qA (at_ jw 1))) (fun _=>True) (kr (vcSs (Call (d+1)) [.ret (.bin .band (.var 2) (.cst (.int 255)))]) (eO Q) X) X (cT a 1 k) [some (.ref i),some v1,some (.int z),e3] σ':=by
  intro k
  induction k with
  | zero =>
   intro a z n t v1 e3 σ' b hz _ m e
   rw [← e] at h
   exact ⟨trivial,band n hz (h _ _ m)⟩
  | succ k ih =>
   intro a z n t v1 e3 σ' b hz hn m e
   refine ⟨trivial,_,rfl,m.src.tn (dA m.src fun σ2 m2=>?_)⟩
   cases t with
   | nil=>rw [← e] at h;exact .isN (r:=true) rfl (band n hz (h _ _ (m.trans m2)))
   | cons c r =>
    rw [bX] at e
    refine .isN (r:=false) rfl (nU (fun q=>?_) fun q=>?_)
    · rw [show cj c=true from decide_eq_true q] at e
      have hn':n≤511:=Nat.le_of_succ_le_succ (Nat.le_trans (Nat.le_mul_of_pos_right _ (Nat.pow_pos (by decide))) hn)
      refine .mul (kB (by decide)) (kB (hz▸Nat.lt_of_le_of_lt hn' (by decide))) rfl (.add rfl (.sub (n:=(8 * n+(c.toNat - 48):Nat)) (hz▸(i4 (n:=8 * n+c.toNat) (Nat.le_trans q.1 (Nat.le_add_left ..))).trans (congrArg Int.ofNat (Nat.add_sub_assoc q.1 _))) (ih _ _ _ r _ _ _ _ rfl (Nat.le_trans ?_ hn) (m.trans m2) e)))
      rw [Nat.pow_succ',← Nat.mul_assoc]
      exact Nat.mul_le_mul_right _ (Nat.succ_mul n 8▸Nat.mul_comm 8 n▸Nat.add_le_add_left (Nat.succ_le_succ (Nat.sub_le_iff_le_add.mpr q.2)) _)
    · rw [show cj c=false from decide_eq_false q] at e
      have e:(n % 256,c :: r)=_:=e
      rw [← e] at h
      exact m2.src.tb (d7 m2.src m.src.suf fun σ3 m3=>band n hz (h _ _ ((m.trans m2).trans m3)))
 exact .go iA rfl rfl rfl rfl (.sub rfl (.rng rfl (by decide) (by decide) (loop 2 0 _ _ rest _ _ σ b (i4 hc.1) (Nat.le_trans (Nat.mul_le_mul_right _ (Nat.succ_le_succ (Nat.sub_le_iff_le_add.mpr hc.2))) (by decide:(7+1) * 8 ^ 2≤512)) (.refl hs) rfl)))
theorem pN(hs:dw i j all σ rest b)(hb:σ[k]? = some (.bar f))(n:j≠k)(hf:f.length≤100000)(h0:rest=[]→∀ σ',aS [j] σ σ'→X lW σ')
 (h:∀ σ' b',Mb i j k all σ σ' (oP rest).2 b' (f++(oP rest).1)→Q .none σ'):Call (d+3) pE [.ref i,.ref k] σ Q X:=by
 have m0:=Mb.refl hs hb
 have hl:f.length≤1000000:=Nat.le_trans hf (by decide)
 refine .go gz rfl rfl rfl rfl (.int [110,114,116,98,102] rfl (by decide) (by decide) rfl (show _=iu from rfl) (bH hs.app (fun e σ' m=>h0 e _ (aS.app.trans m.keep)) fun c r e σ1 m1=>?_))
 have m:=m0.app.mv n m1
 have hm:σ1[σ.length]? = some (.idict iu):=m1.keep _ _ aa fun z=>absurd (bm hs.dat) (List.mem_singleton.mp z▸Nat.lt_irrefl _)
 subst e
 rw [oP] at h
 refine nU (fun q=>?_) fun q=>?_
 · have q:cj c=true:=decide_eq_true q
   rw [q] at h
   exact .bApp m.bar (rU m.src q fun σ2 b2 m2=>.bApp (m.mv n m2).bar hl (Df (uw ..)) rfl (h _ _ ((m.mv n m2).put n)))
 · rw [show cj c=false from decide_eq_false q] at h
   have h:∀ σ' b',Mb i j k all σ σ' (if c=13 then ([],bj r) else if c=10 then ([],r) else ([iy c],r)).2 b' (f++(if c=13 then ([],bj r) else if c=10 then ([],r) else ([iy c],r)).1)→Q .none σ':=h
   refine .eqC 13 (fun q=>cb m.src fun σ2 b2 m2=>?_) fun q=>.neC 10 (fun q2=>?_) fun q2=>.bApp m.bar (.get hm (.get hm (qD c) (.bApp m.bar hl rfl rfl ?_)))
   · rw [if_pos q,List.append_nil] at h
     exact h _ _ (m.mv n m2)
   · rw [if_neg q,if_pos q2,List.append_nil] at h
     exact h _ _ m
   · rw [if_neg q,if_neg q2] at h
     exact h _ _ (m.put n)
end
noncomputable def pre(o:ae)(x:Option (ae×ae)):Option (ae×ae):=x.map fun y=>(o++y.1,y.2)
theorem cm{a o:ae}{x:Option (ae×ae)}:pre a (pre o x)=pre (a++o) x:=by
 cases x with
 | none=>rfl
 | some y=>exact congrArg (fun z=>some (z,y.2)) (List.append_assoc ..).symm
theorem jm{x:Option (ae×ae)}:pre [] x=x:=by cases x<;>rfl
noncomputable def gm:Nat→Nat→ae→Option (ae×ae)
 | _,_,[]=>none
 | 0,_,_=>none
 | n+1,dep,c :: r=>if c=92 then pre (oP r).1 (gm n dep (oP r).2) else if c=13 then pre [10] (gm n dep (bj r)) else if c=40 then pre [40] (gm n (dep+1) r)
  else if c=41 then (if dep=1 then some ([],r) else pre [41] (gm n (dep - 1) r)) else pre [c] (gm n dep r)
theorem qC:∀ {n m dep:Nat} {x:ae},x.length≤n→x.length≤m→gm n dep x=gm m dep x
 | 0,0,_,[],_,_=>rfl
 | 0,_+1,_,[],_,_=>rfl
 | _+1,0,_,[],_,_=>rfl
 | _+1,_+1,_,[],_,_=>rfl
 | n+1,m+1,dep,c :: r,h1,h2=>by
  have h:∀ {y:ae} {d:Nat},y <:+ r→gm n d y=gm m d y:=fun hy=>qC (Nat.le_trans hy.length_le (Nat.le_of_succ_le_succ h1)) (Nat.le_trans hy.length_le (Nat.le_of_succ_le_succ h2))
  rw [gm,gm,h hM.1,h (bK r),h (List.suffix_refl r),h (List.suffix_refl r),h (List.suffix_refl r)]
noncomputable def iD(dep:Nat)(x:ae):Option (ae×ae):=gm x.length dep x
theorem eZ{dep:Nat}{c:UInt8}{r:ae}:iD dep (c :: r)=if c=92 then pre (oP r).1 (iD dep (oP r).2) else if c=13 then pre [10] (iD dep (bj r)) else if c=40 then pre [40] (iD (dep+1) r)
 else if c=41 then (if dep=1 then some ([],r) else pre [41] (iD (dep - 1) r)) else pre [c] (iD dep r):=by
 have h:∀ {y:ae} {d:Nat},y <:+ r→gm r.length d y=iD d y:=fun hy=>qC hy.length_le (Nat.le_refl _)
 show gm (r.length+1) dep (c :: r)=_
 rw [gm,h hM.1,h (bK r),h (List.suffix_refl r),h (List.suffix_refl r),h (List.suffix_refl r)]
theorem Cn{n m:Nat}(h:kF n=some m):m < 16:=by
 have r:∀ {a b:Nat},n≤b→b - a < 16→n - a < 16:=fun h k=>Nat.lt_of_le_of_lt (Nat.sub_le_sub_right h _) k
 unfold kF at h
 by_cases q:48≤n∧n≤57
 · rw [if_pos q] at h;exact Option.some.inj h▸r q.2 (by decide)
 · rw [if_neg q] at h
   by_cases q:65≤n∧n≤70
   · rw [if_pos q] at h;exact Option.some.inj h▸r q.2 (by decide)
   · rw [if_neg q] at h
     by_cases q:97≤n∧n≤102
     · rw [if_pos q] at h;exact Option.some.inj h▸r q.2 (by decide)
     · rw [if_neg q] at h;exact nomatch h
noncomputable def F0:Option Nat→ae
 | some x=>[UInt8.ofNat (16 * x)]
 | none=>[]
noncomputable def F4(c:UInt8)(rec:Option Nat→Option (ae×ae))(hi:Option Nat):Option Nat→Option (ae×ae)
 | none=>match aH c with | true=>rec hi | false=>none
 | some m=>match hi with | none=>rec (some m) | some x=>pre [UInt8.ofNat (16 * x+m)] (rec none)
noncomputable def dm(hi:Option Nat):ae→Option (ae×ae)
 | []=>none
 | c :: r=>if c=62 then some (F0 hi,r) else F4 c (fun hi=>dm hi r) hi (kF c.toNat)
section
variable{d:Nat}{c:UInt8}{env:au}{σ σ0 σ' σ'' τ:List O}{Q:ag}{QF:aF}{X:ak}{P:au→List O→Prop}{i j k:Nat}{all rest r t f g:ae}{b b':Bool}
theorem wT{bd:yw}(h:bd env σ (ja P QF) X):HF bd env P QF X true σ:=h
theorem dw.nl(hs:dw i j all σ rest b):j≠σ.length:=fun z=>absurd (bm hs.dat) (z▸Nat.lt_irrefl _)
theorem Mb.start(hs:dw i j all σ rest b):Mb i j σ.length all (σ++[.bar []]) (σ++[.bar []]) rest b []:=.refl hs.app aa
theorem Mb.end(m:Mb i j σ.length all (σ++[.bar []]) σ' rest b f):Mv i j all σ σ' rest b:=m.out (Nat.le_refl _) .app (List.length_append▸Nat.le_add_right ..)
noncomputable def HL:Nat→ae→ae→Option (ae×ae)
 | 0,f,t=>some (f,t)
 | n+1,f,t=>pre f (iD (n+1) t)
theorem oV(hs:dw i j all σ rest b)(h0:iD 1 rest=none→∀ σ',aS [j] σ σ'→X lW σ')(h:∀ o r',iD 1 rest=some (o,r')→∀ σ' b',Mv i j all σ σ' r' b'→Q (.bytes o) σ'):Call (d+4) pL [.ref i] σ Q X:=by
 have hj:=hs.nl
 have hal:=hs.len
 refine .go gX rfl rfl rfl rfl (.bar0 ⟨fun P hP=>?_⟩)
 have loop:∀ (n:Nat) (t f:ae) (dep:Nat) (z:Int) (e3:Option V) (σ':List O) (b':Bool),t.length < n→f.length+t.length≤100000→z=dep→Mb i j σ.length all (σ++[.bar []]) σ' t b' f→HL dep f t=iD 1 rest →
  P [some (.ref i),some (.ref σ.length),some (.int z),e3] σ':=fun n=>by
  induction n with
  | zero=>exact fun t f _ _ _ σ' _ hn=>absurd hn (Nat.not_lt_zero _)
  | succ n ih =>
   intro t f dep z e3 σ' b' hn hf hz m e
   have hfl:f.length≤1000000:=by omega
   cases dep with
   | zero=>exact hP _ _ (.gt (fun q=>absurd (hz▸q) (by decide)) fun _=>.bytesA m.bar hfl (h _ _ e.symm _ _ m.end))
   | succ dep =>
    refine hP _ _ (.gt (fun _=>wT (d6 5 fun P2 hP2=>bH m.src (fun et σ2 m2=>h0 ?_ _ (m.mv hj m2).end.keep) fun c r et σ2 m2=>?_)) fun q=>absurd (hz▸Int.ofNat_lt.mpr (Nat.succ_pos dep)) q)
    · rw [← e,et];rfl
    subst et
    have e:pre f (iD (dep+1) (c :: r))=iD 1 rest:=e
    rw [eZ] at e
    have m2:=m.mv hj m2
    have hn:=Nat.lt_of_succ_lt_succ hn
    have hf1:f.length+1+r.length≤100000:=Nat.add_right_comm ..▸hf
    have put:∀ (c':UInt8) (t':ae) (dep':Nat) (σ3:List O) (b3:Bool) (z:Int),z=(dep'+1:Nat)→t' <:+ r→Mb i j σ.length all (σ++[.bar []]) σ3 t' b3 f→pre f (pre [c'] (iD (dep'+1) t'))=iD 1 rest →
     P2 [some (.ref i),some (.ref σ.length),some (.int z),some (.int c'.toNat)] σ3:=fun c' t' dep' σ3 b3 z hz ht m3 e=>by
     refine hP2 _ _ (.gt (fun _=>.bApp m3.bar (.bApp m3.bar hfl rfl rfl (ih t' (f++[c']) (dep'+1) _ _ _ _ (Nat.lt_of_le_of_lt ht.length_le hn) ?_ hz (m3.put hj) (cm.symm.trans e)))) fun q=>absurd (hz▸Int.ofNat_lt.mpr (Nat.succ_pos dep')) q)
     rw [List.length_append]
     exact Nat.le_trans (Nat.add_le_add_left ht.length_le _) hf1
    refine .eqC 92 (fun q=>?_) fun q=>.eqC 13 (fun q1=>cb m2.src fun σ3 b3 m3=>?_) fun q1=>.eqC 40 (fun q2=>.add (n:=(dep+1+1:Nat)) (hz▸rfl) (.eqC 41 (fun z=>absurd (q2▸z) (by decide)) fun _=>?_)) fun q2=>.eqC 41 (fun q3=>.sub rfl ?_) fun q3=>?_
    · rw [if_pos q,cm] at e
      refine pN m2.src m2.bar hj (Nat.le_trans (Nat.le_add_right ..) hf) (fun er σ3 k3=>h0 ?_ _ ?_) fun σ3 b3 m3=>?_
      · rw [← e,er];rfl
      · exact fun a o e n=>k3 _ _ (m2.end.keep _ _ e n) n
      · obtain ⟨s1,-,s3⟩:=hM (x:=r)
        refine ih _ _ (dep+1) _ _ _ _ (Nat.lt_of_le_of_lt s1.length_le hn) ?_ hz (m2.trans m3) e
        rw [List.length_append]
        exact Nat.le_trans (Nat.add_le_add (Nat.add_le_add_left s3 _) s1.length_le) hf1
    · rw [if_neg q,if_pos q1] at e
      exact .eqI (fun z=>absurd z (by decide)) fun _=>.eqI (fun z=>absurd z (by decide)) fun _=>put 10 _ dep _ _ _ hz (bK r) (m2.mv hj m3) e
    · rw [if_neg q,if_neg q1,if_pos q2] at e
      exact put c r (dep+1) _ _ _ rfl (List.suffix_refl _) m2 (q2▸e)
    · rw [if_neg q,if_neg q1,if_neg q2,if_pos q3] at e
      cases dep with
      | zero =>
       refine hP2 _ _ (.gt (fun z=>absurd (hz▸z) (by decide)) fun _=>ih r f 0 _ _ _ _ hn (Nat.le_trans (Nat.add_le_add_right (Nat.le_succ _) _) hf1) (hz▸rfl) m2 ?_)
       rw [← e,if_pos rfl]
       exact congrArg (fun x=>some (x,r)) (List.append_nil f).symm
      | succ dep=>rw [if_neg (Nat.succ_ne_succ_iff.mpr (Nat.succ_ne_zero dep))] at e;exact put c r dep _ _ _ (hz▸Int.add_sub_cancel ((dep+1:Nat):Int) 1) (List.suffix_refl _) m2 (q3▸e)
    · rw [if_neg q,if_neg q1,if_neg q2,if_neg q3] at e
      exact put c r dep _ _ _ hz (List.suffix_refl _) m2 e
 exact loop _ rest [] 1 _ _ _ _ (Nat.lt_succ_self _) (Nat.zero_add _▸Nat.le_trans hs.suf.length_le hal) rfl (.start hs) jm
theorem wF(hs:dw i j all σ rest b)(h0:dm none rest=none→∀ σ',aS [j] σ σ'→X lW σ')(h:∀ o r',dm none rest=some (o,r')→∀ σ' b',Mv i j all σ σ' r' b'→Q (.bytes o) σ'):Call (d+4) vR [.ref i] σ Q X:=by
 have hj:=hs.nl
 have hal:=hs.len
 refine .go lH rfl rfl rfl rfl (.bar0 (bH hs.app (fun et σ' m=>h0 (et▸rfl) _ ((Mb.start hs).mv hj m).end.keep) fun c r et σ1 m1=>⟨fun P hP=>?_⟩))
 have loop:∀ (n:Nat) (c:UInt8) (r f:ae) (hi:Option Nat) (e4:Option V) (σ':List O) (b':Bool),r.length < n→f.length+r.length≤100000→(∀ x,hi=some x→x < 16)→Mb i j σ.length all (σ++[.bar []]) σ' r b' f→pre f (dm hi (c :: r))=dm none rest →
  P [some (.ref i),some (.ref σ.length),some (dW hi),some (.int c.toNat),e4] σ':=fun n=>by
  induction n with
  | zero=>exact fun c r f _ _ σ' _ hn=>absurd hn (Nat.not_lt_zero _)
  | succ n ih =>
   intro c r f hi e4 σ' b' hn hf hh m e
   have hfl:f.length≤1000000:=Nat.le_trans (Nat.le_add_right ..) (Nat.le_trans hf (by decide))
   have i16:∀ {x:Nat},x < 16→oY x:=fun h=>kB (Nat.lt_trans h (by decide))
   rw [dm] at e
   refine hP _ _ (.neC 62 (fun q=>?_) fun q=>wT (d6 3 fun P2 hP2=>sV ?_))
   · rw [if_pos q] at e
     cases hi with
     | none =>
      have e:some (f++[],r)=dm none rest:=e
      rw [List.append_nil] at e
      exact .notN (r:=true) rfl rfl (.bytesA m.bar hfl (h _ _ e.symm _ _ m.end))
     | some x =>
      have hx:=hh x rfl
      exact .notN (r:=false) rfl rfl (.bApp m.bar (.mul (kB (by decide)) (i16 hx) rfl (.bApp m.bar hfl (Df (n:=16 * x) (by omega)) rfl (.bytesA (m.put hj).bar (by rw [List.length_append];show _+1≤_;omega) (h _ _ e.symm _ _ (m.put hj).end)))))
   · rw [if_neg q] at e
     have again:∀ (f':ae) (hi':Option Nat) (v4:V) (σ3:List O),f'.length≤f.length+1→(∀ x,hi'=some x→x < 16)→Mb i j σ.length all (σ++[.bar []]) σ3 r b' f'→pre f' (dm hi' r)=dm none rest→P2 [some (.ref i),some (.ref σ.length),some (dW hi'),some (.int c.toNat),some v4] σ3:=fun f' hi' v4 σ3 hf' hh' m3 e=>by
      refine hP2 _ _ (bH m3.src (fun et σ' m4=>h0 ?_ _ (m3.mv hj m4).end.keep) fun c2 r2 et σ4 m4=>?_)
      · rw [← e,et];rfl
      · subst et
        rw [List.length_cons] at hn hf
        exact ih c2 r2 f' hi' _ _ _ (Nat.lt_of_succ_lt_succ hn) (by omega) hh' (m3.mv hj m4) e
     show oE _ _ _ (dW (kF c.toNat)) _
     cases hx:kF c.toNat with
     | none =>
      rw [hx] at e
      have e:pre f (match aH c with | true=>dm hi r | false=>none)=dm none rest:=e
      refine .isN (r:=true) rfl (iX (?_:lS (.bool _) _ _))
      cases qw:aH c with
      | true=>rw [qw] at e;exact .notN (r:=true) rfl rfl (.notN (r:=true) rfl rfl (again f hi _ _ (Nat.le_succ _) hh m e))
      | false=>rw [qw] at e;exact h0 e.symm _ m.end.keep
     | some y =>
      have hy:=Cn hx
      rw [hx] at e
      cases hi with
      | none=>exact .isN (r:=false) rfl (.notN (r:=false) rfl rfl (.isN (r:=true) rfl (again f (some y) _ _ (Nat.le_succ _) (fun x z=>Option.some.inj z▸hy) m e)))
      | some x =>
       have hx:=hh x rfl
       refine .isN (r:=false) rfl (.notN (r:=false) rfl rfl (.isN (r:=false) rfl (.notN (r:=false) rfl rfl (.bApp m.bar (.mul (kB (by decide)) (i16 hx) rfl (.add rfl (.bApp m.bar hfl (Df (n:=16 * x+y) (by omega)) rfl ?_)))))))
       exact again _ none _ _ (Nat.le_of_eq List.length_append) nofun (m.put hj) (cm.symm.trans e)
 subst et
 have hr:r.length≤100000:=Nat.le_of_succ_le (Nat.le_trans hs.suf.length_le hal)
 exact loop _ c r [] none none _ _ (Nat.lt_succ_self _) (Nat.zero_add _▸hr) nofun ((Mb.start hs).mv hj m1) jm
end
theorem AU{a b m y:Nat}(ha:a < b ^ m)(hy:y < b):a * b+y < b ^ (m+1):=Nat.lt_of_lt_of_le (Nat.add_lt_add_left hy _) (Nat.succ_mul ..▸Nat.mul_le_mul_right b ha)
noncomputable def uB(l:List Nat):List Nat:=l++List.replicate (5 - l.length) 84
noncomputable def lX(l:List Nat):Nat:=val 85 (uB l)
noncomputable def Dy(n:Nat):ae:=[UInt8.ofNat (n / 2 ^ 24),UInt8.ofNat (n / 2 ^ 16),UInt8.ofNat (n / 2 ^ 8),UInt8.ofNat n]
noncomputable def u1(l:List Nat):Option ae:=if l.length < 2 then none else if 4294967296≤lX l then none else some ((Dy (lX l)).take (l.length - 1))
theorem o8{n:Nat}:((n:Int) % 256)=(UInt8.ofNat n).toNat:=congrArg Int.ofNat UInt8.toNat_ofNat'.symm
theorem fS{l:List Nat}{o:ae}(h:u1 l=some o):o.length≤4∧o.length+1≤l.length:=by
 unfold u1 at h
 by_cases q:l.length < 2
 · rw [if_pos q] at h;exact nomatch h
 · rw [if_neg q] at h
   by_cases q2:4294967296≤lX l
   · rw [if_pos q2] at h;exact nomatch h
   · rw [if_neg q2] at h
     rw [← Option.some.inj h,List.length_take]
     exact ⟨Nat.min_le_right _ 4,Nat.le_trans (Nat.succ_le_succ (Nat.min_le_left ..)) (Nat.le_of_eq (Nat.sub_add_cancel (Nat.le_of_succ_le (Nat.not_lt.mp q))))⟩
theorem km{n m:Nat}:(List.replicate n [V.int (m:Int)]).flatten=aV (List.replicate n m):=by
 induction n with
 | zero=>rfl
 | succ n ih=>rw [List.replicate_succ,List.flatten_cons,ih];rfl
section
variable{d:Nat}{c:UInt8}{env:au}{σ σ0 σ' σ'' τ:List O}{Q:ag}{QF:aF}{X:ak}{i j k:Nat}{all rest r t f g:ae}{b b':Bool}
theorem BT{L:List Nat}{N:Nat}(hk:σ[j]? = some (.list (aV L)))(h:∀ e2,QF .next [some (.ref k),some (.int N),e2] σ):∀ (l:List Nat) (m a:Nat) (z:Int) (e2:Option V),z=a→a < 85 ^ m→m+l.length≤5→(∀ x∈l,x < 85)→a * 85 ^ l.length+val 85 l=N →
 lf (aR false [2]) (vcSs (Call d) (qA (at_ jT 1))) (fun σ'=>σ'[j]? = some (.list (aV L))) QF X (aV l) [some (.ref k),some (.int z),e2] σ:=by
 intro l
 induction l with
 | nil =>
  intro m a z e2 hz _ _ _ e
  refine ⟨hk,?_⟩
  rw [hz,show (a:Int)=N from congrArg _ (by rw [← e];exact (Nat.mul_one a).symm)]
  exact h _
 | cons y l ih =>
  intro m a z e2 hz ha hm hx e
  have ha2:a < 85 ^ 5:=Nat.lt_of_lt_of_le ha (Nat.pow_le_pow_right (by decide) (Nat.le_trans (Nat.le_add_right ..) hm))
  refine ⟨hk,_,rfl,.mul (kB (by decide)) (hz▸kB (Nat.lt_trans ha2 (by decide))) rfl (.add rfl (ih (m+1) (a * 85+y) _ _ ?_ (AU ha (hx y (.head _))) (Nat.add_right_comm m _ 1▸hm) (fun x k=>hx x (.tail _ k)) ?_))⟩
  · rw [hz,Int.mul_comm];rfl
  · rw [← e,Nat.add_mul,Nat.mul_assoc,← Nat.pow_succ',Nat.add_assoc];rfl
theorem jB{l:List Nat}(hk:σ[k]? = some (.list (aV l)))(hl:l.length≤5)(hx:∀ x∈l,x < 85)(h0:u1 l=none→∀ σ',Ge σ σ'→X lW σ')(h:∀ o,u1 l=some o→∀ σ',Ge σ σ'→Q (.bytes o) σ'):Call (d+1) qM [.ref k] σ Q X:=by
 have hv:(aV l).length≤1000000:=aC▸Nat.le_trans hl (by decide)
 have hp:(uB l).length=5:=by rw [uB,List.length_append,List.length_replicate];exact Nat.add_sub_cancel' hl
 have hpx:∀ x∈uB l,x < 85:=fun x m=>(List.mem_append.mp m).elim (hx x) fun m=>(List.mem_replicate.mp m).2▸by decide
 have hpv:(aV (uB l)).length≤1000000:=by rw [aC,hp];decide
 have en:(5:Int) - ((aV l).length:Nat)=(5 - l.length:Nat):=by rw [aC];exact (Int.ofNat_sub hl).symm
 refine .go iF rfl rfl rfl rfl (.sub rfl (.lenL (ac hk) hv (.sub en (.lmul aa (by decide) (Int.ofNat_le.mpr (Nat.le_trans (Nat.sub_le ..) (by decide:5≤16))) (Int.le_trans (by decide) (Int.natCast_nonneg _)) (km (m:=84)) (.lcat (ac (ac hk)) aa ?_ (zs:=aV (uB l)) List.map_append.symm (.plainL aa hpv ?_))))))
 · rw [aC] at hpv;rw [aC,aC,← List.length_append];exact hpv
 refine BT aa (fun e2=>.lenL (ac (ac (ac hk))) hv ?_) (uB l) 0 0 _ _ rfl Nat.one_pos (Nat.zero_add _▸Nat.le_of_eq hp) hpx (by rw [Nat.zero_mul,Nat.zero_add])
 rw [aC]
 unfold u1 at h0 h
 refine .lt (fun q=>h0 (if_pos (Int.ofNat_lt.mp q)) _ .a3) fun q=>?_
 have q:¬l.length < 2:=fun z=>q (Int.ofNat_lt.mpr z)
 rw [if_neg q] at h0 h
 refine .pow (k:=32) rfl (by decide) (by decide) rfl (.ge (fun q2=>h0 (if_pos (Int.ofNat_le.mp q2)) _ .a3) fun q2=>?_)
 have q2:¬4294967296≤lX l:=fun z=>q2 (Int.ofNat_le.mpr z)
 rw [if_neg q2] at h
 have n24:lX l / 2 ^ 24 < 256:=Nat.div_lt_of_lt_mul (Nat.not_le.mp q2)
 refine .shr (k:=24) rfl (Df n24) (.shr (k:=16) rfl rfl (.band (Int.natCast_nonneg (lX l / 2 ^ 16)) o8 (.shr (k:=8) rfl rfl (.band (Int.natCast_nonneg (lX l / 2 ^ 8)) o8 (.band (Int.natCast_nonneg _) o8 (.bytesL aa (x:=Dy (lX l)) rfl (show 4≤1000000 by decide) (.lenL (ac (ac (ac (ac hk)))) hv (.sub (n:=(l.length - 1:Nat)) ?_ (.bytes .nil (.int rfl ?_) (show 4≤1000000 by decide) rfl (h _ rfl _ .a4))))))))))
 · rw [aC];exact (Int.ofNat_sub (Nat.le_of_succ_le (Nat.not_lt.mp q))).symm
 · exact Nat.le_trans (Nat.sub_le ..) (Nat.le_trans hl (by decide))
end
noncomputable def ki(l:List Nat):ae→Option (ae×ae)
 | []=>none
 | c :: r=>if c=126 then (if r.head? = some 62 then (if l=[] then some ([],r.tail) else (u1 l).map fun o=>(o,r.tail)) else none)
  else if c=122∧l=[] then pre [0,0,0,0] (ki [] r)
  else if 33≤c.toNat∧c.toNat≤117 then
   (if l.length=4 then (u1 (l++[c.toNat - 33])).bind fun o=>pre o (ki [] r) else ki (l++[c.toNat - 33]) r)
  else match aH c with | true=>ki l r | false=>none
section
variable{d:Nat}{c:UInt8}{env:au}{σ σ0 σ' σ'' τ:List O}{Q:ag}{QF:aF}{X:ak}{i j k:Nat}{all rest r t f g:ae}{b b':Bool}
theorem eR{l:List Nat}:aV l=[]↔l=[]:=List.map_eq_nil_iff
theorem p9{a b:List Nat}:aV a++aV b=aV (a++b):=List.map_append.symm
theorem Mb.ge(m:Mb i j k all σ σ' rest b f)(g:Ge σ' σ''):Mb i j k all σ σ'' rest b f:=⟨⟨g _ _ m.src.inst,g _ _ m.src.dat,m.src.suf,m.src.len⟩,g _ _ m.bar,m.keep.trans (.of g),Nat.le_trans m.len (Nat.le_of_not_lt fun h=>by
 have:=g _ _ (List.getElem?_eq_getElem h)
 rw [List.getElem?_eq_none (Nat.le_refl _)] at this
 cases this)⟩
theorem IF{op:Cp}{v:V}{r:Ev}{QB:aX}(h:QB false σ):zv op v r env QB X false σ:=h
theorem a7{a b:Nat}{o1 o2:O}(h1:σ[a]? = some o1)(h2:σ[b]? = some o2)(n:o1≠o2):a≠b:=fun z=>n (Option.some.inj (h1.symm.trans (z▸h2)))
theorem dw.nk{xs:List V}(hs:dw i j all σ rest b)(h:σ[k]? = some (.list xs)):k∉[j]:=fun z=>a7 h hs.dat nofun (List.mem_singleton.mp z)
theorem Mb.new{k2:Nat}{xs ys:List V}(m:Mb i j k all σ σ' rest b f)(hk:σ'[k2]? = some (.list xs))(h:σ.length≤k2):Mb i j k all σ (σ'.set k2 (.list ys)) rest b f :=
 ⟨⟨aN m.src.inst (a7 hk m.src.inst nofun),aN m.src.dat (a7 hk m.src.dat nofun),m.src.suf,m.src.len⟩,aN m.bar (a7 hk m.bar nofun),m.keep.new h,Nat.le_trans m.len (Nat.le_of_eq List.length_set.symm)⟩
theorem pQ(hs:dw i j all σ rest b)(h0:ki [] rest=none→∀ σ',aS [j] σ σ'→X lW σ')(h:∀ o r',ki [] rest=some (o,r')→∀ σ' b',Mv i j all σ σ' r' b'→Q (.bytes o) σ'):Call (d+4) pG [.ref i] σ Q X:=by
 have hj:=hs.nl
 have hal:=hs.len
 refine .go gS rfl rfl rfl rfl (.bar0 (bH hs.app.app (fun et σ' m=>h0 (et▸rfl) _ ((Mb.start hs).app.mv hj m).end.keep) fun c r et σ1 m1=>⟨fun P hP=>?_⟩))
 have loop:∀ (n:Nat) (c:UInt8) (r f:ae) (k:Nat) (l:List Nat) (σ':List O) (b':Bool),r.length < n→f.length+4 * r.length≤400000→Mb i j σ.length all (σ++[.bar []]) σ' r b' f→σ'[k]? = some (.list (aV l))→(σ++[O.bar []]).length≤k→l.length≤4→(∀ x∈l,x < 85)→pre f (ki l (c :: r))=ki [] rest →
  P [some (.ref i),some (.ref σ.length),some (.ref k),some (.int c.toNat)] σ':=fun n=>by
  induction n with
  | zero=>exact fun c r f _ _ σ' _ hn=>absurd hn (Nat.not_lt_zero _)
  | succ n ih =>
   intro c r f k l σ' b' hn hf m hk hkl hl hx e
   have hv:∀ {l:List Nat},l.length≤5→(aV l).length≤1000000:=fun h=>aC▸Nat.le_trans h (by decide)
   have hl5:l.length≤5:=Nat.le_succ_of_le hl
   have f4:f.length+4≤1000000:=by omega
   rw [ki] at e
   refine hP _ _ (.neC 126 (fun q=>bH m.src (fun er σ2 m2=>h0 ?_ _ (m.mv hj m2).end.keep) fun c2 r2 er σ2 m2=>.neC 62 (fun q2=>?_) fun q2=>h0 ?_ _ (m.mv hj m2).end.keep) fun q=>wT (d6 1 fun P1 hP1=>?_))
   · rw [← e,if_pos q,er];rfl
   · rw [if_pos q,er,if_pos (show (c2 :: r2).head? = some 62 from congrArg some q2)] at e
     have m2:=m.mv hj m2
     have hk2:σ2[k]? = some (.list (aV l)):=(‹Mv i j all σ' σ2 r2 true›).keep _ _ hk (m.src.nk hk)
     refine .neNil (ac hk2) aa (fun q3=>?_) fun q3=>.bExt m2.app.bar (jB (ac hk2) hl5 hx (fun eg σ3 g=>h0 ?_ _ (m2.app.ge g).end.keep) fun o eo σ3 g=>.bExt (m2.app.ge g).bar ?_ rfl (.bytesA ((m2.app.ge g).put hj).bar ?_ (h _ _ ?_ _ _ ((m2.app.ge g).put hj).end)))
     · rw [if_pos (eR.mp q3)] at e
       have e:some (f++[],r2)=_:=e
       rw [List.append_nil] at e
       exact .bytesA m2.app.bar (Nat.le_trans (Nat.le_add_right ..) f4) (h _ _ e.symm _ _ m2.app.end)
     · rw [← e,if_neg fun z=>q3 (eR.mpr z),eg];rfl
     · exact Nat.le_trans (Nat.add_le_add_left (fS eo).1 _) f4
     · rw [List.length_append];exact Nat.le_trans (Nat.add_le_add_left (fS eo).1 _) f4
     · rw [← e,if_neg fun z=>q3 (eR.mpr z),eo];rfl
   · rw [← e,if_pos q,er,if_neg (show ¬(c2 :: r2).head? = some 62 from fun z=>q2 (Option.some.inj z))];rfl
   · rw [if_neg q] at e
     have again:∀ (f':ae) (k':Nat) (l':List Nat) (σ3:List O),f'.length≤f.length+4→Mb i j σ.length all (σ++[.bar []]) σ3 r b' f'→σ3[k']? = some (.list (aV l'))→(σ++[O.bar []]).length≤k'→l'.length≤4→(∀ x∈l',x < 85)→pre f' (ki l' r)=ki [] rest →
      vcSs (Call (d+3)) ((qA (at_ bC 2)).drop 2) [some (.ref i),some (.ref σ.length),some (.ref k'),some (.int c.toNat)] σ3 (ja P (kr (vcSs (Call (d+3)) (bC.drop 3)) (eO Q) X)) X:=fun f' k' l' σ3 h1 m3 hk3 hkl' h4 h5 e=>by
      refine bH m3.src (fun et σ' m4=>h0 ?_ _ (m3.mv hj m4).end.keep) fun c2 r2 et σ4 m4=>?_
      · rw [← e,et];rfl
      · subst et
        rw [List.length_cons] at hn hf
        exact ih c2 r2 f' k' l' _ _ (Nat.lt_of_succ_lt_succ hn) (by omega) (m3.mv hj m4) (m4.keep _ _ hk3 (m3.src.nk hk3)) hkl' h4 h5 e
     have midA:∀ (f':ae) (l':List Nat) (σ3:List O),f'.length≤f.length+4→Mb i j σ.length all (σ++[.bar []]) σ3 r b' f'→σ3[k]? = some (.list (aV l'))→l'.length≤4→(∀ x∈l',x < 85)→pre f' (ki l' r)=ki [] rest →
      P1 [some (.ref i),some (.ref σ.length),some (.ref k),some (.int c.toNat)] σ3:=fun f' l' σ3 h1 m3 hk3 h4 h5 e=>by
      refine hP1 _ _ (d6 1 fun P3 hP3=>.lenL hk3 (hv (Nat.le_succ_of_le h4)) (.eqI (fun z=>?_) fun _=>hP3 _ _ (again f' k l' σ3 h1 m3 hk3 hkl h4 h5 e)))
      rw [aC] at z
      exact absurd (Int.ofNat.inj z) (Nat.ne_of_lt (Nat.lt_succ_of_le h4))
     have els:¬(c=122∧l=[])→∀ {σ3:List O},Mb i j σ.length all (σ++[.bar []]) σ3 r b' f→σ3[k]? = some (.list (aV l))→vcSs (Call (d+3)) (so (at_ (qA (at_ bC 2)) 0)) [some (.ref i),some (.ref σ.length),some (.ref k),some (.int c.toNat)] σ3 (kr (vcSs (Call (d+3)) []) (jk P1 (ja P (kr (vcSs (Call (d+3)) (bC.drop 3)) (eO Q) X))) X) X:=fun nz {σ3} m3 hk3=>by
      rw [if_neg nz] at e
      have non:¬(33≤c.toNat∧c.toNat≤117)→vcSs (Call (d+3)) (so (at_ (so (at_ (qA (at_ bC 2)) 0)) 0)) [some (.ref i),some (.ref σ.length),some (.ref k),some (.int c.toNat)] σ3 (kr (vcSs (Call (d+3)) []) (kr (vcSs (Call (d+3)) []) (jk P1 (ja P (kr (vcSs (Call (d+3)) (bC.drop 3)) (eO Q) X))) X) X) X:=fun q3=>by
       rw [if_neg q3] at e
       refine iX (?_:lS (.bool _) _ _)
       cases qw:aH c with
       | false=>rw [qw] at e;exact h0 e.symm _ m3.end.keep
       | true=>rw [qw] at e;exact midA f l σ3 (Nat.le_add_right ..) m3 hk3 hl hx e
      refine .le (fun q3=>.add rfl (.lt (fun q4=>?_) fun q4=>?_)) fun q3=>?_
      · have q3:33≤c.toNat∧c.toNat≤117:=⟨Int.ofNat_le.mp q3,Nat.le_of_lt_succ (Int.ofNat_lt.mp q4)⟩
        rw [if_pos q3] at e
        have hx':∀ x∈l++[c.toNat - 33],x < 85:=fun x m=>(List.mem_append.mp m).elim (hx x) fun m=>List.mem_singleton.mp m▸Nat.lt_succ_of_le (Nat.sub_le_sub_right q3.2 33)
        have hv3:=hv hl5
        refine .lApp hk3 (.sub (i4 q3.1) (.lApp hk3 hv3 (p9 (b:=[_])) ?_))
        have m4:=m3.new (ys:=aV (l++[c.toNat - 33])) hk3 hkl
        have hk4:=bk hk3 (o':=.list (aV (l++[c.toNat - 33])))
        by_cases q5:l.length=4
        · rw [if_pos q5] at e
          have hl':(l++[c.toNat - 33]).length=5:=List.length_append.trans (congrArg (·+1) q5)
          refine hP1 _ _ (.lenL hk4 (hv (Nat.le_of_eq hl')) (.eqI (fun _=>.bExt m4.bar (jB hk4 (Nat.le_of_eq hl') hx' (fun eg σ5 g=>h0 ?_ _ (m4.ge g).end.keep) fun o eo σ5 g=>.bExt (m4.ge g).bar ?_ rfl (again (f++o) _ [] _ ?_ ((m4.ge g).put hj).app aa ?_ (Nat.zero_le _) nofun ?_))) fun z=>absurd (aC▸congrArg Int.ofNat hl') z))
          · rw [← e,eg];rfl
          · exact Nat.le_trans (Nat.add_le_add_left (fS eo).1 _) f4
          · rw [List.length_append];exact Nat.add_le_add_left (fS eo).1 _
          · exact ((m4.ge g).put hj).len
          · rw [← e,eo,← cm];rfl
        · rw [if_neg q5] at e
          exact midA f _ _ (Nat.le_add_right ..) m4 hk4 (by rw [List.length_append];exact Nat.succ_le_of_lt (Nat.lt_of_le_of_ne hl q5)) hx' e
      · exact tF (non fun z=>q4 (Int.ofNat_lt.mpr (Nat.lt_succ_of_le z.2)))
      · exact IF (tF (non fun z=>q3 (Int.ofNat_le.mpr z.1)))
     refine .eqC 122 (fun q2=>.eqNil (ac hk) aa (fun q3=>?_) fun q3=>?_) fun q2=>?_
     · have q3:=eR.mp q3
       rw [if_pos ⟨q2,q3⟩,cm] at e
       have m:=m.app (τ:=[.list []])
       exact .bExt m.bar (.bytesN (by decide) (by decide) rfl (.bExt m.bar f4 rfl (midA (f++[0,0,0,0]) l _ (Nat.le_of_eq List.length_append) (m.put hj) (aN (ac hk) (a7 m.bar (ac hk) nofun)) hl hx (q3▸e))))
     · exact Hj (tF (els (fun z=>q3 (eR.mpr z.2)) m.app (ac hk)))
     · exact Hj (tF (els (fun z=>q2 z.1) m hk))
 subst et
 have hr:r.length≤100000:=Nat.le_of_succ_le (Nat.le_trans hs.suf.length_le hal)
 exact loop _ c r [] (σ++[O.bar []]).length [] _ _ (Nat.lt_succ_self _) (Nat.zero_add _▸Nat.mul_le_mul_left 4 hr) ((Mb.start hs).app.mv hj m1) (m1.keep _ _ aa (hs.app.app.nk (aa (a:=O.list [])))) (Nat.le_refl _) (Nat.zero_le _) nofun jm
end
structure Nw(σ σ':List O)(i j c:Nat)(es:List (Nat×V)):Prop where
 inst:σ'[i]? = some (.inst c j)
 dat:σ'[j]? = some (.attrs es)
 ge:Ge σ σ'
 fi:σ.length≤i
 fj:σ.length≤j
noncomputable def cA(k v:V)(e:Bool)(a:Int):List (Nat×V):=[(oq,k),(my,v),(kP,.bool e),(tf,.int a)]
noncomputable def pU(n:Int)(k:Nat):List (Nat×V):=[(ch,.int n),(gO,.ref k),(db,.bool false),(wH,.int 0)]
noncomputable def wD(n:Int)(k:Nat):List (Nat×V):=[(ch,.int n),(nJ,.ref k),(db,.bool false),(wH,.int 0)]
noncomputable def jr(i:Nat)(n:Int):List (Nat×V):=[(vm,.ref i),(xb,.int 0),(Fd,.int n)]
section
variable{call:aw}{d:Nat}{c:Nat}{σ σ' σ'' τ:List O}{Q:ag}{QF:aF}{X:ak}{i j k:Nat}{es es':List (Nat×V)}{w:ae}{xs:List V}{n:Int}
theorem Ge.len(g:Ge σ σ'):σ.length≤σ'.length:=Nat.le_of_not_lt fun h=>by
 have:=g _ _ (List.getElem?_eq_getElem h)
 rw [List.getElem?_eq_none (Nat.le_refl _)] at this
 cases this
theorem Ge.new{o:O}(g:Ge σ σ')(h:σ.length≤k):Ge σ (σ'.set k o):=fun i o e=>by
 rw [List.getElem?_set_ne (fun q:k=i=>Nat.not_lt.mpr h (q▸bm e))];exact g i o e
theorem Nw.start:Nw σ (σ++[.attrs [],.inst c σ.length]) (σ.length+1) σ.length c []:=⟨zI (k:=1) rfl,zI (k:=0) rfl,.a1,Nat.le_succ _,Nat.le_refl _⟩
theorem Nw.put(m:Nw σ σ' i j c es):Nw σ (σ'.set j (.attrs es')) i j c es':=⟨aN m.inst (a7 m.dat m.inst nofun),bk m.dat,m.ge.new m.fj,m.fi,m.fj⟩
theorem Nw.go(m:Nw σ σ' i j c es)(g:Ge σ' σ''):Nw σ σ'' i j c es:=⟨g _ _ m.inst,g _ _ m.dat,m.ge.trans g,m.fi,m.fj⟩
theorem nH{vs:List V}{k v e a:V}(he:cG.env ((V.ref (σ.length+1) :: vs)++cG.defs (V.ref (σ.length+1) :: vs).length)=[some (.ref (σ.length+1)),some k,some v,some e,some a])(h1:Nat.ble (V.ref (σ.length+1) :: vs).length 5=true)(h2:Nat.ble 5 ((V.ref (σ.length+1) :: vs).length+2)=true)
 (h:∀ i j σ',Nw σ σ' i j 1 [(oq,k),(my,v),(kP,e),(tf,a)]→Q (.ref i) σ'):Call (d+1) c7 (.ref (σ.length+1) :: vs) (σ++[.attrs [],.inst 1 σ.length]) (fun r σ'=>r = .none∧Q (.ref (σ.length+1)) σ') X:=by
 refine .go cG rfl h1 h2 rfl ?_
 rw [he]
 have n0:Nw σ _ (σ.length+1) σ.length 1 []:=Nw.start
 have n1:=n0.put (es':=[(oq,k)])
 have n2:=n1.put (es':=[(oq,k),(my,v)])
 have n3:=n2.put (es':=[(oq,k),(my,v),(kP,e)])
 exact .mk n0.inst n0.dat rfl rfl rfl rfl (.mk n1.inst n1.dat rfl rfl rfl rfl (.mk n2.inst n2.dat rfl rfl rfl rfl (.mk n3.inst n3.dat rfl rfl rfl rfl ⟨rfl,h _ _ _ n3.put⟩)))
theorem nu{k v:V}(h:∀ i j σ',Nw σ σ' i j 1 (cA k v false 3)→Q (.ref i) σ'):Call (d+1) c7 [.ref (σ.length+1),k,v] (σ++[.attrs [],.inst 1 σ.length]) (fun r σ'=>r = .none∧Q (.ref (σ.length+1)) σ') X:=nH rfl rfl rfl h
theorem vA{k v:V}{e:Bool}(h:∀ i j σ',Nw σ σ' i j 1 (cA k v e 3)→Q (.ref i) σ'):Call (d+1) c7 [.ref (σ.length+1),k,v,.bool e] (σ++[.attrs [],.inst 1 σ.length]) (fun r σ'=>r = .none∧Q (.ref (σ.length+1)) σ') X:=nH rfl rfl rfl h
theorem iT{k v:V}{e:Bool}{a:Int}(h:∀ i j σ',Nw σ σ' i j 1 (cA k v e a)→Q (.ref i) σ'):Call (d+1) c7 [.ref (σ.length+1),k,v,.bool e,.int a] (σ++[.attrs [],.inst 1 σ.length]) (fun r σ'=>r = .none∧Q (.ref (σ.length+1)) σ') X:=nH rfl rfl rfl h
theorem qf(h:∀ i j σ',Nw σ σ' i j 1 (cA (.str bF) (.int n) false 3)→Q (.ref i) σ'):Call (d+2) yV [.int n] σ Q X:=.go oo rfl rfl rfl rfl (nu h)
theorem En(h:∀ i j σ',Nw σ σ' i j 1 (cA (.str dB) (.int n) false 3)→Q (.ref i) σ'):Call (d+2) FI [.int n] σ Q X:=.go wO rfl rfl rfl rfl (nu h)
theorem oi{e:Bool}(h:∀ i j σ',Nw σ σ' i j 1 (cA (.str fK) (.bytes w) e 3)→Q (.ref i) σ'):Call (d+2) Fu [.bytes w,.bool e] σ Q X:=.go xE rfl rfl rfl rfl (vA h)
theorem hH{e:Bool}{m:Nat}(hw:w.length≤1000000)(h0:m < w.length→X lim σ)(h:w.length≤m→∀ i j σ',Nw σ σ' i j 1 (cA (.str fK) (.bytes w) e 3)→Q (.ref i) σ'):Call (d+3) uK [.bytes w,.bool e,.int m] σ Q X :=
 .go j1 rfl rfl rfl rfl (.lenB hw (.gt (fun q=>h0 (Int.ofNat_lt.mp q)) fun q=>oi (h (Nat.not_lt.mp fun z=>q (Int.ofNat_lt.mpr z)))))
theorem mI{o:O}{es es':List (Nat×V)}(h1:σ[k]? = some o)(h2:σ[j]? = some (.attrs es))(n:∀ es,O.attrs es≠o):(σ.set j (.attrs es'))[k]? = some o:=aN h1 (a7 h2 h1 (n es))
theorem ze(hw:w.length≤1000000)(h:∀ i j k σ',Nw σ σ' i j 2 (pU n k)→σ.length≤k→σ'[k]? = some (.bar w)→Q (.ref i) σ'):Call (d+1) rA [.ref (σ.length+1),.int n,.bytes w,.bool false,.int 0] (σ++[.attrs [],.inst 2 σ.length]) (fun r σ'=>r = .none∧Q (.ref (σ.length+1)) σ') X:=by
 have n0:Nw σ _ (σ.length+1) σ.length 2 []:=Nw.start
 have n1:=n0.put (es':=[(ch,.int n)])
 refine .go iE rfl rfl rfl rfl (.mk (es':=[(ch,.int n)]) n0.inst n0.dat rfl rfl rfl rfl (.barB hw ?_))
 have g1:=n1.go (.a1 (τ:=[.bar w]))
 have n2:=fun k=>g1.put (es':=[(ch,.int n),(gO,.ref k)])
 have n3:=fun k=>(n2 k).put (es':=[(ch,.int n),(gO,.ref k),(db,.bool false)])
 exact .mk g1.inst g1.dat rfl rfl rfl rfl (.mk (n2 _).inst (n2 _).dat rfl rfl rfl rfl (.mk (n3 _).inst (n3 _).dat rfl rfl rfl rfl ⟨rfl,h _ _ _ _ (n3 _).put n1.ge.len (mI (mI (mI aa g1.dat nofun) (n2 _).dat nofun) (n3 _).dat nofun)⟩))
theorem De(hk:σ[k]? = some (.list xs))(hw:xs.length≤1000000)(h:∀ i j k σ',Nw σ σ' i j 3 (wD n k)→σ.length≤k→σ'[k]? = some (.list xs)→Q (.ref i) σ'):Call (d+1) sC [.ref (σ.length+1),.int n,.ref k,.bool false,.int 0] (σ++[.attrs [],.inst 3 σ.length]) (fun r σ'=>r = .none∧Q (.ref (σ.length+1)) σ') X:=by
 have n0:Nw σ _ (σ.length+1) σ.length 3 []:=Nw.start
 have n1:=n0.put (es':=[(ch,.int n)])
 refine .go jh rfl rfl rfl rfl (.mk (es':=[(ch,.int n)]) n0.inst n0.dat rfl rfl rfl rfl (.list (n1.ge _ _ hk) hw ?_))
 have g1:=n1.go (.a1 (τ:=[.list xs]))
 have n2:=fun k=>g1.put (es':=[(ch,.int n),(nJ,.ref k)])
 have n3:=fun k=>(n2 k).put (es':=[(ch,.int n),(nJ,.ref k),(db,.bool false)])
 exact .mk g1.inst g1.dat rfl rfl rfl rfl (.mk (n2 _).inst (n2 _).dat rfl rfl rfl rfl (.mk (n3 _).inst (n3 _).dat rfl rfl rfl rfl ⟨rfl,h _ _ _ _ (n3 _).put n1.ge.len (mI (mI (mI aa g1.dat nofun) (n2 _).dat nofun) (n3 _).dat nofun)⟩))
theorem mU(h:∀ i' j σ',Nw σ σ' i' j 4 (jr i n)→Q (.ref i') σ'):Call (d+1) rR [.ref (σ.length+1),.ref i,.int 0,.int n] (σ++[.attrs [],.inst 4 σ.length]) (fun r σ'=>r = .none∧Q (.ref (σ.length+1)) σ') X:=by
 have n0:Nw σ _ (σ.length+1) σ.length 4 []:=Nw.start
 have n1:=n0.put (es':=[(vm,.ref i)])
 have n2:=n1.put (es':=[(vm,.ref i),(xb,.int 0)])
 exact .go iI rfl rfl rfl rfl (.mk n0.inst n0.dat rfl rfl rfl rfl (.mk n1.inst n1.dat rfl rfl rfl rfl (.mk n2.inst n2.dat rfl rfl rfl rfl ⟨rfl,h _ _ _ n2.put⟩)))
structure Ov(σ σ':List O)(v t:Nat)(k:V)(e:Bool)(a:Int)(n:Nat):Prop where
 spn:∃ p pj j,Nw σ σ' v j 1 (cA k (.ref p) e a)∧Nw σ σ' p pj 4 (jr t n)
theorem sJ(h1:σ[i]? = some (.inst 2 j))(h2:σ[j]? = some (.attrs (pU n k)))(h3:σ[k]? = some (.bar w))(hw:w.length≤1000000)(h:∀ v σ',Ov σ σ' v i (.str cJ) false 3 w.length→Q (.ref v) σ'):Call (d+2) ti [.ref i] σ Q X :=
 .go j5 rfl rfl rfl rfl (.val h1 h2 rfl rfl rfl (.lenA h3 hw (mU fun p pj σ1 n1=>iT fun v vj σ2 n2=>h _ _ ⟨_,_,_,⟨n2.inst,n2.dat,n1.ge.trans n2.ge,Nat.le_trans n1.ge.len n2.fi,Nat.le_trans n1.ge.len n2.fj⟩,n1.go n2.ge⟩)))
theorem AL(h1:σ[i]? = some (.inst 3 j))(h2:σ[j]? = some (.attrs (wD n k)))(h3:σ[k]? = some (.list xs))(hw:xs.length≤1000000)(h:∀ v σ',Ov σ σ' v i (.str eC) true 3 xs.length→Q (.ref v) σ'):Call (d+2) zr [.ref i,.bool true] σ Q X :=
 .go qo rfl rfl rfl rfl (.val h1 h2 rfl rfl rfl (.lenL h3 hw (mU fun p pj σ1 n1=>iT fun v vj σ2 n2=>h _ _ ⟨_,_,_,⟨n2.inst,n2.dat,n1.ge.trans n2.ge,Nat.le_trans n1.ge.len n2.fi,Nat.le_trans n1.ge.len n2.fj⟩,n1.go n2.ge⟩)))
theorem tI(h1:σ[i]? = some (.inst 3 j))(h2:σ[j]? = some (.attrs (wD n k)))(h3:σ[k]? = some (.list xs))(hw:xs.length≤1000000)(h:∀ v σ',Ov σ σ' v i (.str da) true 2 xs.length→Q (.ref v) σ'):Call (d+2) sA [.ref i,.bool true] σ Q X :=
 .go jj rfl rfl rfl rfl (.val h1 h2 rfl rfl rfl (.lenL h3 hw (mU fun p pj σ1 n1=>iT fun v vj σ2 n2=>h _ _ ⟨_,_,_,⟨n2.inst,n2.dat,n1.ge.trans n2.ge,Nat.le_trans n1.ge.len n2.fi,Nat.le_trans n1.ge.len n2.fj⟩,n1.go n2.ge⟩)))
end
structure FN where
 i:Nat
 j:Nat
 li:Nat
 lj:Nat
 sv:Nat
 jn:Nat
 md:Nat
 fr:Nat
noncomputable def vh(M:FN)(used last:Int):List (Nat×V):=[(Bg,.ref M.li),(db,.bool false),(xi,.ref M.sv),(yR,.ref M.jn),(FE,.ref M.md),(C8,.ref M.fr),(FJ,.int used),(oR,.int 0),(tB,.int last),(t0,.int 0)]
noncomputable def B7:List (Nat×V):=[(vK,.int 500),(BM,.int 20),(AA,.int 250),(xi,.int 15),(y0,.int 31),(EJ,.int 65535),(FQ,.int 65535),(xV,.int 65535),(ER,.int 127),(EK,.int 1500),(Fv,.int 11),(C2,.int 15),(Be,.int 600),(HA,.int 16777216)]
structure cv(M:FN)(σ:List O)(used last:Nat):Prop where
 i:σ[M.i]? = some (.inst 8 M.j)
 j:σ[M.j]? = some (.attrs (vh M used last))
 li:σ[M.li]? = some (.inst 7 M.lj)
 lj:σ[M.lj]? = some (.attrs B7)
 sv:σ[M.sv]? = some (.list [])
 md:∃ es,σ[M.md]? = some (.idict es)∧es.length≤last
structure Mm(M:FN)(σ σ':List O)(used last:Nat):Prop where
 ok:cv M σ' used last
 keep:aS [M.j,M.md] σ σ'
 len:σ.length≤σ'.length
section
variable{call:aw}{d:Nat}{c:UInt8}{σ σ' σ'' τ:List O}{Q:ag}{QF:aF}{X:ak}{i j k n:Nat}{M:FN}{used last u l:Nat}{w:ae}{xs:List V}
theorem cv.keep{S:List Nat}(m:cv M σ u l)(k:aS S σ σ')(h1:M.i∉S)(h2:M.j∉S)(h3:M.li∉S)(h4:M.lj∉S)(h5:M.sv∉S)(h6:M.md∉S):cv M σ' u l :=
 ⟨k _ _ m.i h1,k _ _ m.j h2,k _ _ m.li h3,k _ _ m.lj h4,k _ _ m.sv h5,m.md.elim fun es e=>⟨es,k _ _ e.1 h6,e.2⟩⟩
theorem cv.ge(m:cv M σ u l)(g:Ge σ σ'):cv M σ' u l:=⟨g _ _ m.i,g _ _ m.j,g _ _ m.li,g _ _ m.lj,g _ _ m.sv,m.md.elim fun es e=>⟨es,g _ _ e.1,e.2⟩⟩
theorem CE{a b:Int}:O.attrs (vh M a b) ≠ .attrs B7:=fun h=>by
 have:=congrArg (fun o:O=>match o with | .attrs es=>es.length | _=>0) h
 exact absurd this (by decide:(10:Nat)≠14)
theorem cv.updA{u2 l2:Nat}(m:cv M σ u l)(hl:l≤l2):cv M (σ.set M.j (.attrs (vh M u2 l2))) u2 l2 :=
 ⟨aN m.i (a7 m.j m.i nofun),bk m.j,aN m.li (a7 m.j m.li nofun),aN m.lj (a7 m.j m.lj CE),aN m.sv (a7 m.j m.sv nofun),m.md.elim fun es e=>⟨es,aN e.1 (a7 m.j e.1 nofun),Nat.le_trans e.2 hl⟩⟩
theorem cv.updD{es es':List (Int×V)}(m:cv M σ u l)(e:σ[M.md]? = some (.idict es'))(hl:es.length≤l):cv M (σ.set M.md (.idict es)) u l :=
 ⟨aN m.i (a7 e m.i nofun),aN m.j (a7 e m.j nofun),aN m.li (a7 e m.li nofun),aN m.lj (a7 e m.lj nofun),aN m.sv (a7 e m.sv nofun),⟨es,bk e,hl⟩⟩
theorem i5{n m:Nat}(h1:n≤m)(h:Q .none σ):Call (d+1) ir [.int n,.int m] σ Q X :=
 .go df rfl rfl rfl rfl (.lt (fun q=>absurd q (Int.not_lt.mpr (Int.natCast_nonneg n))) fun _=>.gt (fun q=>absurd (Int.ofNat_lt.mp q) (Nat.not_lt.mpr h1)) fun _=>h)
theorem BS(m:cv M σ u l)(h:Q (.int 0) σ):Call (d+1) jV [.ref M.i] σ Q X:=.go dU rfl rfl rfl rfl (.val m.i m.j rfl rfl rfl (.lenL m.sv (by decide) h))
theorem fF(m:cv M σ u l)(h:Q (.int 0) σ):Call (d+2) fL [.ref M.i] σ Q X:=.go cx rfl rfl rfl rfl (.val m.i m.j rfl rfl rfl (.prop m.i m.j rfl rfl (BS m h)))
theorem rJ(m:cv M σ u l)(hn:u+n≤16777216)(h:Q .none σ):Call (d+1) fG [.ref M.i,.int n] σ Q X :=
 .go ct rfl rfl rfl rfl (.val m.i m.j rfl rfl rfl (.val m.i m.j rfl rfl rfl (.add (n:=u) (Int.add_zero _) (.add (n:=(u+n:Nat)) rfl (.val m.i m.j rfl rfl rfl (.val m.li m.lj rfl rfl rfl (.gt (fun q=>absurd (Int.ofNat_lt.mp q) (Nat.not_lt.mpr hn)) fun _=>h)))))))
theorem xp{α:Type}[BEq α](k:α)(v:V):∀ es:List (α×V),(putL k v es).length≤es.length+1
 | []=>Nat.le_refl _
 | (k',v') :: r=>by
  rw [putL]
  cases k==k' with
  | true=>exact Nat.le_succ _
  | false=>exact Nat.succ_le_succ (xp k v r)
theorem lI(m:cv M σ u l)(hn:u+n≤16777216)(hl:l≤100000)(h:∀ σ',Mm M σ σ' (u+n) (l+1)→Q (.int (l+1:Nat)) σ'):Call (d+3) gn [.ref M.i,.int n] σ Q X:=by
 obtain ⟨es,f1,f2⟩:=m.md
 have m1:=m.updA (u2:=u) (Nat.le_succ l)
 have g1:=aN (o':=.attrs (vh M u (l+1:Nat))) f1 (a7 m.j f1 nofun)
 have m2:=m1.updD (es:=putL ((l+1:Nat):Int) (.tup [.int n,.bool false,.int 0]) es) g1 (Nat.le_trans (xp ..) (Nat.succ_le_succ f2))
 have m3:=m2.updA (u2:=u+n) (Nat.le_refl _)
 refine .go cL rfl rfl rfl rfl (.own m.i m.j rfl rfl (rJ m hn (.val m.i m.j rfl rfl rfl (.add (n:=(l+1:Nat)) rfl (.mk (es':=vh M u (l+1:Nat)) m.i m.j rfl rfl rfl rfl (.val m1.i m1.j rfl rfl rfl (.own m1.i m1.j rfl rfl (fF m1 (.val m1.i m1.j rfl rfl rfl (.val m1.i m1.j rfl rfl rfl (.idict g1 (Nat.le_trans f2 (Nat.le_trans hl (by decide))) rfl (.val m2.i m2.j rfl rfl rfl (.val m2.i m2.j rfl rfl rfl (.add (n:=(u+n:Nat)) rfl (.mk (es':=vh M (u+n:Nat) (l+1:Nat)) m2.i m2.j rfl rfl rfl rfl (.val m3.i m3.j rfl rfl rfl (h _ ⟨m3,((aS.refl.put (.head _)).put (.tail _ (.head _))).put (.head _),?_⟩)))))))))))))))))
 rw [List.length_set,List.length_set,List.length_set]
 exact Nat.le_refl _
theorem kW(m:cv M σ u l)(hw:w.length≤65535)(hn:u+w.length≤16777216)(hl:l≤100000)
 (h:∀ i j k σ1 σ2 n,Mm M σ σ1 (u+w.length) (l+1)→Nw σ1 σ2 i j 2 (pU n k)→σ1.length≤k→σ2[k]? = some (.bar w)→Q (.ref i) σ2):Call (d+4) dN [.ref M.i,.bytes w] σ Q X:=by
 have hw':w.length≤1000000:=Nat.le_trans hw (by decide)
 exact .go bU rfl rfl rfl rfl (.lenB hw' (.val m.i m.j rfl rfl rfl (.val m.li m.lj rfl rfl rfl (i5 hw (.own m.i m.j rfl rfl (.lenB hw' (lI m hn hl fun σ1 m1=>.val m1.ok.i m1.ok.j rfl rfl rfl (.own m1.ok.i m1.ok.j rfl rfl (fF m1.ok (ze hw' fun i j k σ2 n2 hk hb=>h i j k σ1 σ2 _ m1 n2 hk hb))))))))))
theorem vp(m:cv M σ u l)(hk:σ[k]? = some (.list xs))(hw:xs.length≤65535)(hn:u+8 * xs.length≤16777216)(hl:l≤100000)
 (h:∀ i j k σ1 σ2 n,Mm M σ σ1 (u+8 * xs.length) (l+1)→Nw σ1 σ2 i j 3 (wD n k)→σ1.length≤k→σ2[k]? = some (.list xs)→Q (.ref i) σ2):Call (d+4) gq [.ref M.i,.ref k] σ Q X:=by
 have hw':xs.length≤1000000:=Nat.le_trans hw (by decide)
 have nk:k∉[M.j,M.md]:=fun z=>(List.mem_cons.mp z).elim (a7 hk m.j nofun) fun z=>m.md.elim fun es e=>a7 hk e.1 nofun (List.mem_singleton.mp z)
 exact .go cM rfl rfl rfl rfl (.isL hk (.lenL hk hw' (.val m.i m.j rfl rfl rfl (.val m.li m.lj rfl rfl rfl (i5 hw (.val m.i m.j rfl rfl rfl (.own m.i m.j rfl rfl (.lenL hk hw' (.mul (kB (by decide)) (kB (Nat.lt_of_le_of_lt hw (by decide))) (n:=(8 * xs.length:Nat)) rfl (lI m hn hl fun σ1 m1=>.val m1.ok.i m1.ok.j rfl rfl rfl (.own m1.ok.i m1.ok.j rfl rfl (fF m1.ok (De (m1.keep _ _ hk nk) hw' fun i j k σ2 n2 hk hb=>h i j k σ1 σ2 _ m1 n2 hk hb)))))))))))))
end
inductive Tok where
 | int (n:Int)
 | real (m:Int)
 | name (w:ae)
 | run (w:ae)
 | str (w:ae)
 | proc (p:Bool) (ts:List Tok)
inductive gU where
 | ok (t:Tok) (rest:ae)
 | err (e:ae)
noncomputable def strR:Option (ae×ae)→gU
 | none=>.err lW
 | some x=>.ok (.str x.1) x.2
noncomputable def nh(w r:ae):lR→gU
 | .int n=>.ok (.int n) r
 | .real m=>.ok (.real m) r
 | .lim=>.err lim
 | .no=>if 127 < w.length then .err lim else .ok (.run w) r
noncomputable def D1:ae:=[117,110,100,101,102,105,110,101,100]
noncomputable def qx(r:ae):gU:=if 127 < (ax r).length then .err lim else if ax r=[97] then .ok (.int 5) (aD r) else .err D1
noncomputable def qe(r:ae):gU:=if 127 < (ax r).length then .err lim else .ok (.name (ax r)) (aD r)
noncomputable def iM(r:ae):gU:=if r.head? = some 47 then qx r.tail else qe r
noncomputable def iV(r:ae):gU:=if r.head? = some 60 then .ok (.run [60,60]) r.tail else if r.head? = some 126 then strR (ki [] r.tail) else strR (dm none r)
noncomputable def iN(r:ae):gU:=if r.head? = some 62 then .ok (.run [62,62]) r.tail else .err lW
noncomputable def lr(x:ae):gU:=if 500 < (ax x).length then .err lim else nh (ax x) (aD x) (bq (ax x))
noncomputable def bQ(c:UInt8)(r:ae):gU :=
 if c=47 then iM r else if c=40 then strR (iD 1 r) else if c=60 then iV r else if c=62 then iN r else if c=91∨c=93 then .ok (.run [c]) r else if c=41 then .err lW else lr (c :: r)
abbrev Fr:=Nat→Option O
noncomputable def Fr.ext(Z:Fr)(n:Nat)(σ:List O):Fr:=fun i=>if n≤i then σ[i]? else Z i
def Fz(Z:Fr)(σ:List O):Prop:=∀ i o,Z i=some o→σ[i]? = some o
def Gl(Z Z':Fr):Prop:=∀ i o,Z i=some o→Z' i=some o
structure pO(Z:Fr)(i:Nat)(k x:V)(e:Bool)(a:Int):Prop where
 go:∃ j,Z i=some (.inst 1 j)∧Z j=some (.attrs (cA k x e a))
inductive Th(Z:Fr):Nat→Tok→Prop
 | int {v n} (h:pO Z v (.str bF) (.int n) false 3):Th Z v (.int n)
 | real {v n} (h:pO Z v (.str dB) (.int n) false 3):Th Z v (.real n)
 | name {v w} (h:pO Z v (.str fK) (.bytes w) false 3):Th Z v (.name w)
 | run {v w} (h:pO Z v (.str fK) (.bytes w) true 3):Th Z v (.run w)
 | str {v p pj t tj n k} {w:ae} (h:pO Z v (.str cJ) (.ref p) false 3) (h1:Z p=some (.inst 4 pj)) (h2:Z pj=some (.attrs (jr t w.length))) (h3:Z t=some (.inst 2 tj)) (h4:Z tj=some (.attrs (pU n k))) (h5:Z k=some (.bar w)):Th Z v (.str w)
 | proc {v p pj t tj n k} {b:Bool} {xs:List Nat} {ts:List Tok} (h:pO Z v (.str (match b with | true=>da | false=>eC)) (.ref p) true (match b with | true=>2 | false=>3)) (h1:Z p=some (.inst 4 pj)) (h2:Z pj=some (.attrs (jr t xs.length))) (h3:Z t=some (.inst 3 tj)) (h4:Z tj=some (.attrs (wD n k))) (h5:Z k=some (.list (xs.map .ref)))
  (hl:xs.length=ts.length) (hs:∀ (i:Nat) x t,xs[i]? = some x→ts[i]? = some t→Th Z x t):Th Z v (.proc b ts)
def tS(Z:Fr)(xs:List Nat)(ts:List Tok):Prop:=xs.length=ts.length∧∀ (i:Nat) x t,xs[i]? = some x→ts[i]? = some t→Th Z x t
section
variable{Z Z':Fr}{σ σ':List O}{v i n:Nat}{t:Tok}{o:O}{xs:List Nat}{ts:List Tok}
theorem Fr.new(h:n≤i)(e:σ[i]? = some o):Z.ext n σ i=some o:=(if_pos h).trans e
theorem Fr.le(f:Fz Z σ):Gl Z (Z.ext n σ):=fun i o e=>by
 unfold Fr.ext
 by_cases h:n≤i
 · rw [if_pos h];exact f i o e
 · rw [if_neg h];exact e
theorem Fr.fz(f:Fz Z σ):Fz (Z.ext n σ) σ:=fun i o e=>by
 unfold Fr.ext at e
 by_cases h:n≤i
 · rw [if_pos h] at e;exact e
 · rw [if_neg h] at e;exact f i o e
theorem Fz.keep{S:List Nat}(f:Fz Z σ)(k:aS S σ σ')(h:∀ s∈S,Z s=none):Fz Z σ':=fun i o e=>k i o (f i o e) fun z=>by rw [h i z] at e;cases e
theorem pO.mono{k x:V}{e:Bool}{a:Int}(l:Gl Z Z')(h:pO Z v k x e a):pO Z' v k x e a:=h.go.elim fun j h=>⟨j,l _ _ h.1,l _ _ h.2⟩
theorem Th.mono(l:Gl Z Z')(h:Th Z v t):Th Z' v t:=by
 induction h with
 | int h=>exact .int (h.mono l)
 | real h=>exact .real (h.mono l)
 | name h=>exact .name (h.mono l)
 | run h=>exact .run (h.mono l)
 | str h a b c d e=>exact .str (h.mono l) (l _ _ a) (l _ _ b) (l _ _ c) (l _ _ d) (l _ _ e)
 | proc h a b c d e f _ ih=>exact .proc (h.mono l) (l _ _ a) (l _ _ b) (l _ _ c) (l _ _ d) (l _ _ e) f ih
theorem tS.mono(l:Gl Z Z')(h:tS Z xs ts):tS Z' xs ts:=⟨h.1,fun i x t e e'=>(h.2 i x t e e').mono l⟩
theorem tS.snoc(h:tS Z xs ts)(h':Th Z v t):tS Z (xs++[v]) (ts++[t]):=by
 refine ⟨by rw [List.length_append,List.length_append,h.1];rfl,fun i x t' e e'=>?_⟩
 rcases Nat.lt_or_ge i xs.length with q | q
 · rw [List.getElem?_append_left q] at e
   rw [List.getElem?_append_left (h.1▸q)] at e'
   exact h.2 i x t' e e'
 · rw [List.getElem?_append_right q] at e
   rw [List.getElem?_append_right (h.1▸q),← h.1] at e'
   have z:=bm e
   rw [Nat.lt_one_iff.mp z] at e e'
   exact Option.some.inj e▸Option.some.inj e'▸h'
theorem Nw.isT{σ1 σ2:List O}{j:Nat}{k x:V}{e:Bool}{a:Int}(m:Nw σ1 σ2 v j 1 (cA k x e a))(h:n≤σ1.length)(g:Ge σ2 σ'):pO (Z.ext n σ') v k x e a:=⟨_,Fr.new (Nat.le_trans h m.fi) (g _ _ m.inst),Fr.new (Nat.le_trans h m.fj) (g _ _ m.dat)⟩
end
structure y7 where
 i:Nat
 j:Nat
 si:Nat
 sj:Nat
 M:FN
structure Wd(P:y7)(all:ae)(σ:List O)(rest:ae)(b:Bool)(u l:Nat):Prop where
 src:dw P.i P.j all σ rest b
 si:σ[P.si]? = some (.inst 6 P.sj)
 sj:σ[P.sj]? = some (.attrs [(to,.ref P.M.i)])
 mem:cv P.M σ u l
structure Tk(P:y7)(all:ae)(σ σ':List O)(r:ae)(u l:Nat)(v:Nat)(t:Tok):Prop where
 wd:∃ b,Wd P all σ' r b u l
 keep:aS [P.j,P.M.j,P.M.md] σ σ'
 len:σ.length≤σ'.length
 th:∀ (Z:Fr) n,n≤σ.length→Th (Z.ext n σ') v t
section
variable{call:aw}{d:Nat}{c:UInt8}{σ σ' σ'':List O}{Q:ag}{X:ak}{P:y7}{all rest r w:ae}{b b':Bool}{u l u' l' n k v:Nat}{t:Tok}{env:au}
theorem nF{a b:Nat}{es es':List (Nat×V)}(h1:σ[a]? = some (.attrs es))(h2:σ[b]? = some (.attrs es'))(n:Nat.beq es.length es'.length=false):a≠b :=
 a7 h1 h2 fun h=>by cases h;exact Bool.false_ne_true (n.symm.trans (Nat.beq_refl _))
theorem Wd.mv(W:Wd P all σ rest b u l)(m:Mv P.i P.j all σ σ' r b'):Wd P all σ' r b' u l:=by
 have f:∀ {k o},σ[k]? = some o→k≠P.j→σ'[k]? = some o:=fun h n=>m.keep _ _ h fun z=>n (List.mem_singleton.mp z)
 have s:∀ {k},k≠P.j→k∉[P.j]:=fun n z=>n (List.mem_singleton.mp z)
 have D:=W.src.dat
 exact ⟨m.src,f W.si (a7 W.si D nofun),f W.sj (nF W.sj D rfl),W.mem.keep m.keep (s (a7 W.mem.i D nofun)) (s (nF W.mem.j D rfl)) (s (a7 W.mem.li D nofun)) (s (nF W.mem.lj D rfl)) (s (a7 W.mem.sv D nofun)) (s (W.mem.md.elim fun es e=>a7 e.1 D nofun))⟩
theorem Wd.mm(W:Wd P all σ rest b u l)(m:Mm P.M σ σ' u' l'):Wd P all σ' rest b u' l':=by
 obtain ⟨es,e,-⟩:=W.mem.md
 have s:∀ {k},k≠P.M.j→k≠P.M.md→k∉[P.M.j,P.M.md]:=fun n n' z=>(List.mem_cons.mp z).elim n fun z=>n' (List.mem_singleton.mp z)
 have D:=W.mem.j
 exact ⟨W.src.keep m.keep (s (a7 W.src.inst D nofun) (a7 W.src.inst e nofun)) (s (nF W.src.dat D rfl) (a7 W.src.dat e nofun)),m.keep _ _ W.si (s (a7 W.si D nofun) (a7 W.si e nofun)),m.keep _ _ W.sj (s (nF W.sj D rfl) (a7 W.sj e nofun)),m.ok⟩
theorem Wd.ge(W:Wd P all σ rest b u l)(g:Ge σ σ'):Wd P all σ' rest b u l:=⟨⟨g _ _ W.src.inst,g _ _ W.src.dat,W.src.suf,W.src.len⟩,g _ _ W.si,g _ _ W.sj,W.mem.ge g⟩
theorem Wd.lim{a n:Nat}(W:Wd P all σ rest b u l)(e:B7.lookup a=some (.int n))(hp:gL 7 a=none)(hm:fZ 7 a=none)(h:Q (.int n) σ):At σ (xK call 37 (xK call a Q)) call (.ref P.si) 34 :=
 .val W.si W.sj rfl rfl rfl <| .val W.mem.i W.mem.j rfl rfl rfl <| .val W.mem.li W.mem.lj e hp hm h
theorem wn(W:Wd P all σ rest b u l)(h:∀ σ' b',Mv P.i P.j all σ σ' (aD rest) b'→Q (.bytes (ax rest)) σ')(hl:all.length≤500):Call (d+5) oC [.ref P.si,.ref P.i] σ Q X :=
 .go gh rfl rfl rfl rfl <| W.lim (n:=65535) rfl rfl rfl <| uh W.src (Int.ofNat_le.mpr (Nat.le_trans (Nat.le_trans (bY rest) (Nat.le_trans W.src.suf.length_le hl)) (by decide))) h
theorem Tk.mv(m:Mv P.i P.j all σ σ' rest b)(k:Tk P all σ' σ'' r u l v t):Tk P all σ σ'' r u l v t :=
 ⟨k.wd,(m.keep.mono fun i z=>List.mem_singleton.mp z ▸ .head _).trans k.keep,Nat.le_trans m.len k.len,fun Z n h=>k.th Z n (Nat.le_trans h m.len)⟩
theorem Tk.plain{σ1:List O}{j:Nat}{k x:V}{e:Bool}{a:Int}(W:Wd P all σ rest b u l)(g:Ge σ σ1)(m:Nw σ1 σ' v j 1 (cA k x e a))(h:∀ {Z:Fr},pO Z v k x e a→Th Z v t):Tk P all σ σ' rest u l v t :=
 ⟨⟨b,W.ge (g.trans m.ge)⟩,.of (g.trans m.ge),(g.trans m.ge).len,fun Z n hn=>h (m.isT (Nat.le_trans hn g.len) .rfl)⟩
theorem Bq(W:Wd P all σ rest b u l)(hw:w.length≤65535)(hn:u+w.length≤16777216)(hl:l≤100000)(h:∀ v σ',Tk P all σ σ' rest (u+w.length) (l+1) v (.str w)→Q (.ref v) σ'):Call (d+5) eW [.ref P.si,.bytes w] σ Q X:=by
 refine .go eA rfl rfl rfl rfl <| .val W.si W.sj rfl rfl rfl <| .own W.mem.i W.mem.j rfl rfl <| kW W.mem hw hn hl fun i j k σ1 σ2 m mm n2 hk hb=>sJ n2.inst n2.dat hb (Nat.le_trans hw (by decide)) fun v σ3 ov=>?_
 obtain ⟨p,pj,vj,n3,n4⟩:=ov.spn
 have g:=n2.ge.trans n3.ge
 have l2:=Nat.le_trans mm.len n2.ge.len
 refine h v σ3 ⟨⟨b,(W.mm mm).ge g⟩,(mm.keep.mono fun _ z=>.tail _ z).trans (.of g),Nat.le_trans mm.len g.len,fun Z n hn=>?_⟩
 exact .str (n3.isT (Nat.le_trans hn l2) .rfl) (Fr.new (Nat.le_trans hn (Nat.le_trans l2 n4.fi)) n4.inst) (Fr.new (Nat.le_trans hn (Nat.le_trans l2 n4.fj)) n4.dat) (Fr.new (Nat.le_trans hn (Nat.le_trans mm.len n2.fi)) (n3.ge _ _ n2.inst)) (Fr.new (Nat.le_trans hn (Nat.le_trans mm.len n2.fj)) (n3.ge _ _ n2.dat)) (Fr.new (Nat.le_trans hn (Nat.le_trans mm.len hk)) (n3.ge _ _ hb))
end
theorem y9{a:ae}{x:Option (ae×ae)}{o r:ae}(h:pre a x=some (o,r)):∃ o',x=some (o',r)∧o=a++o':=by
 cases x with
 | none=>cases h
 | some y=>cases h;exact ⟨y.1,rfl,rfl⟩
def Rd(k:Nat)(x o r:ae):Prop:=o.length+k * r.length≤k * x.length∧r <:+ x
section
variable{k:Nat}{x y a o r:ae}{c:UInt8}
theorem Rd.mk{z:Option (ae×ae)}(h:pre a z=some (o,r))(ha:a.length+k * y.length≤k * x.length)(hy:y <:+ x)(ih:∀ {o},z=some (o,r)→Rd k y o r):Rd k x o r:=by
 obtain ⟨o',e,rfl⟩:=y9 h
 obtain ⟨h1,h2⟩:=ih e
 refine ⟨?_,h2.trans hy⟩
 rw [List.length_append,Nat.add_assoc]
 exact Nat.le_trans (Nat.add_le_add_left h1 _) ha
theorem Rd.tail(h:y <:+ r)(ih:Rd k y o x):Rd k (c :: r) o x:=⟨Nat.le_trans ih.1 (Nat.mul_le_mul_left k (Nat.le_succ_of_le h.length_le)),ih.2.trans (h.trans (List.suffix_cons _ _))⟩
theorem j0(h:a.length≤k)(hy:y <:+ r):a.length+k * y.length≤k * (c :: r).length:=by rw [List.length_cons,Nat.mul_succ,Nat.add_comm];exact Nat.add_le_add (Nat.mul_le_mul_left k hy.length_le) h
theorem Rd.done{z:ae}(e:(a,y)=(o,z))(h:a.length≤k)(hy:y <:+ r):Rd k (c :: r) o z:=by
 cases e
 exact ⟨j0 h hy,hy.trans (List.suffix_cons _ _)⟩
theorem gE:∀ {x:ae} {hi:Option Nat} {o r:ae},dm hi x=some (o,r)→Rd 1 x o r
 | [],_,_,_,h=>nomatch h
 | c :: x,hi,o,r,h=>by
  rw [dm] at h
  by_cases q:c=62
  · rw [if_pos q] at h
    exact .done (Option.some.inj h) (by cases hi;exact Nat.zero_le _;exact Nat.le_refl _) (List.suffix_refl _)
  · rw [if_neg q] at h
    unfold F4 at h
    cases e:kF c.toNat with
    | none =>
     rw [e] at h
     have h:(match aH c with | true=>dm hi x | false=>none)=some (o,r):=h
     cases qw:aH c with
     | true=>rw [qw] at h;exact (gE h).tail (List.suffix_refl _)
     | false=>rw [qw] at h;cases h
    | some m =>
     rw [e] at h
     cases hi with
     | none=>exact (gE h).tail (List.suffix_refl _)
     | some y=>exact .mk h (j0 (Nat.le_refl 1) (List.suffix_refl _)) (List.suffix_cons _ _) gE
theorem hZ:∀ {x:ae} {l:List Nat} {o r:ae},ki l x=some (o,r)→Rd 4 x o r
 | [],_,_,_,h=>nomatch h
 | c :: x,l,o,r,h=>by
  rw [ki] at h
  by_cases q:c=126
  · rw [if_pos q] at h
    by_cases q2:x.head? = some 62
    · rw [if_pos q2] at h
      by_cases q3:l=[]
      · rw [if_pos q3] at h
        exact .done (Option.some.inj h) (Nat.zero_le _) (List.tail_suffix _)
      · rw [if_neg q3] at h
        obtain ⟨g,e,h⟩:=Option.map_eq_some_iff.mp h
        exact .done h (fS e).1 (List.tail_suffix _)
    · rw [if_neg q2] at h;cases h
  · rw [if_neg q] at h
    by_cases q:c=122∧l=[]
    · rw [if_pos q] at h;exact .mk h (j0 (Nat.le_refl 4) (List.suffix_refl _)) (List.suffix_cons _ _) hZ
    · rw [if_neg q] at h
      by_cases q:33≤c.toNat∧c.toNat≤117
      · rw [if_pos q] at h
        by_cases q:l.length=4
        · rw [if_pos q] at h
          obtain ⟨g,e,h⟩:=Option.bind_eq_some_iff.mp h
          exact .mk h (j0 (fS e).1 (List.suffix_refl _)) (List.suffix_cons _ _) hZ
        · rw [if_neg q] at h;exact (hZ h).tail (List.suffix_refl _)
      · rw [if_neg q] at h
        cases qw:aH c with
        | true=>rw [qw] at h;exact (hZ h).tail (List.suffix_refl _)
        | false=>rw [qw] at h;cases h
theorem n9:∀ {n dep:Nat} {x:ae} {o r:ae},gm n dep x=some (o,r)→Rd 1 x o r
 | 0,_,[],_,_,h=>nomatch h
 | _+1,_,[],_,_,h=>nomatch h
 | 0,_,_ :: _,_,_,h=>nomatch h
 | n+1,dep,c :: x,o,r,h=>by
  rw [gm] at h
  have one:∀ {a y:ae} {d:Nat},a.length≤1→y <:+ x→pre a (gm n d y)=some (o,r)→Rd 1 (c :: x) o r:=fun ha hy h=>.mk h (j0 ha hy) (hy.trans (List.suffix_cons _ _)) n9
  by_cases q:c=92
  · rw [if_pos q] at h;exact one hM.2.2 hM.1 h
  rw [if_neg q] at h
  by_cases q:c=13
  · rw [if_pos q] at h;exact one (a:=[_]) (Nat.le_refl 1) (bK x) h
  rw [if_neg q] at h
  by_cases q:c=40
  · rw [if_pos q] at h;exact one (a:=[_]) (Nat.le_refl 1) (List.suffix_refl _) h
  rw [if_neg q] at h
  by_cases q:c=41
  · rw [if_pos q] at h
    by_cases q:dep=1
    · rw [if_pos q] at h
      exact .done (Option.some.inj h) (Nat.zero_le _) (List.suffix_refl _)
    · rw [if_neg q] at h;exact one (a:=[_]) (Nat.le_refl 1) (List.suffix_refl _) h
  · rw [if_neg q] at h;exact one (a:=[_]) (Nat.le_refl 1) (List.suffix_refl _) h
end
section
variable{call:aw}{d:Nat}{c:UInt8}{σ σ' σ'':List O}{Q:ag}{X:ak}{P:y7}{all rest r w o:ae}{b b':Bool}{u l u' l' n k v:Nat}{t:Tok}{env:au}{xs:List Nat}{ts:List Tok}
theorem tP{Z0:Fr}{pk:Bool}(W:Wd P all σ rest b u l)(hk:σ[k]? = some (.list (xs.map .ref)))(hx:tS Z0 xs ts)(hw:xs.length≤65535)(hn:u+8 * xs.length≤16777216)(hl:l≤100000)
 (h:∀ v σ',(∃ b,Wd P all σ' rest b (u+8 * xs.length) (l+1))→aS [P.j,P.M.j,P.M.md] σ σ'→σ.length≤σ'.length→(∀ (Z:Fr) n,n≤σ.length→Gl Z0 (Z.ext n σ')→Th (Z.ext n σ') v (.proc pk ts))→Q (.ref v) σ') :
 Call (d+5) im [.ref P.si,.ref k,.bool pk] σ Q X:=by
 have lx:(xs.map V.ref).length=xs.length:=List.length_map _
 refine .go di rfl rfl rfl rfl <| .val W.si W.sj rfl rfl rfl <| .own W.mem.i W.mem.j rfl rfl <| vp W.mem hk (lx.symm▸hw) (lx.symm▸hn) hl fun i j k σ1 σ2 m mm n2 hk hb=>?_
 rw [lx] at mm
 have fin:∀ {v σ3 p pj vj},Nw σ2 σ3 v vj 1 (cA (.str (match pk with | true=>da | false=>eC)) (.ref p) true (match pk with | true=>2 | false=>3))→Nw σ2 σ3 p pj 4 (jr i (xs.map V.ref).length)→Q (.ref v) σ3:=fun {v σ3 p pj vj} n3 n4=>by
  have g:=n2.ge.trans n3.ge
  have l2:=Nat.le_trans mm.len n2.ge.len
  rw [lx] at n4
  refine h v σ3 ⟨b,(W.mm mm).ge g⟩ ((mm.keep.mono fun _ z=>.tail _ z).trans (.of g)) (Nat.le_trans mm.len g.len) fun Z n hn hz=>?_
  exact .proc (n3.isT (Nat.le_trans hn l2) .rfl) (Fr.new (Nat.le_trans hn (Nat.le_trans l2 n4.fi)) n4.inst) (Fr.new (Nat.le_trans hn (Nat.le_trans l2 n4.fj)) n4.dat) (Fr.new (Nat.le_trans hn (Nat.le_trans mm.len n2.fi)) (n3.ge _ _ n2.inst)) (Fr.new (Nat.le_trans hn (Nat.le_trans mm.len n2.fj)) (n3.ge _ _ n2.dat)) (Fr.new (Nat.le_trans hn (Nat.le_trans mm.len hk)) (n3.ge _ _ hb)) hx.1 (hx.mono hz).2
 have hw':(xs.map V.ref).length≤1000000:=lx.symm▸Nat.le_trans hw (by decide)
 cases pk with
 | true=>exact tI n2.inst n2.dat hb hw' fun v σ3 ov=>ov.spn.elim fun p h=>h.elim fun pj h=>h.elim fun vj h=>fin h.1 h.2
 | false=>exact AL n2.inst n2.dat hb hw' fun v σ3 ov=>ov.spn.elim fun p h=>h.elim fun pj h=>h.elim fun vj h=>fin h.1 h.2
theorem oB(hw:w.length≤800)(h0:∀ e,nh w r (bq w) = .err e→∀ σ',Ge σ σ'→X e σ')(h:∀ t,nh w r (bq w) = .ok t r→∀ k x e,(∀ {Z:Fr} {v},pO Z v k x e 3→Th Z v t)→∀ v j σ1 σ',Ge σ σ1→Nw σ1 σ' v j 1 (cA k x e 3)→Q (.ref v) σ'):Call (d+11) oF [.bytes w,.int 127] σ Q X:=by
 refine .go f3 rfl rfl rfl rfl <| pR hw fun σ1 g1=>?_
 cases e:bq w with
 | no =>
  rw [e,nh] at h0 h
  refine .isN (r:=true) rfl <| hH (m:=127) (Nat.le_trans hw (by decide)) (fun q=>h0 _ (if_pos q) _ g1) fun q v j σ' n=>?_
  exact h _ (if_neg (Nat.not_lt.mpr q)) _ _ _ .run v j σ1 σ' g1 n
 | lim=>rw [e] at h0;exact h0 _ rfl _ g1
 | int m =>
  rw [e] at h
  exact .isN (r:=false) rfl <| .tup (n:=0) rfl rfl (Nat.le_of_ble_eq_true rfl) <| .eqS (fun _=>.tup (n:=1) rfl rfl (Nat.le_of_ble_eq_true rfl) <| qf fun v j σ' n=>h _ rfl _ _ _ .int v j σ1 σ' g1 n) fun z=>absurd rfl z
 | real m =>
  rw [e] at h
  exact .isN (r:=false) rfl <| .tup (n:=0) rfl rfl (Nat.le_of_ble_eq_true rfl) <| .eqS (fun z=>absurd z (by decide)) fun _=>.tup (n:=1) rfl rfl (Nat.le_of_ble_eq_true rfl) <| En fun v j σ' n=>h _ rfl _ _ _ .real v j σ1 σ' g1 n
theorem rV(h1:w=[97]→∀ v j σ',Nw σ σ' v j 1 (cA (.str bF) (.int 5) false 3)→Q (.ref v) σ')(h2:w≠[97]→Q .none σ):Call (d+3) bc [.bytes w] σ Q X :=
 .go iH rfl rfl rfl rfl <| .eqB (fun q=>qf (h1 q)) h2
theorem n7(hw:w.length≤1000000)(h0:127 < w.length→X lim σ)(h1:w.length≤127→w≠[97]→∀ σ',Ge σ σ'→X D1 σ')
 (h2:w=[97]→∀ v j σ1 σ',Ge σ σ1→Nw σ1 σ' v j 1 (cA (.str bF) (.int 5) false 3)→Q (.ref v) σ'):Call (d+4) mW [.bytes w,.fn bc,.int 127] σ Q X :=
 .go f0 rfl rfl rfl rfl <| hH (m:=127) hw h0 fun q v j σ1 n=>.isN (r:=false) rfl <| rV (fun e v2 j2 σ2 n2=>.isN (r:=false) rfl (h2 e _ _ _ _ n.ge n2)) fun e=>.isN (r:=true) rfl (h1 q e _ n.ge)
end
section
variable{call:aw}{d:Nat}{c:UInt8}{σ σ' σ'':List O}{Q:ag}{X:ak}{P:y7}{all rest r w o:ae}{b b':Bool}{u l u' l' n k v:Nat}{t:Tok}{env:au}
def uV(c:UInt8):Prop:=bE c=false∧c≠37
theorem qI{c:UInt8}(hc:uV c)(h1:c≠123)(h2:c≠125)(q1:c≠47)(q2:c≠40)(q3:c≠60)(q4:c≠62)(q5:c≠91)(q6:c≠93)(q7:c≠41):bo c=true:=by
 have hd:b6 c=false:=by
  refine Bool.eq_false_iff.mpr fun z=>?_
  have z:=List.contains_iff_mem.mp z
  simp only [List.mem_cons,List.not_mem_nil,or_false] at z
  rcases z with z | z | z | z | z | z | z | z | z | z
  · exact q2 z
  · exact q7 z
  · exact q3 z
  · exact q4 z
  · exact q5 z
  · exact q6 z
  · exact h1 z
  · exact h2 z
  · exact q1 z
  · exact hc.2 z
 unfold bo;rw [hc.1,hd];rfl
theorem sR{n:UInt8}(q:c≠n):¬(c :: r).head? = some n:=fun z=>q (Option.some.inj z)
theorem xw{n:UInt8}(q:c=n):(c :: r).head? = some n:=congrArg some q
structure Ot(P:y7)(all:ae)(σ:List O)(n u l:Nat)(R:gU)(Q:ag)(X:ak):Prop where
 err:∀ e,R = .err e→∀ σ',aS [P.j] σ σ'→X e σ'
 ok:∀ t r,R = .ok t r→∀ v σ' u' l',Tk P all σ σ' r u' l' v t→u'+4 * r.length≤u+4 * n→l'+r.length≤l+n→r.length < n→Q (.ref v) σ'
theorem Ot.mv{R:gU}(h:Ot P all σ n u l R Q X)(m:Mv P.i P.j all σ σ' r b):Ot P all σ' n u l R Q X:=⟨fun e h1 σ2 k=>h.err e h1 σ2 (m.keep.trans k),fun t r h1 v σ2 u' l' k=>h.ok t r h1 v σ2 u' l' (k.mv m)⟩
theorem Ot.one{R:gU}{σ1:List O}{j:Nat}{k x:V}{e:Bool}{a:Int}(h:Ot P all σ n u l R Q X)(hr:R = .ok t r)(W:Wd P all σ r b u l)(g:Ge σ σ1)(m:Nw σ1 σ' v j 1 (cA k x e a))(f:∀ {Z:Fr},pO Z v k x e a→Th Z v t)(hn:r.length < n):Q (.ref v) σ' :=
 h.ok t r hr v σ' u l (.plain W g m f) (Nat.add_le_add_left (Nat.mul_le_mul_left 4 (Nat.le_of_lt hn)) _) (Nat.add_le_add_left (Nat.le_of_lt hn) _) hn
theorem Ot.str{z:Option (ae×ae)}{x:ae}(h:Ot P all σ n u l (strR z) Q X)(W:Wd P all σ rest b u l)(hz:∀ {o r},z=some (o,r)→o.length+4 * r.length≤4 * n∧r.length < n)(hn:n≤1000)(hu:u≤1000000)(hl:l≤1000)
 (rd:∀ {K:ag},(z=none→∀ σ',aS [P.j] σ σ'→X lW σ')→(∀ o r',z=some (o,r')→∀ σ' b',Mv P.i P.j all σ σ' r' b'→K (.bytes o) σ')→Call (d+5) k [.ref P.i] σ K X) :
 Call (d+5) k [.ref P.i] σ (fun v σ=>Call (d+5) eW [.ref P.si,v] σ Q X) X:=by
 refine rd (fun e σ' k=>h.err _ (by rw [e];rfl) σ' k) fun o r e σ1 b1 m=>?_
 obtain ⟨h1,h2⟩:=hz e
 have W:=W.mv m
 refine Bq W (by omega) (by omega) (by omega) fun v σ2 k=>h.ok _ r (by rw [e];rfl) v σ2 _ _ (k.mv m) (by omega) (by omega) h2
theorem Bs(W:Wd P all σ rest b u l)(h:Ot P all σ (rest.length+1) u l (iN rest) Q X):Call (d+3) kZ [.ref P.si,.ref P.i] σ Q X:=by
 refine .go d9 rfl rfl rfl rfl <| W.src.tn <| dA W.src fun σ1 m1=>?_
 have h1:=h.mv m1
 unfold iN at h1
 have ne:¬rest.head? = some 62→(if rest.head? = some 62 then gU.ok (.run [62,62]) rest.tail else .err lW) = .err lW:=fun z=>if_neg z
 cases rest with
 | nil=>exact .ne (.val .noneI) <| .notN (r:=true) rfl rfl <| h1.err _ (ne nofun) _ .refl
 | cons c r =>
  refine .neC 62 (fun q=>oi fun v j σ2 n=>?_) fun q=>.notN (r:=false) rfl rfl <| m1.src.tb <| d7 m1.src W.src.suf fun σ2 m2=>h1.err _ (ne (sR q)) _ m2.keep
  exact h1.one (if_pos (xw q)) (W.mv m1) .rfl n .run (Nat.lt_succ_of_lt (Nat.lt_succ_self _))
theorem yZ(W:Wd P all σ rest b u l)(hall:all.length≤500)(hu:u≤1000000)(hl:l≤1000)(h:Ot P all σ (rest.length+1) u l (iV rest) Q X):Call (d+6) jY [.ref P.si,.ref P.i] σ Q X:=by
 have hr:=Nat.le_trans W.src.suf.length_le hall
 refine .go dP rfl rfl rfl rfl <| bH W.src (fun e σ1 m1=>h.err _ (by rw [e];rfl) _ m1.keep) fun c r e σ1 m1=>?_
 subst e
 have h1:=h.mv m1
 have W1:=W.mv m1
 unfold iV at h1
 refine .eqC 60 (fun q=>oi fun v j σ2 n=>?_) fun q=>.eqC 126 (fun q2=>.own W1.si W1.sj rfl rfl ?_) fun q2=>m1.src.tb <| d7 m1.src W.src.suf fun σ2 m2=>.own (W1.mv m2).si (W1.mv m2).sj rfl rfl ?_
 · exact h1.one (if_pos (xw q)) W1 .rfl n .run (Nat.lt_succ_of_lt (Nat.lt_succ_self _))
 · rw [if_neg (sR q),if_pos (xw q2)] at h1
   refine h1.str (d:=d) (x:=r) W1 (fun e=>?_) (by rw [List.length_cons] at hr ⊢;omega) hu hl fun a b=>pQ W1.src a b
   have:=hZ e
   exact ⟨Nat.le_trans this.1 (Nat.mul_le_mul_left 4 (Nat.le_succ_of_le (Nat.le_succ _))),Nat.lt_succ_of_lt (Nat.lt_succ_of_le this.2.length_le)⟩
 · rw [if_neg (sR q),if_neg (sR q2)] at h1
   refine (h1.mv m2).str (d:=d) (x:=c :: r) (W1.mv m2) (fun e=>?_) (by omega) hu hl fun a b=>wF (W1.mv m2).src a b
   have:=gE e
   exact ⟨by have:=this.1;omega,Nat.lt_succ_of_le this.2.length_le⟩
theorem yP(W:Wd P all σ rest b u l)(hall:all.length≤500)(h:Ot P all σ (rest.length+1) u l (iM rest) Q X):Call (d+6) jb [.ref P.si,.ref P.i,.fn bc] σ Q X:=by
 have hw:∀ {x:ae},x <:+ all→(ax x).length≤1000000:=fun hx=>Nat.le_trans (bY _) (Nat.le_trans hx.length_le (Nat.le_trans hall (by decide)))
 refine .go dQ rfl rfl rfl rfl <| d6 3 fun P1 hP1=>W.src.tn <| dA W.src fun σ1 m1=>?_
 have h1:=h.mv m1
 have W1:=W.mv m1
 unfold iM at h1
 have fin:∀ {σ2 b2 v3},¬rest.head? = some 47→Mv P.i P.j all σ1 σ2 rest b2→P1 [some (.ref P.si),some (.ref P.i),some (.fn bc),some v3] σ2:=fun {σ2 b2 v3} z m2=>by
  rw [if_neg z] at h1
  have W2:=W1.mv m2
  refine hP1 _ _ <| .own W2.si W2.sj rfl rfl <| wn W2 (fun σ3 b3 m3=>?_) hall
  have h3:=(h1.mv m2).mv m3
  have W3:=W2.mv m3
  unfold qe at h3
  refine W3.lim (n:=127) rfl rfl rfl <| hH (m:=127) (hw m2.src.suf) (fun q=>h3.err _ (if_pos q) _ .refl) fun q v j σ4 n4=>?_
  exact h3.one (if_neg (Nat.not_lt.mpr q)) W3 .rfl n4 .name (Nat.lt_succ_of_le (cB _).length_le)
 cases rest with
 | nil=>exact .eq (.val .noneI) <| .notN (r:=true) rfl rfl <| fin nofun (.refl m1.src)
 | cons c r =>
  refine .eqC 47 (fun q=>.own W1.si W1.sj rfl rfl <| wn W1 (fun σ2 b2 m2=>?_) hall) fun q=>.notN (r:=false) rfl rfl <| m1.src.tb <| d7 m1.src W.src.suf fun σ2 m2=>fin (sR q) m2
  rw [if_pos (xw q)] at h1
  have h2:=h1.mv m2
  have W2:=W1.mv m2
  unfold qx at h2
  refine W2.lim (n:=127) rfl rfl rfl <| n7 (hw m1.src.suf) (fun q=>h2.err _ (if_pos q) _ .refl) (fun q q2 σ3 g=>h2.err _ ((if_neg (Nat.not_lt.mpr q)).trans (if_neg q2)) _ (.of g)) fun q v j σ3 σ4 g n=>?_
  exact h2.one ((if_neg (by rw [show ax (c :: r).tail=[97] from q];decide)).trans (if_pos q)) W2 g n .int (Nat.lt_succ_of_lt (Nat.lt_succ_of_le (cB _).length_le))
theorem CF(W:Wd P all σ rest true u l)(hall:all.length≤500)(hu:u≤1000000)(hl:l≤1000)(hp:c :: rest <:+ all)(hc:uV c)(h1:c≠123)(h2:c≠125)(h:Ot P all σ (rest.length+1) u l (bQ c rest) Q X) :
 Call (d+12) l9 [.ref P.si,.ref P.i,.int c.toNat,.fn bc] σ Q X:=by
 have hr:=Nat.le_trans hp.length_le hall
 unfold bQ at h
 have row:c=91∨c=93→∀ {R},(if c=91∨c=93 then gU.ok (.run [c]) rest else R) = .ok (.run [c]) rest:=fun q=>if_pos q
 refine .go eU rfl rfl rfl rfl <| .eqC 47 (fun q=>.own W.si W.sj rfl rfl <| yP W hall ?_) fun q1=>.eqC 40 (fun q=>.own W.si W.sj rfl rfl ?_) fun q2=>.eqC 60 (fun q=>.own W.si W.sj rfl rfl <| yZ W hall hu hl ?_) fun q3=>.eqC 62 (fun q=>.own W.si W.sj rfl rfl <| Bs W ?_) fun q4=>?_
 · rw [if_pos q] at h;exact h
 · rw [if_neg q1,if_pos q] at h
   refine h.str (d:=d+6) (x:=rest) W (fun e=>?_) (by rw [List.length_cons] at hr;omega) hu hl fun a b=>oV W.src a b
   have:=n9 e
   exact ⟨by have:=this.1;omega,Nat.lt_succ_of_le this.2.length_le⟩
 · rw [if_neg q1,if_neg q2,if_pos q] at h;exact h
 · rw [if_neg q1,if_neg q2,if_neg q3,if_pos q] at h;exact h
 rw [if_neg q1,if_neg q2,if_neg q3,if_neg q4] at h
 have rowG:c=91∨c=93→∀ v j σ',Nw (σ++[.list (av [c])]) σ' v j 1 (cA (.str fK) (.bytes [c]) true 3)→Q (.ref v) σ':=fun q v j σ' n=>h.one (if_pos q) W .a1 n .run (Nat.lt_succ_self _)
 have hb:∀ {K:ag},(K (.bytes [c]) (σ++[.list (av [c])]))→Bi (σ++[.list (av [c])]) K .bytes [.ref σ.length]:=fun hk=>.bytesL aa rfl (show 1≤1000000 by decide) hk
 refine .eqC 91 (fun q=>hb <| oi (rowG (.inl q))) fun q5=>.eqC 93 (fun q=>hb <| oi (rowG (.inr q))) fun q6=>.eqC 41 (fun q=>?_) fun q7=>W.src.tb <| d7 W.src hp fun σ1 m1=>?_
 · rw [if_neg (fun z=>z.elim q5 q6),if_pos q] at h;exact h.err _ rfl _ .refl
 rw [if_neg (fun z=>z.elim q5 q6),if_neg q7,lr,if_neg (Nat.not_lt.mpr (Nat.le_trans (bY (c :: rest)) hr))] at h
 have W1:=W.mv m1
 refine .own W1.si W1.sj rfl rfl <| wn W1 (fun σ2 b2 m2=>?_) hall
 have h2':=(h.mv m1).mv m2
 have W2:=W1.mv m2
 have wl:=bY (c :: rest)
 have reg:=qI hc h1 h2 q1 q2 q3 q4 q5 q6 q7
 have we:(aD (c :: rest)).length < rest.length+1:=by rw [aD,reg];exact Nat.lt_succ_of_le (cB rest).length_le
 refine W2.lim (n:=127) rfl rfl rfl <| oB (Nat.le_trans wl (Nat.le_trans hr (by decide))) (fun e he σ3 g=>h2'.err e he _ (.of g)) fun t ht k x e f v j σ3 σ4 g n=>h2'.one ht W2 g n f we
end
inductive BG where
 | one (t:Tok) (rest:ae)
 | err (e:ae)
 | done
noncomputable def CA(rec:List (List Tok)→ae→BG)(os:List (List Tok))(t:Tok)(r:ae):BG:=match os with
 | []=>.one t r
 | o :: os=>rec ((o++[t]) :: os) (an false r)
noncomputable def G4(rec:List (List Tok)→ae→BG)(os:List (List Tok)):gU→BG
 | .err e=>.err e
 | .ok t r=>CA rec os t r
noncomputable def FW(pk:Bool)(rec:List (List Tok)→ae→BG)(r:ae):List (List Tok)→BG
 | []=>.err lW
 | o :: os=>CA rec os (.proc pk o) r
noncomputable def HJ:List (List Tok)→BG
 | []=>.done
 | _ :: _=>.err lW
noncomputable def r8(pk:Bool):Nat→List (List Tok)→ae→BG
 | 0,_,_=>.done
 | n+1,os,x=>match x with
  | []=>HJ os
  | c :: r=>if c=123 then r8 pk n ([] :: os) (an false r) else if c=125 then FW pk (r8 pk n) r os else G4 (r8 pk n) os (bQ c r)
theorem aI:∀ (b:Bool) (x:ae) {c r},an b x=c :: r→uV c
 | _,[],_,_,h=>by rw [an] at h;cases h
 | true,c' :: x,_,_,h=>by
  rw [an] at h
  by_cases q:c'=10∨c'=12∨c'=13
  · rw [if_pos q] at h;exact aI _ x h
  · rw [if_neg q] at h;exact aI _ x h
 | false,c' :: x,_,_,h=>by
  rw [an] at h
  by_cases q:c'=37
  · rw [if_pos q] at h;exact aI _ x h
  · rw [if_neg q] at h
    cases q':bE c' with
    | true=>rw [q',if_pos rfl] at h;exact aI _ x h
    | false=>rw [q',if_neg Bool.false_ne_true] at h;cases h;exact ⟨q',q⟩
theorem az:∀ (b:Bool) (x:ae),an b x <:+ x
 | _,[]=>by rw [an];exact List.suffix_refl _
 | true,c' :: x=>by
  rw [an]
  by_cases q:c'=10∨c'=12∨c'=13
  · rw [if_pos q];exact (az _ x).trans (List.suffix_cons _ _)
  · rw [if_neg q];exact (az _ x).trans (List.suffix_cons _ _)
 | false,c' :: x=>by
  rw [an]
  by_cases q:c'=37
  · rw [if_pos q];exact (az _ x).trans (List.suffix_cons _ _)
  · rw [if_neg q]
    cases bE c' with
    | true=>exact (az _ x).trans (List.suffix_cons _ _)
    | false=>exact List.suffix_refl _
abbrev Os:=List (Nat×List Nat×List Tok)
noncomputable def toks(os:Os):List (List Tok):=os.map fun x=>x.2.2
noncomputable def lV(os:Os):List V:=(os.map fun x=>V.ref x.1).reverse
noncomputable def uW(os:Os):Nat:=(os.map fun x=>x.2.2.length).sum
structure pF(N ol:Nat)(σ:List O)(Z:Fr)(os:Os):Prop where
 lst:σ[ol]? = some (.list (lV os))
 olN:N≤ol
 inn:∀ x∈os,σ[x.1]? = some (.list (x.2.1.map .ref))∧N≤x.1∧x.1≠ol∧tS Z x.2.1 x.2.2
 nod:(os.map fun x=>x.1).Nodup
 zol:Z ol=none
 zin:∀ x∈os,Z x.1=none
 fz:Fz Z σ
 zl:∀ i o,Z i=some o→N≤i
section
variable{σ σ':List O}{Z Z':Fr}{N ol n a v:Nat}{os:Os}{t:Tok}{xs:List Nat}{ts:List Tok}{S:List Nat}
theorem Fz.none(f:Fz Z σ){i:Nat}(h:σ.length≤i):Z i=none:=by
 cases e:Z i with
 | none=>rfl
 | some o=>exact absurd (bm (f _ _ e)) (Nat.not_lt.mpr h)
theorem pF.fzk(h:pF N ol σ Z os)(k:aS S σ σ')(hS:∀ s∈S,s < N):Fz Z σ':=h.fz.keep k fun s m=>by
 cases e:Z s with
 | none=>rfl
 | some o=>exact absurd (h.zl s o e) (Nat.not_le.mpr (hS s m))
theorem pF.step(h:pF N ol σ Z os)(k:aS S σ σ')(hS:∀ s∈S,s < N)(hl:N≤σ.length):pF N ol σ' (Z.ext σ.length σ') os:=by
 have nS:∀ {i},N≤i→i∉S:=fun hi z=>Nat.not_lt.mpr hi (hS _ z)
 have zn:∀ {i o},σ[i]? = some o→Z i=none→Z.ext σ.length σ' i=none:=fun e z=>(if_neg (Nat.not_le.mpr (bm e))).trans z
 have f:=h.fzk k hS
 exact ⟨k _ _ h.lst (nS h.olN),h.olN,fun x m=>let ⟨h1,h2,h3,h4⟩:=h.inn x m;⟨k _ _ h1 (nS h2),h2,h3,h4.mono (Fr.le f)⟩,h.nod,zn h.lst h.zol,fun x m=>zn (h.inn x m).1 (h.zin x m),Fr.fz f,fun i o e=>by
  unfold Fr.ext at e
  by_cases q:σ.length≤i
  · exact Nat.le_trans hl q
  · rw [if_neg q] at e;exact h.zl i o e⟩
theorem pF.app{τ:List O}(h:pF N ol σ Z os):pF N ol (σ++τ) Z os:=⟨ac h.lst,h.olN,fun x m=>⟨ac (h.inn x m).1,(h.inn x m).2⟩,h.nod,h.zol,h.zin,fun i o e=>ac (h.fz i o e),h.zl⟩
theorem rK{o:O}(f:Fz Z σ)(h:Z a=none):Fz Z (σ.set a o):=fun i x e=>by
 rw [List.getElem?_set_ne (fun z:a=i=>by rw [← z,h] at e;cases e)];exact f i x e
theorem pF.push(h:pF N ol σ Z os)(hN:N≤σ.length):pF N ol ((σ++[O.list []]).set ol (.list (lV os++[.ref σ.length]))) Z ((σ.length,[],[]) :: os):=by
 have nl:ol≠σ.length:=Nat.ne_of_lt (bm h.lst)
 have f:Fz Z (σ++[O.list []]):=h.app.fz
 refine ⟨?_,h.olN,fun x m=>?_,List.nodup_cons.mpr ⟨fun z=>?_,h.nod⟩,h.zol,fun x m=>?_,rK f h.zol,h.zl⟩
 · rw [bk (ac h.lst),lV,lV,List.map_cons,List.reverse_cons]
 · rcases List.mem_cons.mp m with rfl | m
   · exact ⟨aN aa nl,hN,nl.symm,rfl,fun i x t e=>nomatch e⟩
   · obtain ⟨h1,h2,h3,h4⟩:=h.inn x m
     exact ⟨aN (ac h1) h3.symm,h2,h3,h4⟩
 · obtain ⟨x,m,e⟩:=List.mem_map.mp z
   exact absurd (bm (h.inn x m).1) (e▸Nat.lt_irrefl _)
 · rcases List.mem_cons.mp m with rfl | m
   · exact h.fz.none (Nat.le_refl _)
   · exact h.zin x m
theorem pF.pop(h:pF N ol σ Z ((a,xs,ts) :: os)):pF N ol (σ.set ol (.list (lV os))) Z os∧(σ.set ol (.list (lV os)))[a]? = some (.list (xs.map .ref)):=by
 have i:=fun x m=>h.inn x (List.mem_cons_of_mem _ m)
 obtain ⟨h1,h2,h3,h4⟩:=h.inn _ (List.mem_cons_self ..)
 exact ⟨⟨bk h.lst,h.olN,fun x m=>⟨aN (i x m).1 (i x m).2.2.1.symm,(i x m).2⟩,(List.nodup_cons.mp h.nod).2,h.zol,fun x m=>h.zin x (List.mem_cons_of_mem _ m),rK h.fz h.zol,h.zl⟩,aN h1 h3.symm⟩
theorem pF.add(h:pF N ol σ Z ((a,xs,ts) :: os))(hv:Th Z v t):pF N ol (σ.set a (.list ((xs++[v]).map .ref))) Z ((a,xs++[v],ts++[t]) :: os):=by
 obtain ⟨h1,h2,h3,h4⟩:=h.inn _ (List.mem_cons_self ..)
 refine ⟨aN h.lst h3,h.olN,fun x m=>?_,h.nod,h.zol,fun x m=>?_,rK h.fz (h.zin _ (List.mem_cons_self ..)),h.zl⟩
 · rcases List.mem_cons.mp m with rfl | m
   · exact ⟨bk h1,h2,h3,h4.snoc hv⟩
   · obtain ⟨g1,g2⟩:=h.inn x (List.mem_cons_of_mem _ m)
     exact ⟨aN g1 fun z:a=x.1=>(List.nodup_cons.mp h.nod).1 (by show a∈_;rw [z];exact List.mem_map_of_mem (f:=fun x:Nat×List Nat×List Tok=>x.1) m),g2⟩
 · rcases List.mem_cons.mp m with rfl | m
   · exact h.zin (a,xs,ts) (List.mem_cons_self ..)
   · exact h.zin x (List.mem_cons_of_mem _ m)
end
noncomputable abbrev y7.k(P:y7):List Nat:=[P.j,P.M.j,P.M.md]
structure Ga(P:y7)(all:ae)(σ0:List O)(U L ol:Nat)(σ:List O)(todo:ae)(Z:Fr)(os:Os):Prop where
 wd:∃ u l,Wd P all σ todo.tail (!todo.isEmpty) u l∧u+8 * uW os+12 * todo.length≤U∧l+todo.length≤L
 suf:todo <:+ all
 fst:∀ c r,todo=c :: r→uV c
 keep:aS P.k σ0 σ
 len:σ0.length≤σ.length
 opn:pF σ0.length ol σ Z os
 ol9:os.length+todo.length≤1000
 cn9:uW os+todo.length≤1000
structure zV(P:y7)(all:ae)(σ0:List O)(U L ol:Nat)(σ:List O)(k:Nat)(r:ae)(Z:Fr)(os:Os):Prop where
 wd:∃ b u l,Wd P all σ r b u l∧u+8 * (uW os+k)+12 * r.length≤U∧l+r.length≤L
 keep:aS P.k σ0 σ
 len:σ0.length≤σ.length
 opn:pF σ0.length ol σ Z os
 ol9:os.length+r.length≤1000
 cn9:uW os+k+r.length≤1000
section
variable{call:aw}{d:Nat}{c:UInt8}{σ σ0 σ' σ'':List O}{Q:ag}{X:ak}{P:y7}{all rest r todo:ae}{b b' b0:Bool}{u l u0 l0 U L n k v a ol:Nat}{t:Tok}{pk:Bool}{res:BG}{Z:Fr}{os:Os}{rest0:ae}{o:O}
theorem Wd.lt(W:Wd P all σ rest b u l):∀ s∈P.k,s < σ.length:=fun s m=>by
 rcases List.mem_cons.mp m with rfl | m
 · exact bm W.src.dat
 rcases List.mem_cons.mp m with rfl | m
 · exact bm W.mem.j
 · exact List.mem_singleton.mp m▸W.mem.md.elim fun es e=>bm e.1
theorem Wd.put(W:Wd P all σ rest b u l)(W0:Wd P all σ0 rest0 b0 u0 l0)(h:σ0.length≤a):Wd P all (σ.set a o) rest b u l:=by
 have f:∀ {i x y},σ[i]? = some x→σ0[i]? = some y→(σ.set a o)[i]? = some x:=fun {i x y} h1 h2=>aN h1 fun z:a=i=>Nat.not_lt.mpr h (z▸bm h2)
 exact ⟨⟨f W.src.inst W0.src.inst,f W.src.dat W0.src.dat,W.src.suf,W.src.len⟩,f W.si W0.si,f W.sj W0.sj,f W.mem.i W0.mem.i,f W.mem.j W0.mem.j,f W.mem.li W0.mem.li,f W.mem.lj W0.mem.lj,f W.mem.sv W0.mem.sv,W.mem.md.elim fun es e=>W0.mem.md.elim fun es' e'=>⟨es,f e.1 e'.1,e.2⟩⟩
theorem zV.put(m:zV P all σ0 U L ol σ k r Z os){os':Os}{k':Nat}(W0:Wd P all σ0 rest0 b0 u0 l0)(h:σ0.length≤a)(op:pF σ0.length ol (σ.set a o) Z os')(h1:uW os'+k'=uW os+k)(h2:os'.length=os.length):zV P all σ0 U L ol (σ.set a o) k' r Z os':=by
 obtain ⟨b,u,l,W,h3,h4⟩:=m.wd
 exact ⟨⟨b,u,l,W.put W0 h,h1▸h3,h4⟩,m.keep.new h,Nat.le_trans m.len (Nat.le_of_eq List.length_set.symm),op,h2▸m.ol9,h1▸m.cn9⟩
theorem zV.app{τ:List O}(m:zV P all σ0 U L ol σ k r Z os):zV P all σ0 U L ol (σ++τ) k r Z os :=
 ⟨m.wd.elim fun b h=>h.elim fun u h=>h.elim fun l h=>⟨b,u,l,h.1.ge .a1,h.2⟩,m.keep.trans .app,Nat.le_trans m.len (List.length_append▸Nat.le_add_right ..),m.opn.app,m.ol9,m.cn9⟩
theorem zV.first(m:zV P all σ0 U L ol σ 0 r Z os)(W0:Wd P all σ0 rest0 b0 u0 l0)(h:∀ σ',Ga P all σ0 U L ol σ' (an false r) (Z.ext σ.length σ') os→Q (f7 (an false r)) σ'):Call (d+4) jH [.ref P.i] σ Q X:=by
 obtain ⟨b,u,l,W,h3,h4⟩:=m.wd
 have hb:=(az false r).length_le
 refine rO W.src fun σ' mv=>h σ' ⟨⟨u,l,W.mv mv,Nat.le_trans (Nat.add_le_add_left (Nat.mul_le_mul_left 12 hb) _) h3,Nat.le_trans (Nat.add_le_add_left hb _) h4⟩,(az _ _).trans W.src.suf,fun c r=>aI _ _,m.keep.trans (mv.keep.mono fun _ z=>List.mem_singleton.mp z ▸ .head _),Nat.le_trans m.len mv.len,m.opn.step mv.keep (fun s z=>List.mem_singleton.mp z▸W0.lt _ (.head _)) m.len,Nat.le_trans (Nat.add_le_add_left hb _) m.ol9,Nat.le_trans (Nat.add_le_add_left hb _) m.cn9⟩
theorem fw:(lV os).length=os.length:=by rw [lV,List.length_reverse,List.length_map]
theorem BO(W0:Wd P all σ0 rest b u0 l0)(hall:all.length≤500)(hu:u0+12 * rest.length≤1000000)(hl:l0+rest.length≤1000)(ht:r8 pk (rest.length+1) [] (an false rest)=res)
 (h0:∀ e,res = .err e→∀ σ',aS P.k σ0 σ'→X e σ') (h1:res = .done→∀ σ' b u l,Wd P all σ' [] b u l→aS P.k σ0 σ'→Q .none σ')
 (h2:∀ t r,res = .one t r→∀ v σ' u l,Tk P all σ0 σ' r u l v t→u+12 * r.length≤u0+12 * rest.length→l+r.length≤l0+rest.length→Q (.ref v) σ'):Call (d+13) fX [.ref P.si,.ref P.i,.bool pk,.fn bc] σ0 Q X:=by
 have hr:=W0.src.suf.length_le
 have k3:=W0.lt
 have o0:pF σ0.length σ0.length (σ0++[.list []]) (fun _=>none) []:=⟨aa,Nat.le_refl _,nofun,.nil,rfl,nofun,nofun,nofun⟩
 have m0:zV P all σ0 (u0+12 * rest.length) (l0+rest.length) σ0.length (σ0++[.list []]) 0 rest (fun _=>none) []:=⟨⟨b,u0,l0,W0.ge .a1,Nat.le_refl _,Nat.le_refl _⟩,.app,List.length_append▸Nat.le_add_right ..,o0,by rw [List.length_nil];omega,by show 0+0+_≤_;omega⟩
 refine .go fb rfl rfl rfl rfl <| m0.first W0 fun σ1 tn1=>⟨fun P1 hP1=>?_⟩
 have loop:∀ (n:Nat) (todo:ae) (σ:List O) (Z:Fr) (os:Os) (v6:Option V),todo.length < n→Ga P all σ0 (u0+12 * rest.length) (l0+rest.length) σ0.length σ todo Z os→r8 pk n (toks os) todo=res →
  P1 [some (.ref P.si),some (.ref P.i),some (.bool pk),some (.fn bc),some (.ref σ0.length),some (f7 todo),v6] σ:=fun n=>by
  induction n with
  | zero=>exact fun todo σ Z os v6 hn=>absurd hn (Nat.not_lt_zero _)
  | succ n ih =>
   intro todo σ Z os v6 hn tn tp
   obtain ⟨u,l,W,hub,hlb⟩:=tn.wd
   cases todo with
   | nil =>
    refine hP1 _ _ <| .notN (r:=true) rfl rfl ?_
    cases os with
    | nil=>exact .neNil (ac tn.opn.lst) aa (fun _=>h1 tp.symm _ _ _ _ (W.ge .a1) (tn.keep.trans .app)) fun q=>absurd rfl q
    | cons x xs=>exact .neNil (ac tn.opn.lst) aa (fun q=>absurd (congrArg List.length q) (by rw [fw];exact nofun)) fun _=>h0 _ tp.symm _ (tn.keep.trans .app)
   | cons c r =>
    rw [r8] at tp
    have tp:(if c=123 then r8 pk n ([] :: toks os) (an false r) else if c=125 then FW pk (r8 pk n) r (toks os) else G4 (r8 pk n) (toks os) (bQ c r))=res:=tp
    have o9:=tn.ol9
    have c9:=tn.cn9
    have hn:=Nat.lt_of_succ_lt_succ hn
    rw [List.length_cons] at hub hlb o9 c9
    refine hP1 _ _ <| .notN (r:=false) rfl rfl <| wT <| d6 2 fun P2 hP2=>?_
    have fin:∀ {σ2:List O} {r':ae} {Z2:Fr} {os2:Os} {v:Nat} {t:Tok},r'.length≤r.length→zV P all σ0 (u0+12 * rest.length) (l0+rest.length) σ0.length σ2 1 r' Z2 os2→Th Z2 v t→CA (r8 pk n) (toks os2) t r'=res →
     P2 [some (.ref P.si),some (.ref P.i),some (.bool pk),some (.fn bc),some (.ref σ0.length),some (.int c.toNat),some (.ref v)] σ2:=fun {σ2 r' Z2 os2 v t} hr' m hv tp=>by
     have m1:=m.app (τ:=[.list []])
     obtain ⟨b3,u3,l3,W3,e1,e2⟩:=m1.wd
     refine hP2 _ _ <| .notN (r:=false) rfl rfl ?_
     cases os2 with
     | nil =>
      refine .eqNil m1.opn.lst aa (fun _=>h2 _ _ tp.symm _ _ _ _ ⟨⟨_,W3⟩,m1.keep,m1.len,fun Z n hn=>hv.mono fun i o e=>Fr.new (Nat.le_trans hn (m1.opn.zl i o e)) (m1.opn.fz i o e)⟩ (by omega) (by omega)) fun q=>absurd rfl q
     | cons x xs =>
      obtain ⟨a,ys,ts⟩:=x
      obtain ⟨g1,g2,g3,g4⟩:=m1.opn.inn _ (List.mem_cons_self ..)
      have h9:=m1.ol9
      have h8:=m1.cn9
      have ly:(ys.map V.ref).length≤1000000:=by
       rw [List.length_map,g4.1]
       rw [uW,List.map_cons,List.sum_cons] at h8
       exact Nat.le_trans (Nat.le_trans (Nat.le_add_right ts.length _) (Nat.le_of_add_right_le (Nat.le_of_add_right_le h8))) (by decide)
      refine .eqNil m1.opn.lst aa (fun q=>absurd (congrArg List.length q) (by rw [fw];exact nofun)) fun _=>.notN (r:=false) rfl rfl <| .last (x:=.ref a) m1.opn.lst (by rw [lV,List.map_cons,List.reverse_cons,List.getLast?_concat]) (by rw [fw];exact Nat.le_trans (Nat.le_of_add_right_le h9) (by decide)) <| .lApp g1 <| .lApp g1 ly (List.map_append (l₁:=ys) (l₂:=[v])).symm ?_
      refine (m1.put (k':=0) W0 g2 (m1.opn.add hv) ?_ rfl).first W0 fun σ5 tn5=>ih _ σ5 _ _ _ (Nat.lt_of_le_of_lt (Nat.le_trans (az _ _).length_le hr') hn) tn5 tp
      rw [uW,uW,List.map_cons,List.map_cons,List.sum_cons,List.sum_cons,List.length_append]
      exact Nat.add_right_comm _ 1 _
    refine .eqC 123 (fun q=>?_) fun q1=>.eqC 125 (fun q=>?_) fun q2=>?_
    · -- a bracket is opened
      rw [if_pos q] at tp
      have op:=tn.opn.push tn.len
      have m:zV P all σ0 (u0+12 * rest.length) (l0+rest.length) σ0.length _ 0 r Z ((σ.length,[],[]) :: os):=⟨⟨_,u,l,(W.ge (.a1 (τ:=[.list []]))).put W0 (Nat.le_refl _),by rw [uW,List.map_cons,List.sum_cons];show u+8 * (0+uW os+0)+_≤_;omega,by omega⟩,(tn.keep.trans .app).new (Nat.le_refl _),by rw [List.length_set,List.length_append];exact Nat.le_add_right_of_le tn.len,op,by rw [List.length_cons];omega,by rw [uW,List.map_cons,List.sum_cons];show 0+uW os+0+_≤_;omega⟩
      refine .lApp tn.opn.lst <| .lApp (ac tn.opn.lst) (by rw [fw];omega) rfl <| hP2 _ _ <| .notN (r:=true) rfl rfl <| .notN (r:=true) rfl rfl <| m.first W0 fun σ5 tn5=>ih _ σ5 _ _ _ (Nat.lt_of_le_of_lt (az _ _).length_le hn) tn5 tp
    · -- a bracket is closed
      rw [if_neg q1,if_pos q] at tp
      cases os with
      | nil=>exact .eqNil (ac tn.opn.lst) aa (fun _=>h0 _ tp.symm _ (tn.keep.trans .app)) fun z=>absurd rfl z
      | cons x xs =>
       obtain ⟨a,ys,ts⟩:=x
       obtain ⟨g1,g2,g3,g4⟩:=tn.opn.inn _ (List.mem_cons_self ..)
       have W2:=W.ge (.a1 (τ:=[.list []]))
       have opa:=tn.opn.app (τ:=[.list []])
       obtain ⟨op,pa⟩:=opa.pop
       have W3:=W2.put (o:=.list (lV xs)) W0 (Nat.le_refl _)
       have e8:uW ((a,ys,ts) :: xs)=ys.length+uW xs:=by rw [uW,List.map_cons,List.sum_cons,g4.1];rfl
       rw [e8] at hub c9
       rw [List.length_cons] at o9
       refine .eqNil (ac tn.opn.lst) aa (fun q=>absurd (congrArg List.length q) (by rw [fw];exact nofun)) fun _=>.own W2.si W2.sj rfl rfl <| .lPop opa.lst <| .lPop opa.lst (by rw [lV,List.map_cons,List.reverse_cons];rfl) (by rw [fw];omega) <| tP W3 pa g4 (by omega) (by omega) (by omega) fun v σ5 w5 k5 n5 h5=>?_
       obtain ⟨b5,w5⟩:=w5
       have le3:σ0.length≤((σ++[O.list []]).set σ0.length (.list (lV xs))).length:=by rw [List.length_set,List.length_append];exact Nat.le_add_right_of_le tn.len
       exact fin (Nat.le_refl _) ⟨⟨b5,_,_,w5,by omega,by omega⟩,((tn.keep.trans .app).new (Nat.le_refl _)).trans k5,Nat.le_trans le3 n5,op.step k5 k3 le3,by omega,by omega⟩ (h5 Z _ (Nat.le_refl _) (Fr.le (op.fzk k5 k3))) tp
    · -- a plain token
      rw [if_neg q1,if_neg q2] at tp
      refine .own W.si W.sj rfl rfl <| CF W hall (by omega) (by omega) tn.suf (tn.fst c r rfl) q1 q2 ⟨fun e he σ' k=>h0 _ (by rw [show bQ c r=_ from he] at tp;exact tp.symm) _ (tn.keep.trans (k.mono fun _ z=>List.mem_singleton.mp z ▸ .head _)),fun t r' he v σ5 u5 l5 k5 e1 e2 e3=>?_⟩
      obtain ⟨b5,w5⟩:=k5.wd
      have e1:u5+4 * r'.length≤u+4 * (r.length+1):=e1
      have e2:l5+r'.length≤l+(r.length+1):=e2
      have e3:r'.length < r.length+1:=e3
      exact fin (Nat.le_of_lt_succ e3) ⟨⟨b5,_,_,w5,by omega,by omega⟩,tn.keep.trans k5.keep,Nat.le_trans tn.len k5.len,tn.opn.step k5.keep k3 tn.len,by omega,by omega⟩ (k5.th Z _ (Nat.le_refl _)) (by rw [show bQ c r=_ from he] at tp;exact tp)
 exact loop _ _ σ1 _ [] none (Nat.lt_succ_of_le (az _ _).length_le) tn1 ht
end
noncomputable def gj(n:Nat):Nat:=(dV n).getD 99
noncomputable def lR.tell:lR→V
 | .no=>.none
 | .lim=>.bytes Mine.lim
 | .int n=>.tup [.str bF,.int n]
 | .real m=>.tup [.str dB,.int m]
section
variable{call:aw}{d n:Nat}{c:UInt8}{σ:List O}{Q:ag}{QF:aF}{X:ak}{x:ae}{b:Nat}
theorem lC(h:Q (.bytes [0,9,10,12,13,32]) σ):Call (d+1) sU [] σ Q X:=.go ka rfl rfl rfl rfl h
theorem lL(h:Q (.bytes [0,9,10,12,13,32,4]) σ):Call (d+1) tO [] σ Q X:=.go i9 rfl rfl rfl rfl h
theorem bu(h:Q (.bytes lW) σ):Call (d+1) yG [] σ Q X:=.go oL rfl rfl rfl rfl h
theorem fM(h:Q (.int (gj n)) σ):Call (d+1) rB [.int n] σ Q X:=by
 unfold gj dV at h
 refine .go iw rfl rfl rfl rfl <| .inN 48 57 (fun q=>.sub (i4 q.1) ?_) fun q1=>.inN 65 90 (fun q=>.sub (i4 (a:=55) (Nat.le_trans (by decide) q.1)) ?_) fun q2=>.inN 97 122 (fun q=>.sub (i4 (a:=87) (Nat.le_trans (by decide) q.1)) ?_) fun q3=>?_
 · rw [if_pos q] at h;exact h
 · rw [if_neg q1,if_pos q] at h;exact h
 · rw [if_neg q1,if_neg q2,if_pos q] at h;exact h
 · rw [if_neg q1,if_neg q2,if_neg q3] at h;exact h
theorem Bu(hb:b≤36):bx b c=true↔gj c.toNat < b:=by
 unfold bx gj
 cases dV c.toNat with
 | none=>exact ⟨nofun,fun h=>absurd (Nat.lt_of_lt_of_le h hb) (by decide)⟩
 | some n=>exact ⟨of_decide_eq_true,decide_eq_true⟩
theorem CK(hb:b≤36)(h0:(x≠[]∧x.all (bx b)=true→False)→∀ env,QF (.ret .none) env σ):∀ (l:ae) (m a:Nat) (z:Int) (e3:Option V),z=a→a < b ^ m→m+l.length≤1000→(l.all (bx b)=false→x.all (bx b)=false)→(l.all (bx b)=true→∀ e3,QF .next [some (.bytes x),some (.int b),some (.int (a * b ^ l.length+val b (cf l):Nat)),e3] σ) →
 lf (aR false [3]) (vcSs (Call (d+1)) (qA (at_ lE 1))) (fun _=>True) QF X (av l) [some (.bytes x),some (.int b),some (.int z),e3] σ:=by
 intro l
 induction l with
 | nil =>
  intro m a z e3 hz _ _ _ h
  have:=h rfl e3
  rw [show a * b ^ ([]:ae).length+val b (cf [])=a from Nat.mul_one a] at this
  exact ⟨trivial,hz▸this⟩
 | cons c l ih =>
  intro m a z e3 hz ha hm hx h
  refine ⟨trivial,_,rfl,fM <| .ge (fun q=>h0 (fun z=>?_) _) fun q=>.mul (hz▸Nat.lt_trans ha (mz hb (Nat.le_trans (Nat.le_add_right ..) hm))) (kB (Nat.lt_of_le_of_lt hb (by decide))) rfl <| fM <| .add rfl ?_⟩
  · have nk:bx b c=false:=Bool.eq_false_iff.mpr fun w=>absurd ((Bu hb).mp w) (Nat.not_lt.mpr (Int.ofNat_le.mp q))
    rw [hx (by rw [List.all_cons,nk];rfl)] at z;cases z.2
  · have q:gj c.toNat < b:=Nat.not_le.mp fun w=>q (Int.ofNat_le.mpr w)
    have ok:=(Bu hb).mpr q
    refine ih (m+1) (a * b+gj c.toNat) _ _ (hz▸by simp) (AU ha q) (Nat.add_right_comm m _ 1▸hm) (fun w=>hx (by rw [List.all_cons,ok,w];rfl)) fun w e3=>?_
    have:=h (by rw [List.all_cons,ok,w];rfl) e3
    have e:(gj c.toNat:Nat)=(dV c.toNat).getD 0:=by rw [gj,(mZ ok).1];rfl
    rw [show (a * b+gj c.toNat) * b ^ l.length+val b (cf l)=a * b ^ (c :: l).length+val b (cf (c :: l)) from ?_]
    · exact this
    · show _=a * b ^ (l.length+1)+((dV c.toNat).getD 0 * b ^ (cf l).length+val b (cf l))
      rw [← e,cf,List.length_map,Nat.add_mul,Nat.mul_assoc,← Nat.pow_succ',Nat.add_assoc]
theorem cC(hb:b≤36)(hl:x.length≤1000)(h:Q (dW (aW x b)) σ):Call (d+2) tG [.bytes x,.int b] σ Q X:=by
 refine .go jv rfl rfl rfl rfl <| .plainB (Nat.le_trans hl (by decide)) (CK hb (fun z env=>?_) x 0 0 _ _ rfl Nat.one_pos (Nat.zero_add _▸hl) id fun ok e3=>?_)
 · rw [aW,if_neg z] at h;exact h
 · rw [Nat.zero_mul,Nat.zero_add]
   refine .eqB (fun q=>?_) fun q=>?_
   · rw [aW,if_neg (fun z=>z.1 q)] at h;exact h
   · rw [aW,if_pos ⟨q,ok⟩] at h;exact h
theorem tM(hx:x.contains 35=true)(hl:x.length≤1000)(h:Q (oK x (x.idxOf 35)).tell σ):Call (d+3) ui [.bytes x] σ Q X:=by
 have hm:(35:UInt8)∈x:=List.contains_iff_mem.mp hx
 have hi:x.idxOf 35 < x.length:=List.idxOf_lt_length_iff.mpr hm
 have hl':x.length≤1000000:=Nat.le_trans hl (by decide)
 have ha:x.idxOf 35≤1000000:=Nat.le_trans (Nat.le_of_lt hi) hl'
 have ix:∀ {K:ag},K (.int (x.idxOf 35:Nat)) σ→Me σ K .index (.bytes x) [.bytes [35]]:=.index hm hl' rfl
 unfold oK at h
 refine .go jA rfl rfl rfl rfl <| .index <| ix <| .bytes .nil (.int rfl ha) hl' rfl <| cC (b:=10) (by decide) (Nat.le_trans (by show (x.take _).length≤x.length;rw [List.length_take];exact Nat.min_le_right ..) hl) ?_
 show oE _ _ _ (dW (aW (x.take (x.idxOf 35)) 10)) _
 cases e:aW (x.take (x.idxOf 35)) 10 with
 | none=>rw [e] at h;exact .isN (r:=true) rfl h
 | some b =>
  rw [e] at h
  have h:Q (if x.idxOf 35≤2 then if 2≤b∧b≤36 then (match aW (x.drop (x.idxOf 35+1)) b with | none=>.no | some n=>if 4294967296≤n then .lim else .int (cQ n)) else .no else lR.no).tell σ:=h
  refine .isN (r:=false) rfl <| .index <| ix <| .gt (fun q=>?_) fun q=>.inN 2 36 (fun q2=>?_) fun q2=>?_
  · rw [if_neg (Nat.not_le.mpr (Int.ofNat_lt.mp q))] at h;exact h
  · rw [if_pos (Nat.not_lt.mp fun z=>q (Int.ofNat_lt.mpr z)),if_pos q2] at h
    refine .index <| ix <| .add (n:=(x.idxOf 35+1:Nat)) rfl <| .bytes (.int rfl (Nat.le_trans hi hl')) .nil hl' rfl <| cC q2.2 (Nat.le_trans (by show (x.drop _).length≤x.length;rw [List.length_drop];exact Nat.sub_le ..) hl) ?_
    show oE _ _ _ (dW (aW (x.drop (x.idxOf 35+1)) b)) _
    cases e2:aW (x.drop (x.idxOf 35+1)) b with
    | none=>rw [e2] at h;exact .notN (r:=true) rfl rfl <| .isN (r:=true) rfl h
    | some n =>
     rw [e2] at h
     have h:Q (if 4294967296≤n then lR.lim else .int (cQ n)).tell σ:=h
     refine .notN (r:=false) rfl rfl <| .pow (k:=32) rfl (by decide) (by decide) rfl <| .ge (fun q=>?_) fun q=>.isN (r:=false) rfl <| .pow (k:=31) rfl (by decide) (by decide) rfl <| .ge (fun q'=>.pow (k:=32) rfl (by decide) (by decide) rfl <| .sub rfl ?_) fun q'=>?_
     · rw [if_pos (Int.ofNat_le.mp q)] at h;exact h
     · rw [if_neg (fun z=>q (Int.ofNat_le.mpr z))] at h
       have h:Q (.tup [.str bF,.int (cQ n)]) σ:=h
       rw [cQ,if_neg (Nat.not_le.mpr (Int.ofNat_le.mp q'))] at h
       exact h
     · rw [if_neg (fun z=>q (Int.ofNat_le.mpr z))] at h
       have h:Q (.tup [.str bF,.int (cQ n)]) σ:=h
       rw [cQ,if_pos (Nat.le_of_lt_succ (Nat.not_le.mp fun z=>q' (Int.ofNat_le.mpr z)))] at h
       exact h
  · rw [if_pos (Nat.not_lt.mp fun z=>q (Int.ofNat_lt.mpr z)),if_neg q2] at h;exact h
end
noncomputable def EI(n:Nat)(t:Int):Nat:=if 0≤t then n * 10 ^ t.toNat else (2 * n+10 ^ (-t).toNat) / (2 * 10 ^ (-t).toNat)
noncomputable def gQ(b:Bool)(f:Nat):lR:=if 1000000000000000000000 < f then .lim else .real (dI b f)
section
variable{b:Bool}{n f:Nat}{t:Int}
theorem xu:chk (dI b f)=gQ b f:=by
 rw [chk,gQ,fQ]
 by_cases q:f≤1000000000000000000000
 · rw [if_pos q,if_neg (Nat.not_lt.mpr q)]
 · rw [if_neg q,if_pos (Nat.not_le.mp q)]
theorem xz{m:Nat}:dI b n * (m:Int)=dI b (n * m):=by
 cases b
 · rfl
 · exact Int.neg_mul ..
theorem zW{k:Nat}(hn:0 < n):zU (dI b n) (k:Int)=dI b ((2 * n+k) / (2 * k)):=by
 rw [zU,fQ]
 cases b
 · exact if_neg (Int.not_lt.mpr (Int.natCast_nonneg n))
 · exact if_pos (Int.neg_neg_of_pos (Int.ofNat_lt.mpr hn))
theorem qu{p:Nat}(h:2 * n < p):(2 * n+p) / (2 * p)=0:=Nat.div_eq_of_lt (Nat.two_mul p▸Nat.add_lt_add_right h p)
theorem DP(h:dI b n=0):n=0:=fQ (b:=b) (n:=n)▸congrArg Int.natAbs h
theorem Cs:n < 2 ^ Builtin.Int.intBits (dI b n):=by
 unfold Builtin.Int.intBits
 by_cases h:dI b n=0
 · rw [DP h];exact Nat.pow_pos (by decide)
 · rw [if_neg (fun z=>h (eq_of_beq z)),fQ]
   exact (Nat.log2_lt fun z=>h (by rw [z];cases b<;>rfl)).mp (Nat.lt_succ_self _)
theorem vM:gQ b (EI n t)=bG (dI b n) t:=by
 unfold bG EI
 by_cases hn:dI b n=0
 · have n0:=DP hn
   subst n0
   rw [if_pos hn,show (if 0≤t then _ else _:Nat)=0 from ?_,gQ,if_neg (by decide),hn]
   by_cases ht:0≤t
   · rw [if_pos ht,Nat.zero_mul]
   · rw [if_neg ht];exact qu (Nat.pow_pos (by decide))
 rw [if_neg hn]
 have h0:0 < n:=Nat.pos_of_ne_zero fun z=>hn (by rw [z];cases b<;>rfl)
 by_cases ht:0≤t
 · rw [if_pos ht,if_pos ht]
   by_cases h32:32 < t
   · rw [if_pos h32,gQ,if_pos (Nat.lt_of_lt_of_le (by decide:_ < 1 * 10 ^ 33) (Nat.mul_le_mul h0 (Nat.pow_le_pow_right (by decide) ((Int.le_toNat ht).mpr h32))))]
   · rw [if_neg h32,← xu,← xz,Int.natCast_pow];rfl
 · rw [if_neg ht,if_neg ht]
   by_cases hb:(Builtin.Int.intBits (dI b n):Int) < -t
   · rw [if_pos hb,qu,gQ,if_neg (by decide)]
     · cases b<;>rfl
     · exact Nat.lt_of_lt_of_le (Nat.mul_lt_mul_of_pos_left (Cs (b:=b)) Nat.two_pos) (Nat.le_trans (Nat.le_of_eq Nat.pow_succ'.symm) (Nat.le_trans (Nat.pow_le_pow_right (by decide) (show _≤(-t).toNat by omega)) (Nat.pow_le_pow_left (by decide) _)))
   · rw [if_neg hb,← xu,← zW h0,Int.natCast_pow];rfl
theorem vW{l k:Nat}{nb:Bool}(hn:n < 10 ^ 500)(hk:k≤500):bG (dI b n) (dI nb (min l 2000) - k+6)=bG (dI b n) (dI nb l - k+6):=by
 by_cases hl:l≤2000
 · rw [Nat.min_eq_left hl]
 rw [Nat.min_eq_right (Nat.le_of_not_le hl)]
 by_cases h0:dI b n=0
 · rw [bG,if_pos h0,bG,if_pos h0]
 cases nb with
 | false =>
  have up:∀ t:Int,32 < t→bG (dI b n) t = .lim:=fun t ht=>by rw [bG,if_neg h0,if_pos (by omega),if_pos ht]
  rw [up _ (by show 32 < (2000:Int) - k+6;omega),up _ (by show 32 < (l:Int) - k+6;omega)]
 | true =>
  have hb:Builtin.Int.intBits (dI b n)≤1700:=by
   unfold Builtin.Int.intBits
   rw [if_neg (fun z=>h0 (eq_of_beq z)),fQ]
   exact Nat.le_of_lt ((Nat.log2_lt fun z=>h0 (by rw [z];cases b<;>rfl)).mpr (Nat.lt_trans hn (by decide +kernel:10 ^ 500 < 2 ^ 1699)) |> Nat.succ_lt_succ)
  have dn:∀ t:Int,t≤-1701→bG (dI b n) t = .real 0:=fun t ht=>by rw [bG,if_neg h0,if_neg (by omega),if_pos (by omega)]
  rw [dn _ (by show (-2000:Int) - k+6≤_;omega),dn _ (by show -(l:Int) - k+6≤_;omega)]
end
section
variable{c:UInt8}{p:UInt8→Bool}{x y:ae}
theorem gW:aB c x≠[]:=by
 cases x with
 | nil=>exact nofun
 | cons a x =>
  rw [aB]
  cases aB c x with
  | nil=>exact nofun
  | cons y ys =>
   show (if a=c then _ else _)≠_
   by_cases q:a=c
   · rw [if_pos q];exact nofun
   · rw [if_neg q];exact nofun
theorem m9(hp:∀ x,p x=true↔x=c)(h:(aj p x).2=none):aB c x=[x]:=by
 induction x with
 | nil=>rfl
 | cons a x ih =>
  rw [aj] at h
  cases q:p a with
  | true=>rw [q] at h;cases h
  | false =>
   rw [q] at h
   rw [aB,ih h]
   exact if_neg fun z=>Bool.eq_false_iff.mp q ((hp a).mpr z)
theorem oI(hp:∀ x,p x=true↔x=c)(h:(aj p x).2=some y):aB c x=(aj p x).1 :: aB c y:=by
 induction x with
 | nil=>cases h
 | cons a x ih =>
  rw [aj] at *
  rw [aB]
  cases q:p a with
  | true =>
   rw [q] at h
   rw [← Option.some.inj h]
   cases e:aB c x with
   | nil=>exact absurd e gW
   | cons y ys=>exact if_pos ((hp a).mp q)
  | false =>
   rw [q] at h
   rw [ih h]
   exact if_neg fun z=>Bool.eq_false_iff.mp q ((hp a).mpr z)
theorem qa(h:(aj p x).2=some y):x=(aj p x).1++x.getD (aj p x).1.length 0 :: y∧p (x.getD (aj p x).1.length 0)=true:=by
 induction x with
 | nil=>cases h
 | cons a x ih =>
  rw [aj] at *
  cases q:p a with
  | true =>
   rw [q] at h
   cases Option.some.inj h
   exact ⟨rfl,q⟩
  | false =>
   rw [q] at h
   have:=ih h
   exact ⟨congrArg (a :: ·) this.1,this.2⟩
theorem j3(x:UInt8):bg x=true↔x=46:=⟨fun h=>eq_of_beq ((Bool.or_false _).symm.trans h),fun h=>h▸rfl⟩
theorem xN(hc:c∈x)(h:bx 10 c=false):aW x 10=none:=by
 rw [aW,if_neg fun z=>Bool.eq_false_iff.mp h (List.all_eq_true.mp z.2 c hc)]
theorem vy{w:ae}(hp:∀ c,p c=true→bx 10 c=false)(h:(aj p x).2=some y):aW (w++x) 10=none:=by
 obtain ⟨k,q⟩:=qa h
 generalize x.getD _ _=a at *
 rw [k]
 exact xN (List.mem_append_right _ (List.mem_append_right _ (.head _))) (hp _ q)
theorem Au(c:UInt8)(h:bg c=true):bx 10 c=false:=(j3 c).mp h▸rfl
theorem HN(c:UInt8)(h:gC c=true):bx 10 c=false:=by
 rcases List.mem_cons.mp (List.contains_iff_mem.mp h) with rfl | h
 · rfl
 · cases List.mem_singleton.mp h;rfl
end
noncomputable def sI:Bool→Int
 | true=>-1
 | false=>1
theorem qK{b:Bool}{n:Nat}:sI b * n=dI b n:=by
 cases b
 · exact Int.one_mul _
 · exact Int.neg_one_mul _
theorem tz{b:Bool}:oY (sI b):=by cases b<;>exact kB (by decide)
theorem DW{x:ae}:(([[45],[43]]:List ae).any fun b=>decide (b=x.take 1))=gy x:=by
 show (_||(_||false))=(_||(_||false));rw [Bool.or_false,Bool.or_false,Bool.or_comm]
noncomputable def BH:Nat→ae→List V
 | _,[]=>[]
 | n,c :: l=>match gC c with | true=>.int n :: BH (n+1) l | false=>BH (n+1) l
theorem Br{x:ae}(h:(aj gC x).2=none):∀ n,BH n x=[]:=by
 induction x with
 | nil=>exact fun _=>rfl
 | cons a x ih =>
  intro n
  rw [aj] at h
  rw [BH]
  cases q:gC a with
  | true=>rw [q] at h;cases h
  | false=>rw [q] at h;exact ih h _
theorem za{x y:ae}(h:(aj gC x).2=some y):∀ n,∃ r,BH n x = .int ((n+(aj gC x).1.length:Nat):Int) :: r:=by
 induction x with
 | nil=>cases h
 | cons a x ih =>
  intro n
  rw [aj] at *
  rw [BH]
  cases q:gC a with
  | true=>exact ⟨_,rfl⟩
  | false =>
   rw [q] at h
   obtain ⟨r,e⟩:=ih h (n+1)
   exact ⟨r,e.trans (by rw [Nat.add_right_comm];rfl)⟩
theorem Du{x:ae}:∀ {n},(BH n x).length≤x.length:=by
 induction x with
 | nil=>exact Nat.le_refl 0
 | cons a x ih =>
  intro n
  rw [BH]
  cases gC a with
  | true=>exact Nat.succ_le_succ ih
  | false=>exact Nat.le_succ_of_le ih
section
variable{d n k:Nat}{t l:Int}{b:Bool}{c:UInt8}{σ:List O}{Q:ag}{QF:aF}{X:ak}{x y w figs:ae}{e0 e2 e4 e5 e6 e7 e8:Option V}{v3:V}{ps:List V}{pp:List ae}{P:au→List O→Prop}
theorem CG{e0 e1 e2 e3:Option V}{QL:aL}:∀ (l:ae) (n:Nat) (z:Int) (acc:List V),z=n→acc.length+l.length≤1000→QL (acc++BH n l) σ →
 cF (aR true [11,12]) (vcBt (Call d) true [.cmp (.var 12) .isin (.cst (.bytes [101,69]))]) (bW (Call d) (.var 11)) (fun _=>True) [e0,e1,e2,e3,none,none,none,none,none,none,none,none,none] QL (enumL z (av l)) acc σ:=by
 intro l
 induction l with
 | nil=>intro n z acc _ _ h;exact ⟨trivial,(List.append_nil acc)▸h⟩
 | cons c l ih =>
  intro n z acc hz hl h
  refine ⟨trivial,_,rfl,.inC (b:=[101,69]) rfl ?_⟩
  rw [BH] at h
  unfold gC at h
  cases q:([101,69]:ae).contains c with
  | true =>
   rw [q] at h
   refine ⟨Nat.le_trans (Nat.le_add_right ..) (Nat.le_trans hl (by decide)),ih (n+1) _ _ (hz▸rfl) (by rw [List.length_append];exact Nat.add_right_comm ..▸hl) ?_⟩
   rw [List.append_assoc,hz];exact h
  | false =>
   rw [q] at h
   exact ih (n+1) _ _ (hz▸rfl) (Nat.le_of_succ_le hl) h
theorem Dr(hn:n < 10 ^ 500)(h1:t≤2100)(h2:-2690≤t)(h:Q (bG (dI b n) t).tell σ) :
 vcSs (Call d) (bB.drop 13) [e0,some (.int (sI b)),e2,some (.int n),e4,e5,e6,e7,e8,some (.int t),none,none,none] σ (eO Q) X:=by
 rw [← vM] at h
 have pk:∀ k:Nat,((10:Int) ^ k).natAbs=10 ^ k:=fun k=>Int.natAbs_pow ..
 refine d6 1 fun P hP=>?_
 have fin:∀ f:Nat,EI n t=f→P [e0,some (.int (sI b)),e2,some (.int n),e4,e5,e6,e7,e8,some (.int t),some (.int f),none,none] σ:=fun f e=>hP _ _ <| .pow (k:=21) rfl (by decide) (by decide) rfl <| .gt (fun q=>?_) fun q=>?_
 · have nk:n < 10 ^ 500:=hn
   have po:∀ {k:Nat},k≤2699→oY ((10:Int) ^ k):=fun {k} h=>hJ (k:=k+1) (by rw [pk];exact Nat.pow_lt_pow_right (by decide) (Nat.lt_succ_self _)) (Nat.succ_le_succ h)
   have no:oY (n:Int):=hJ (k:=500) hn (by decide)
   clear hn nk
   refine .ge (fun q=>.pow (k:=t.toNat) (Int.toNat_of_nonneg q).symm (by decide) (Nat.le_trans (Int.toNat_le.mpr ‹_›) (by decide:2100≤100000)) (Int.natCast_pow 10 _).symm <| .mul no (Int.natCast_pow 10 _▸po (by omega)) (Int.natCast_mul ..).symm <| fin _ (if_pos q)) fun q=>?_
   have hk:(-t).toNat≤2690:=Int.toNat_le.mpr (Int.neg_le_of_neg_le ‹_›)
   have ek:-t=(-t).toNat:=(Int.toNat_of_nonneg (Int.neg_nonneg_of_nonpos (Int.le_of_lt (Int.not_le.mp q)))).symm
   have hp:0 < 10 ^ (-t).toNat:=Nat.pow_pos (by decide)
   have hd:GO (2 * (10 ^ (-t).toNat:Nat)):=wo (Nat.le_trans hk (by decide))
   have po':oY (10 ^ (-t).toNat:Nat):=Int.natCast_pow 10 _▸po (by omega)
   have Cz:oY 2:=kB (by decide)
   refine .mul Cz no rfl <| .pow ek (by decide) (Nat.le_trans hk (by decide)) (Int.natCast_pow 10 _).symm <| .add rfl <| .pow ek (by decide) (Nat.le_trans hk (by decide)) (Int.natCast_pow 10 _).symm <| .mul Cz po' rfl <| .fdiv (Int.mul_pos (by decide) (Int.ofNat_lt.mpr hp)) hd rfl <| fin _ (if_neg q)
 · rw [e,gQ,if_pos (Int.ofNat_lt.mp q)] at h;exact h
 · have q:¬ 1000000000000000000000 < f:=fun z=>q (Int.ofNat_lt.mpr z)
   rw [e,gQ,if_neg q] at h
   exact .mul tz (hJ (k:=22) (Nat.lt_of_le_of_lt (Nat.not_lt.mp q) (by decide)) (by decide)) qK h
theorem w8(hs:σ[k]? = some (.list (pp.map .bytes)))(hj:aA [] pp=w)(hw:w.length≤500)(hp:n=0∧(∃ a,pp=[a])∨∃ a y,pp=[a,y]∧y.length=n)(hn:n≤500)(h1:l≤2000)(h2:-2000≤l)(h:Q (nW b n (some l) (aW w 10)).tell σ) :
 vcSs (Call (d+3)) (bB.drop 10) [e0,some (.int (sI b)),e2,some v3,e4,e5,some (.int l),e7,some (.ref k),none,none,none,none] σ (eO Q) X:=by
 have hl:pp.length≤2:=by rcases hp with ⟨-,a,rfl⟩ | ⟨a,y,rfl,-⟩<;>exact Nat.le_of_ble_eq_true rfl
 have b1:l - n+6≤2100:=by omega
 have b2:-2690≤l - n+6:=by omega
 refine d6 3 fun P hP=>.join <| .join hs rfl (Nat.le_trans hl (by decide)) hj (Nat.le_trans hw (by decide)) <| cC (b:=10) (by decide) (Nat.le_trans hw (by decide)) ?_
 show oE _ _ _ (dW (aW w 10)) _
 cases e:aW w 10 with
 | none=>rw [e] at h;exact .isN (r:=true) rfl h
 | some m =>
  rw [e] at h
  have mo:m < 10 ^ 500:=Nat.lt_of_lt_of_le (jX e) (Nat.pow_le_pow_right (by decide) hw)
  have fin:P [e0,some (.int (sI b)),e2,some (.int m),e4,e5,some (.int l),e7,some (.ref k),some (.int (l - n+6)),none,none,none] σ:=hP _ _ (Dr mo b1 b2 h)
  refine .isN (r:=false) rfl <| .add rfl <| .lenL hs (by rw [List.length_map];exact Nat.le_trans hl (by decide)) <| .eqI (fun q=>?_) fun q=>?_
  · rcases hp with ⟨-,a,rfl⟩ | ⟨a,y,rfl,hy⟩
    · cases q
    · exact .list hs (n:=1) rfl rfl (by show 2≤1000000;decide) <| .lenB (Nat.le_trans (hy▸hn) (by decide)) <| .sub (hy▸by omega) fin
  · rcases hp with ⟨rfl,-⟩ | ⟨a,y,rfl,hy⟩
    · exact .sub (by omega) fin
    · exact absurd rfl q
theorem q8{s:Option V}(hps:σ[k]? = some (.list ps))(hl:figs.length≤500)(e:aB 46 figs=pp)(hp:pp.length≤1000000)(hA:(ps=[]∧cI v3=true)∧pp.length=1∨2 < pp.length→∀ σ',Ge σ σ'→Q .none σ')
 (hB:¬((ps=[]∧cI v3=true)∧pp.length=1∨2 < pp.length)→∀ (σ':List O) (j:Nat),Ge σ σ'→σ'[j]? = some (.list (pp.map .bytes))→P [e0,s,e2,some v3,some (.ref k),some (.bytes figs),e6,e7,some (.ref j),none,none,none,none] σ') :
 vcSs (Call d) ((bB.drop 8).take 2) [e0,s,e2,some v3,some (.ref k),some (.bytes figs),e6,e7,none,none,none,none,none] σ (jk P (eO Q)) X:=by
 refine .split <| .split (Nat.le_trans hl (by decide)) (congrArg (List.map V.bytes) e) ?_
 have hl:(pp.map V.bytes).length≤1000000:=(List.length_map ..).symm▸hp
 have Cz:¬((ps=[]∧cI v3=true)∧pp.length=1)→vcBt (Call d) false [.cmp (.call (.cst (.blt .len)) [.var 8]) .gt (.cst (.int 2))] [e0,s,e2,some v3,some (.ref k),some (.bytes figs),e6,e7,some (.ref σ.length),none,none,none,none] (σ++[.list (pp.map .bytes)]++[.list []])
  (xr (vcSs (Call d) (qA (at_ bB 9))) (vcSs (Call d) []) [e0,s,e2,some v3,some (.ref k),some (.bytes figs),e6,e7,some (.ref σ.length),none,none,none,none] (kr (vcSs (Call d) []) (jk P (eO Q)) X) X) X:=fun w=>.lenL (ac aa) hl <| .gt (fun q=>?_) fun q=>?_
 · refine .eqNil (ac (ac hps)) aa (fun q1=>.isN rfl ?_) fun q1=>Cz fun z=>q1 z.1.1
   cases q2:cI v3 with
   | false=>exact Cz fun z=>nomatch q2▸z.1.2
   | true =>
    refine .lenL (ac aa) hl <| .eqI (fun q=>?_) fun q=>Cz fun z=>q (by rw [List.length_map,z.2];rfl)
    rw [List.length_map] at q
    exact hA (.inl ⟨⟨q1,q2⟩,Int.ofNat.inj q⟩) _ .a2
 · rw [List.length_map] at q
   exact hA (.inr (Int.ofNat_lt.mp q)) _ .a2
 · rw [List.length_map] at q
   exact hB (fun z=>z.elim w fun z=>q (Int.ofNat_lt.mpr z)) _ _ .a2 (ac aa)
end
theorem qW{c:UInt8}{x:ae}:(aB c x).length≤x.length+1:=by
 induction x with
 | nil=>exact Nat.le_refl 1
 | cons a x ih =>
  rw [aB]
  cases e:aB c x with
  | nil=>exact absurd e gW
  | cons y ys =>
   rw [e] at ih
   show (if a=c then _ else _:List ae).length≤_
   by_cases q:a=c
   · rw [if_pos q];exact Nat.succ_le_succ ih
   · rw [if_neg q];exact Nat.le_succ_of_le ih
theorem zu{a k:Nat}(h:a≤k):10 ^ a≤10 ^ k:=Nat.pow_le_pow_right (by decide) h
theorem z9{b:Bool}{n:Nat}:(n:Int) * sI b=dI b n:=(Int.mul_comm ..).trans qK
noncomputable def BC(b:Bool)(figs:ae)(l:Int):lR:=nW b ((aj bg figs).2.getD []).length (some l) (aW ((aj bg figs).1++(aj bg figs).2.getD []) 10)
theorem C4{b:Bool}{y yy:ae}(e:(aj gC y).2=some yy){o:Option Int}(ex:AW yy=o):cN y b=nW b ((aj bg (aj gC y).1).2.getD []).length o (aW ((aj bg (aj gC y).1).1++(aj bg (aj gC y).1).2.getD []) 10):=by
 unfold cN
 rw [e,← ex]
 cases (aj bg (aj gC y).1).2<;>rfl
theorem EQ{b nb:Bool}{figs:ae}{l:Nat}(hl:figs.length≤500):BC b figs (dI nb (min l 2000))=BC b figs (dI nb l):=by
 have fl:=cW bg figs
 unfold BC
 cases en:aW ((aj bg figs).1++(aj bg figs).2.getD []) 10 with
 | none=>rfl
 | some n =>
  have q:=Nat.le_trans (List.length_append▸fl:((aj bg figs).1++(aj bg figs).2.getD []).length≤_) hl
  have hn:n < 10 ^ 500:=Nat.lt_of_lt_of_le (jX en) (zu q)
  exact vW hn (Nat.le_trans (Nat.le_add_left ..) (Nat.le_trans fl hl))
section
variable{d n k:Nat}{l:Int}{b:Bool}{σ:List O}{Q:ag}{QF:aF}{X:ak}{x y w figs:ae}{e0 e2 e4 e5 e6 e7 e8:Option V}{v3:V}{ps:List V}
theorem tE(hps:σ[k]? = some (.list ps))(hl:figs.length≤500)(h1:l≤2000)(h2:-2000≤l)(h:(ps=[]∧cI v3=true)∧(aj bg figs).2=none→∀ σ',Ge σ σ'→Q .none σ')(h':¬((ps=[]∧cI v3=true)∧(aj bg figs).2=none)→∀ σ',Ge σ σ'→Q (BC b figs l).tell σ') :
 vcSs (Call (d+3)) (bB.drop 8) [e0,some (.int (sI b)),e2,some v3,some (.ref k),some (.bytes figs),some (.int l),e7,none,none,none,none,none] σ (eO Q) X:=by
 have fl:=cW bg figs
 unfold BC at h'
 refine d6 2 fun P hP=>?_
 cases e:(aj bg figs).2 with
 | none =>
  rw [e] at h h'
  rw [cz _ _ e] at h'
  exact q8 (P:=P) (pp:=[figs]) hps hl (m9 j3 e) (Nat.le_of_ble_eq_true rfl) (fun q=>h (q.elim (fun z=>⟨z.1,rfl⟩) fun z=>absurd z (Nat.lt_irrefl 1 <| Nat.lt_of_succ_lt ·))) fun q σ' j g hj =>
   hP _ _ <| w8 (n:=0) (w:=figs++[]) hj (List.append_nil _).symm ((List.append_nil figs).symm▸hl) (.inl ⟨rfl,_,rfl⟩) (by decide) h1 h2 <| h' (fun z=>q (.inl ⟨z.1,rfl⟩)) σ' g
 | some y =>
  rw [e] at h h' fl
  have e1:=oI j3 e
  have h':=h' nofun
  cases e2:(aj bg y).2 with
  | none =>
   rw [m9 j3 e2] at e1
   have fy:y.length≤500:=Nat.le_trans (Nat.le_add_left ..) (Nat.le_trans fl hl)
   exact q8 (P:=P) hps hl e1 (Nat.le_of_ble_eq_true rfl) (fun q=>q.elim (fun z=>nomatch z.2) fun z=>absurd z (Nat.lt_irrefl 2)) fun q σ' j g hj =>
    hP _ _ <| w8 (n:=y.length) hj (by show _++[]++y=_++y;rw [List.append_nil]) (List.length_append▸Nat.le_trans fl hl) (.inr ⟨_,_,rfl,rfl⟩) fy h1 h2 <| h' σ' g
  | some z =>
   have e3:=oI j3 e2
   have hp:=qW (c:=46) (x:=figs)
   rw [e1] at hp
   rw [show aW (_++(some y).getD []) 10=none from vy Au e2] at h'
   exact q8 (P:=P) hps hl e1 (Nat.le_trans hp (Nat.succ_le_succ (Nat.le_trans hl (by decide)))) (fun _=>h') fun q=>absurd (.inr (e3▸Nat.succ_lt_succ (Nat.succ_lt_succ (List.length_pos_iff.mpr gW)))) q
theorem Dd(hv:v3=dW (aW y 10))(hl:y.length≤500)(h:∀ σ',Ge σ σ'→Q (match aW y 10 with | some n=>chk (dI b n * 1000000) | none=>cN y b).tell σ') :
 vcSs (Call (d+3)) (bB.drop 5) [some (.bytes x),some (.int (sI b)),some (.bytes y),some v3,none,none,none,none,none,none,none,none,none] σ (eO Q) X:=by
 have hy:y.length≤1000000:=Nat.le_trans hl (by decide)
 refine d6 3 fun P hP=>.enumB hy <| CG y 0 _ _ rfl (Nat.zero_add _▸Nat.le_trans hl (by decide)) ?_
 cases e:(aj gC y).2 with
 | none =>
  rw [Br e]
  refine .neNil (ac aa) aa (fun _=>hP _ _ <| tE (l:=0) (ac aa) hl (by decide) (by decide) (fun q σ' g=>?_) fun q σ' g=>?_) fun q=>absurd rfl q
  · have h:=h _ (.trans .a2 g)
    cases ef:aW y 10 with
    | some n=>rw [hv,ef] at q;cases q.1.2
    | none =>
     rw [ef] at h
     have h:Q (cN y b).tell σ':=h
     rw [cN,e,cz _ _ e,q.2] at h
     exact h
  · have h:=h _ (.trans .a2 g)
    unfold BC
    cases ef:aW y 10 with
    | none =>
     rw [ef] at h
     have h:Q (cN y b).tell σ':=h
     rw [cN,e,cz _ _ e] at h
     cases e2:(aj bg y).2 with
     | none=>exact absurd ⟨⟨rfl,by rw [hv,ef];rfl⟩,e2⟩ q
     | some z=>rw [e2] at h;exact h
    | some n =>
     rw [ef] at h
     have h:Q (chk (dI b n * 1000000)).tell σ':=h
     cases e2:(aj bg y).2 with
     | some z=>exact nomatch ef▸vy (w:=[]) Au e2
     | none =>
      rw [cz _ _ e2,show y++(none:Option ae).getD []=y from List.append_nil y,ef]
      show Q (bG (dI b n) 6).tell σ'
      rw [bG,if_pos (by decide:(0:Int)≤6),if_neg (by decide:¬ (32:Int) < 6)]
      by_cases q:dI b n=0
      · rw [q] at h;rw [if_pos q];exact h
      · rw [if_neg q];exact h
 | some yy =>
  have ef:aW y 10=none:=vy (w:=[]) HN e
  rw [ef] at h
  have h:∀ σ',Ge σ σ'→Q (cN y b).tell σ':=h
  obtain ⟨r,er⟩:=za e 0
  have pl:=Du (n:=0) (x:=y)
  rw [er,Nat.zero_add] at *
  have sa:=(qa e).1
  have sl:=cW gC y
  rw [e] at sl
  have hf:(aj gC y).1.length≤500:=Nat.le_trans (Nat.le_add_right ..) (Nat.le_trans sl hl)
  have hyy:yy.length≤500:=Nat.le_trans (Nat.le_add_left ..) (Nat.le_trans sl hl)
  have h7:yy.length≤1000000:=Nat.le_trans hyy (by decide)
  have hns:=Nat.le_trans (fA yy) (Nat.le_trans hyy (by decide:500≤1000))
  have rn:=C4 (b:=b) e (o:=_) rfl
  generalize (aj gC y).1=figs at *
  generalize y.getD _ _=a at *
  have t1:y.take figs.length=figs:=by rw [sa,List.take_left]
  have t2:y.drop (figs.length+1)=yy:=by rw [sa,← List.drop_drop,List.drop_left];rfl
  have h1:figs.length+1≤1000000:=Nat.succ_le_succ (Nat.le_trans hf (by decide))
  have at0:∀ {τ:List O},((σ++[.list (.int figs.length :: r)])++τ)[σ.length]? = some (.list (.int figs.length :: r)):=ac aa
  have pl:(V.int figs.length :: r).length≤1000000:=Nat.le_trans pl hy
  refine .neNil at0 aa (fun q=>nomatch q) fun _=>tT <| .list at0 (n:=0) rfl rfl pl <| .bytes .nil (.int rfl (Nat.le_of_succ_le h1)) hy t1 <| .list at0 (n:=0) rfl rfl pl <| .add (n:=(figs.length+1:Nat)) rfl <| .bytes (.int rfl h1) .nil hy t2 ?_
  refine d6 1 fun P2 hP2=>.bytes .nil (.int rfl (by decide:1≤1000000)) h7 rfl <| .inT (bs:=[[45],[43]]) rfl DW (?_:zt _ _ _ _ _ (gy yy) _)
  have rest:P2 [some (.bytes x),some (.int (sI b)),some (.bytes y),some v3,some (.ref σ.length),some (.bytes figs),some (dW (aW (aP yy) 10)),some (.bytes yy),none,none,none,none,none] (σ++[.list (.int figs.length :: r)]++[.list []]):=by
   refine hP2 _ _ ?_
   unfold AW at rn
   cases el:aW (aP yy) 10 with
   | none =>
    rw [el] at rn
    rw [rn] at h
    exact .isN (r:=true) rfl (h _ .a2)
   | some l =>
    rw [el] at rn
    have hP:P [some (.bytes x),some (.int (sI b)),some (.bytes y),some v3,some (.ref σ.length),some (.bytes figs),some (.int (dI (gi yy) (min l 2000))),some (.bytes yy),none,none,none,none,none] (σ++[.list (.int figs.length :: r)]++[.list []]) :=
     hP _ _ <| tE at0 hf (by cases gi yy;exact (by show ((min l 2000:Nat):Int)≤2000;omega);exact (by show -((min l 2000:Nat):Int)≤2000;omega)) (by cases gi yy;exact (by show -2000≤((min l 2000:Nat):Int);omega);exact (by show -2000≤-((min l 2000:Nat):Int);omega)) (fun q=>nomatch q.1.1) fun _ σ' g=>by
      rw [EQ hf]
      have h:=h _ (.trans .a2 g)
      rw [rn] at h
      exact h
    have mo:oY (min l 2000:Nat):=kB (Nat.lt_of_le_of_lt (Nat.min_le_right ..) (by decide))
    refine .isN (r:=false) rfl <| .min (n:=(min l 2000:Nat)) ((Nat.le_total l 2000).elim (fun q=>(Int.min_eq_left (Int.ofNat_le.mpr q)).trans (congrArg Int.ofNat (Nat.min_eq_left q).symm)) fun q=>(Int.min_eq_right (Int.ofNat_le.mpr q)).trans (congrArg Int.ofNat (Nat.min_eq_right q).symm)) <| .bytes .nil (.int rfl (by decide:1≤1000000)) h7 rfl <| .eqB (fun q=>.mul mo (tz (b:=true)) ?_ hP) fun q=>.mul mo (tz (b:=false)) ?_ hP
    · have q:yy.take 1=[45]:=q
      rw [gi,decide_eq_true q];exact z9 (b:=true)
    · have q:yy.take 1≠[45]:=q
      rw [gi,decide_eq_false q];exact z9 (b:=false)
  cases q:gy yy with
  | true =>
   rw [show aP yy=yy.drop 1 by rw [aP,q]] at *
   exact .bytes (.int rfl (by decide:1≤1000000)) .nil h7 rfl <| cC (b:=10) (by decide) hns rest
  | false =>
   rw [show aP yy=yy by rw [aP,q];rfl] at *
   exact cC (b:=10) (by decide) hns rest
theorem qZ(hl:x.length≤500)(h:∀ σ',Ge σ σ'→Q (bq x).tell σ'):Call (d+4) rL [.bytes x] σ Q X:=by
 have hx:x.length≤1000000:=Nat.le_trans hl (by decide)
 have hns:=Nat.le_trans (fA x) hl
 have one:(1:Nat)≤1000000:=by decide
 unfold bq at h
 refine .go iG rfl rfl rfl rfl <| .inB rfl ?_
 cases e:x.contains 35 with
 | true=>rw [if_pos e] at h;exact tM e (Nat.le_trans hl (by decide)) (h _ .rfl)
 | false =>
  rw [if_neg (by rw [e];decide)] at h
  have main:∀ b,gi x=b→vcSs (Call (d+3)) (bB.drop 2) [some (.bytes x),some (.int (sI b)),none,none,none,none,none,none,none,none,none,none,none] σ (eO Q) X:=fun b hb=>by
   rw [hb] at h
   refine d6 1 fun P hP=>.bytes .nil (.int rfl one) hx rfl <| .inT (bs:=[[45],[43]]) rfl DW (?_:zt _ _ _ _ _ (gy x) _)
   have rest:P [some (.bytes x),some (.int (sI b)),some (.bytes (aP x)),none,none,none,none,none,none,none,none,none,none] σ:=hP _ _ <| d6 2 fun P2 hP2=>cC (b:=10) (by decide) (Nat.le_trans hns (by decide)) <| by
    have low:∀ {v3},v3=dW (aW (aP x) 10)→(∀ σ',Ge σ σ'→Q (match aW (aP x) 10 with | some n=>chk (dI b n * 1000000) | none=>cN (aP x) b).tell σ')→P2 [some (.bytes x),some (.int (sI b)),some (.bytes (aP x)),some v3,none,none,none,none,none,none,none,none,none] σ:=fun hv h=>hP2 _ _ (Dd hv hns h)
    show oE _ _ _ (dW (aW (aP x) 10)) _
    cases en:aW (aP x) 10 with
    | none=>rw [en] at h low;exact .notN (r:=true) rfl rfl <| low rfl h
    | some n =>
     rw [en] at h low
     have h:∀ σ',Ge σ σ'→Q (g6 (dI b n)).tell σ':=h
     have no:oY (n:Int):=hJ (k:=500) (Nat.lt_of_lt_of_le (jX en) (zu hns)) (by decide)
     unfold g6 at h
     have lo:¬(-2147483648≤dI b n∧dI b n≤2147483647)→P2 _ σ:=fun q=>low rfl fun σ' g=>by have h:=h σ' g;rw [if_neg q] at h;exact h
     refine .notN (r:=false) rfl rfl <| .pow (k:=31) rfl (by decide) (by decide) rfl <| .mul tz no qK <| .le (fun q1=>.pow (k:=31) rfl (by decide) (by decide) rfl <| .lt (fun q2=>.mul tz no qK ?_) fun q2=>lo fun z=>q2 (Int.lt_add_one_of_le z.2)) fun q1=>lo fun z=>q1 z.1
     have h:=h _ .rfl
     rw [if_pos ⟨q1,Int.le_of_lt_add_one q2⟩] at h;exact h
   cases q:gy x with
   | true =>
    rw [show aP x=x.drop 1 by rw [aP,q]] at rest
    exact .bytes (.int rfl one) .nil hx rfl rest
   | false =>
    rw [show aP x=x by rw [aP,q];rfl] at rest
    exact rest
  exact .bytes (z:=x.take 1) .nil (.int rfl one) hx rfl <| .eqB (fun q=>main true (decide_eq_true q)) fun q=>main false (decide_eq_false q)
end
section
variable{d:Nat}{c:UInt8}{σ:List O}{Q:ag}{QF:aF}{QB:aX}{X:ak}{all rest r t:ae}{z:Int}
theorem qO{dn:ae}(h:dn++t <:+ all):pos all t=pos all (dn++t)+dn.length:=by
 have e:=fN h
 rw [List.length_append,← Nat.add_assoc] at e
 exact Nat.add_right_cancel ((fN ((List.suffix_append dn t).trans h)).trans e.symm)
theorem uk(hs:t <:+ all)(k:Nat):cP all (pos all t) (some (pos all t+k))=t.take k:=by
 show (all.take _).drop _=_
 rw [List.drop_take,kb hs,Nat.add_sub_cancel_left]
theorem Ee{dn:ae}(h:dn++t <:+ all):cP all (pos all (dn++t)) (some (pos all t))=dn:=by rw [qO h,uk h,List.take_left]
theorem Cm.end(hz:z=pos all [])(h:QB false σ):Cm σ QB .lt (.int z) (.int all.length):=.lt (fun q=>absurd (hz▸q:((all.length - 0:Nat):Int) < all.length) (Int.lt_irrefl _)) fun _=>h
theorem Cm.more(hz:z=pos all (c :: r))(ht:c :: r <:+ all)(h:QB true σ):Cm σ QB .lt (.int z) (.int all.length):=.lt (fun _=>h) fun q=>absurd (hz▸Int.ofNat_lt.mpr (zq ht)) q
theorem Sb.at(hz:z=pos all (c :: r))(ht:c :: r <:+ all)(hl:all.length≤1000000)(h:Q (.int c.toNat) σ):Sb σ Q (.bytes all) (.int z):=.bytes hz (xF ht) hl h
theorem f8(hz:z=pos all (c :: r))(ht:c :: r <:+ all):z+1=pos all r:=by rw [hz,cZ ht];rfl
theorem i8:([0,9,10,12,13,32,4]:ae).contains c=bE c:=by
 unfold bE aH
 simp only [List.contains_cons,List.contains_nil,Bool.or_assoc,Bool.or_false]
theorem CQ:([0,9,10,12,13,32,4,40,41,60,62,91,93,123,125,47,37]:ae).contains c=!bo c:=by
 unfold bo b6
 rw [← i8]
 simp only [List.contains_cons,List.contains_nil,Bool.or_false,Bool.not_and,Bool.not_not,Bool.or_assoc]
theorem tc(h:bE c=true):b6 c=false:=by
 have:∀ x∈([0,9,10,12,13,32,4]:ae),b6 x=false:=by decide
 exact this c (List.contains_iff_mem.mp (i8.trans h))
theorem iK(hs:rest <:+ all)(hl:all.length≤100000)(h:Q (.tup [.bytes (ax rest),.int (pos all (aD rest))]) σ):Call (d+2) v7 [.bytes all,.int (pos all rest)] σ Q X:=by
 have hle:∀ {r},pos all r≤1000000:=Nat.le_trans fP (Nat.le_trans hl (by decide))
 have hl':all.length≤1000000:=Nat.le_trans hl (by decide)
 refine .go lG rfl rfl rfl rfl <| d6 3 fun P0 hP0=>⟨fun P hP=>?_⟩
 have fin:∀ (t dn:ae) (z:Int),rest=dn++t→ax rest=dn→aD rest=aD t→(∀ c r,t=c :: r→bo c=false)→z=pos all t→P0 [some (.bytes all),some (.int (pos all rest)),some (.bytes [0,9,10,12,13,32,4,40,41,60,62,91,93,123,125,47,37]),some (.int z),none] σ:=by
  intro t dn z e1 e2 e3 hr hz
  have ht:t <:+ all:=(List.suffix_append dn t).trans (e1▸hs)
  have ret:∀ {z':Int} {t':ae},z'=pos all t'→aD t=t'→Q (.tup [.bytes dn,.int z']) σ:=fun e w=>by rw [e,← w,← e2,← e3];exact h
  refine hP0 _ _ <| .bytes (.int rfl hle) (.int hz hle) hl' (e1▸Ee (e1▸hs)) <| .add rfl <| .bytes (.int hz hle) (.int (n:=pos all t+2) (hz▸rfl) (Nat.le_trans (Nat.add_le_add_right fP 2) (Nat.le_trans (Nat.add_le_add_right hl 2) (by decide)))) hl' (uk ht 2) <| .eqB (fun q=>?_) fun q=>?_
  · cases t with
    | nil=>cases q
    | cons a t=>cases t with
     | nil=>cases q
     | cons b r =>
      cases q
      exact .add rfl <| ret (t':=r) (by rw [hz,cZ (a8 ht),cZ ht];rfl) rfl
  · cases t with
    | nil=>exact .lenB hl' <| .end hz <| ret hz rfl
    | cons c r =>
     have hc:=hr c r rfl
     refine .lenB hl' <| .more hz ht <| .at hz ht hl' <| lL <| .inC i8 ?_
     cases qb:bE c with
     | true =>
      refine .add rfl <| ret (f8 hz ht) ?_
      rw [aD,hc,tc qb]
      show (if c=13 then bj r else r)=r
      by_cases w:c=13
      · rw [if_pos w]
        cases r with
        | nil=>rfl
        | cons b r=>exact if_neg fun w'=>q (by rw [w,w'];rfl)
      · exact if_neg w
     | false =>
      have hd:b6 c=true:=by
       unfold bo at hc
       rw [qb] at hc
       exact Bool.of_not_eq_false fun w=>by rw [w] at hc;cases hc
      refine ret hz ?_
      rw [aD,hc,hd]
 have loop:∀ (n:Nat) (t dn:ae) (z:Int),t.length < n→rest=dn++t→ax rest=dn++ax t→aD rest=aD t→z=pos all t→P [some (.bytes all),some (.int (pos all rest)),some (.bytes [0,9,10,12,13,32,4,40,41,60,62,91,93,123,125,47,37]),some (.int z),none] σ:=by
  intro n
  induction n with
  | zero=>exact fun t dn z hn=>absurd hn (Nat.not_lt_zero _)
  | succ n ih =>
   intro t dn z hn e1 e2 e3 hz
   have ht:t <:+ all:=(List.suffix_append dn t).trans (e1▸hs)
   cases t with
   | nil=>exact hP _ _ <| .lenB hl' <| .end hz <| fin [] dn z e1 (e2.trans (List.append_nil _)) e3 nofun hz
   | cons c r =>
    refine hP _ _ <| .lenB hl' <| .more hz ht <| .at hz ht hl' <| .ninC CQ ?_
    cases hr:bo c with
    | true =>
     rw [ax,hr] at e2
     rw [aD,hr] at e3
     exact .add rfl <| ih r (dn++[c]) _ (Nat.lt_of_succ_lt_succ hn) (by rw [List.append_assoc];exact e1) (by rw [List.append_assoc];exact e2) e3 (f8 hz ht)
    | false =>
     rw [ax,hr] at e2
     exact fin _ dn z e1 (e2.trans (List.append_nil _)) e3 (fun _ _ e=>by cases e;exact hr) hz
 exact loop _ rest [] _ (Nat.lt_succ_self _) rfl rfl rfl rfl
theorem wK:([10,13,12]:ae).contains c=true↔c=10∨c=12∨c=13:=by
 rw [List.contains_iff_mem,List.mem_cons,List.mem_cons,List.mem_singleton,Or.comm (a:=c=13)]
theorem eD(hs:rest <:+ all)(hl:all.length≤1000000)(hz:z=pos all rest)(h:Q (.int (pos all (an false rest))) σ):Call (d+2) sK [.bytes all,.int z] σ Q X:=by
 refine .go jQ rfl rfl rfl rfl <| ⟨fun P hP=>?_⟩
 have loop:∀ (n:Nat) (t:ae) (z:Int) (e2:Option V),t.length < n→t <:+ all→an false t=an false rest→z=pos all t→P [some (.bytes all),some (.int z),e2] σ:=by
  intro n
  induction n with
  | zero=>exact fun t z e2 hn=>absurd hn (Nat.not_lt_zero _)
  | succ n ih =>
   intro t z e2 hn ht e hz
   have ret:an false t=t→Q (.int z) σ:=fun w=>by rw [hz,← w,e];exact h
   cases t with
   | nil=>exact hP _ _ <| .lenB hl <| .end hz <| ret rfl
   | cons c r =>
    rw [an] at e ret
    have hr:=Nat.lt_of_succ_lt_succ hn
    refine hP _ _ <| .lenB hl <| .more hz ht <| .at hz ht hl <| lL <| .inC i8 ?_
    cases qb:bE c with
    | true =>
     have q:c≠37:=fun w=>by rw [w] at qb;cases qb
     rw [if_neg q,qb,if_pos rfl] at e
     exact .at hz ht hl <| .eqC 37 (fun w=>absurd w q) fun _=>.add rfl ⟨fun P' hP'=>hP' _ _ <| ih r _ _ hr (a8 ht) e (f8 hz ht)⟩
    | false =>
     refine .at hz ht hl <| .eqC 37 (fun q=>?_) fun q=>ret (by rw [if_neg q,qb];rfl)
     rw [if_pos q] at e
     refine .at hz ht hl <| .eqC 37 (fun _=>.add rfl ⟨fun P' hP'=>?_⟩) fun w=>absurd q w
     have loop2:∀ (m:Nat) (t:ae) (z:Int),t.length < m→t.length < n→t <:+ all→an true t=an false rest→z=pos all t→P' [some (.bytes all),some (.int z),some (.bool true)] σ:=by
      intro m
      induction m with
      | zero=>exact fun t z hn=>absurd hn (Nat.not_lt_zero _)
      | succ m ih2 =>
       intro t z hm hn ht e hz
       cases t with
       | nil=>exact hP' _ _ <| .lenB hl <| .end hz <| ih [] _ _ hn ht e hz
       | cons c r =>
        rw [an] at e
        refine hP' _ _ <| .lenB hl <| .more hz ht <| .at hz ht hl <| .ninC rfl ?_
        cases w:([10,13,12]:ae).contains c with
        | true =>
         have w:=wK.mp w
         rw [if_pos w] at e
         refine ih _ _ _ hn ht ?_ hz
         rw [an,if_neg (by rcases w with rfl | rfl | rfl<;>decide),if_pos (by rcases w with rfl | rfl | rfl<;>rfl)]
         exact e
        | false =>
         rw [if_neg (fun z=>Bool.eq_false_iff.mp w (wK.mpr z))] at e
         exact .add rfl <| ih2 r _ (Nat.lt_of_succ_lt_succ hm) (Nat.lt_of_succ_lt hn) (a8 ht) e (f8 hz ht)
     exact loop2 _ r _ (Nat.lt_succ_self _) hr (a8 ht) e (f8 hz ht)
 exact loop _ rest _ _ (Nat.lt_succ_self _) hs rfl hz
end
noncomputable def cD:Nat→ae→List Nat
 | 0,_=>[]
 | _+1,[]=>[]
 | k+1,c :: r=>match cj c with | true=>(c.toNat - 48) :: cD k r | false=>[]
theorem nr:∀ {k:Nat} {x:ae},(cD k x).length≤k
 | 0,_=>Nat.le_refl 0
 | _+1,[]=>Nat.zero_le _
 | k+1,c :: r=>by
  rw [cD]
  cases cj c with
  | true=>exact Nat.succ_le_succ nr
  | false=>exact Nat.zero_le _
theorem xd:∀ {k:Nat} {x:ae},(cD k x).length≤x.length
 | 0,_=>Nat.zero_le _
 | _+1,[]=>Nat.le_refl 0
 | k+1,c :: r=>by
  rw [cD]
  cases cj c with
  | true=>exact Nat.succ_le_succ xd
  | false=>exact Nat.zero_le _
theorem uL:∀ {k n:Nat} {x:ae},bX k n x=((n * 8 ^ (cD k x).length+val 8 (cD k x)) % 256,x.drop (cD k x).length)
 | 0,n,x=>by rw [bX,cD];show (n % 256,x)=((n * 1+0) % 256,x);rw [Nat.mul_one];rfl
 | _+1,n,[]=>by show (n % 256,[])=((n * 1+0) % 256,[]);rw [Nat.mul_one];rfl
 | k+1,n,c :: r=>by
  rw [bX,cD]
  cases cj c with
  | true =>
   refine uL.trans ?_
   show (((8 * n+(c.toNat - 48)) * _+_) % 256,_)=((n * 8 ^ (_+1)+(_ * 8 ^ _+_)) % 256,_)
   rw [Nat.add_mul,Nat.pow_succ',Nat.mul_comm 8 n,Nat.mul_assoc,Nat.add_assoc];rfl
  | false=>show (n % 256,c :: r)=((n * 1+0) % 256,c :: r);rw [Nat.mul_one];rfl
theorem Dp{t:ae}(h:cD 3 t≠[]):oP t=([UInt8.ofNat (val 8 (cD 3 t) % 256)],t.drop (cD 3 t).length):=by
 cases t with
 | nil=>exact absurd rfl h
 | cons c r =>
  rw [cD] at *
  rw [oP]
  cases q:cj c with
  | true=>show ([UInt8.ofNat (bX 2 _ r).1],(bX 2 _ r).2)=_;rw [uL];rfl
  | false=>rw [q] at h;exact absurd rfl h
noncomputable def Hb:List Nat→List Int
 | []=>[]
 | x :: l=>x * 8 ^ l.length :: Hb l
theorem xI:∀ {l:List Nat},(Hb l).sum=val 8 l
 | []=>rfl
 | x :: l=>by rw [Hb,List.sum_cons,xI,val,Int.natCast_add,Int.natCast_mul,Int.natCast_pow];rfl
noncomputable def Go:List S:=qA (at_ (qA (at_ fC 2)) 1)
section
variable{call:aw}{d:Nat}{c:UInt8}{σ:List O}{Q:ag}{QF:aF}{X:ak}{all rest r t:ae}{z dep:Int}{v0 v5:V}{e2 e3 e4 e5 e7:Option V}{m f:Nat}{P:au→List O→Prop}
theorem C3(hl:all.length≤100000){L:Nat}(hP:H2 call (at_ Go 0) P QF X)(h:QF .next [some (.bytes all),some (.int z),e2,e3,e4,e5,some (.int L),e7] σ):∀ (k:Nat) (u:ae) (s:Int),s+k=3→s+(cD k u).length=L→z+s=pos all u→u <:+ all→P [some (.bytes all),some (.int z),e2,e3,e4,e5,some (.int s),e7] σ:=by
 intro k
 induction k with
 | zero=>exact fun u s hk hL _ _=>hP _ _ <| .lt (fun q=>absurd hk (by omega)) fun _=>(Int.add_zero s).symm.trans hL▸h
 | succ k ih =>
  intro u s hk hL hz hu
  have hpl:pos all u+1≤1000000:=Nat.le_trans (Nat.succ_le_succ (Nat.le_trans fP hl)) (by decide)
  have hl':all.length≤1000000:=Nat.le_trans hl (by decide)
  refine hP _ _ <| .lt (fun _=>.add hz <| .add hz <| .add (n:=(pos all u+1:Nat)) rfl <| .bytes (.int rfl (Nat.le_of_succ_le hpl)) (.int rfl hpl) hl' (uk hu 1) ?_) fun q=>absurd hk (by omega)
  cases u with
  | nil =>
   refine .cat (Nat.le_of_ble_eq_true rfl) rfl <| .bytes (n:=0) rfl rfl (Nat.le_of_ble_eq_true rfl) <| .inN 48 55 (fun q=>absurd q (by decide)) fun _=>?_
   exact (Int.add_zero s).symm.trans hL▸h
  | cons c r =>
   refine .cat (Nat.le_of_ble_eq_true rfl) rfl <| .bytes (n:=0) rfl rfl (Nat.le_of_ble_eq_true rfl) <| .inN 48 55 (fun q=>?_) fun q=>?_
   · rw [cD,show cj c=true from decide_eq_true q] at hL
     exact .add rfl <| ih r (s+1) (by omega) (by have:s+((cD k r).length+1:Nat)=L:=hL;omega) ((Int.add_assoc z s 1).symm.trans (f8 hz hu)) (a8 hu)
   · rw [cD,show cj c=false from decide_eq_false q] at hL
     exact (Int.add_zero s).symm.trans hL▸h
theorem Cu(hl:all.length≤1000000){L:Nat}{QL:aL}:∀ (k:Nat) (u:ae) (j:Int) (acc:List V),k≤3→acc.length+k≤3→j+(cD k u).length=L→z+j=pos all u→u <:+ all→QL (acc++(Hb (cD k u)).map .int) σ →
 cF (aR false [7]) (vcBt call true []) (bW call (.bin .mul (.bin .sub (.sub (.var 0) (.bin .add (.var 1) (.var 7))) (.cst (.int 48))) (.bin .pow (.cst (.int 8)) (.bin .sub (.bin .sub (.var 6) (.cst (.int 1))) (.var 7))))) (fun _=>True) [some (.bytes all),some (.int z),e2,e3,e4,e5,some (.int L),none] QL (cT j 1 (cD k u).length) acc σ:=by
 intro k
 induction k with
 | zero=>exact fun u j acc _ _ _ _ _ h=>⟨trivial,(List.append_nil acc)▸h⟩
 | succ k ih =>
  intro u j acc hk ha hL hz hu h
  cases u with
  | nil=>exact ⟨trivial,(List.append_nil acc)▸h⟩
  | cons c r =>
   rw [cD] at *
   cases q:cj c with
   | false=>rw [q] at h;exact ⟨trivial,(List.append_nil acc)▸h⟩
   | true =>
    rw [q] at h hL
    have q:48≤c.toNat∧c.toNat≤55:=of_decide_eq_true q
    have le:=nr (k:=k) (x:=r)
    have e:(L:Int) - 1 - j=(cD k r).length:=by rw [← hL];show j+(_+1:Nat) - 1 - j=_;omega
    refine ⟨trivial,_,rfl,.add hz <| .at rfl hu hl <| .sub (i4 q.1) <| .sub rfl <| .sub e <| .pow rfl (by decide) (Nat.le_trans le (Nat.le_trans (Nat.le_succ k) (Nat.le_trans hk (by decide)))) rfl <| .mul (kB (Nat.lt_of_le_of_lt (Nat.le_trans (Nat.sub_le ..) q.2) (by decide))) (kB ?_) rfl ⟨Nat.le_trans (Nat.le_add_right ..) (Nat.le_trans ha (by decide)),ih r (j+1) _ (Nat.le_of_succ_le hk) (by rw [List.length_append];exact Nat.add_right_comm ..▸ha) (by have:j+((cD k r).length+1:Nat)=L:=hL;omega) ((Int.add_assoc z j 1).symm.trans (f8 hz hu)) (a8 hu) ?_⟩⟩
    · rw [Int.natAbs_pow]
      exact Nat.lt_of_le_of_lt (Nat.pow_le_pow_right (by decide) (Nat.le_trans le (Nat.le_trans (Nat.le_succ k) hk))) (by decide)
    · rw [List.append_assoc];exact h
theorem FA(ht:t <:+ all)(hl:all.length≤100000){fo:ae}(hz:z=pos all t)(hm:σ[m]? = some (.idict iu))(hf:σ[f]? = some (.list (av fo)))(hfl:fo.length≤100000)
 (h:∀ σ' (n z':Int),z'=pos all (oP t).2→aS [f] σ σ'→σ'[f]? = some (.list (av (fo++(oP t).1)))→QF .next [some (.bytes all),some (.int z'),some (.ref m),some (.ref f),e4,e5,some (.int n),none] σ') :
 vcSs call Go [some (.bytes all),some (.int z),some (.ref m),some (.ref f),e4,e5,some (.int 0),none] σ QF X:=by
 have hl':all.length≤1000000:=Nat.le_trans hl (by decide)
 have hpl:pos all t+2≤1000000:=Nat.le_trans (Nat.add_le_add_right (Nat.le_trans fP hl) 2) (by decide)
 have fl:(av fo).length≤1000000:=bI▸Nat.le_trans hfl (by decide)
 have oc:∀ {a b:ae},av fo++av b=av (fo++b):=fun {a b}=>c8.symm
 refine d6 1 fun P0 hP0=>⟨fun P hP=>C3 (L:=(cD 3 t).length) hl hP (hP0 _ _ <| d6 1 fun P1 hP1=>?_) 3 t 0 rfl (Int.zero_add _) ((Int.add_zero z).trans hz) ht⟩
 have fin:∀ (σ':List O) (n:Int),z+n=pos all (oP t).2→aS [f] σ σ'→σ'[f]? = some (.list (av (fo++(oP t).1)))→P1 [some (.bytes all),some (.int z),some (.ref m),some (.ref f),e4,e5,some (.int n),none] σ':=fun σ' n hn hk hf=>hP1 _ _ <| .add rfl <| h _ _ _ hn hk hf
 refine .gt (fun q=>?_) fun q=>?_
 · have eo:=Dp fun w=>by rw [w] at q;exact absurd q (by decide)
   rw [eo] at fin
   refine .lApp hf <| .rng rfl (by have:=nr (k:=3) (x:=t);omega) (by omega) <| Cu hl' 3 t 0 [] (by decide) (by decide) (Int.zero_add _) ((Int.add_zero z).trans hz) ht ?_
   refine .sum aa rfl xI <| .mod (by decide) (n:=(val 8 (cD 3 t) % 256:Nat)) rfl <| .lApp (ac hf) fl rfl ?_
   rw [Df (Nat.mod_lt _ (by decide))]
   have hd:=(List.drop_suffix (cD 3 t).length t).trans ht
   have e1:=fN hd
   have e2:=fN ht
   have e3:(cD 3 t).length≤t.length:=xd
   rw [List.length_drop] at e1
   exact fin _ _ (hz▸(Int.ofNat.inj (congrArg Int.ofNat (Nat.add_right_cancel ((Nat.add_assoc ..).trans ((congrArg _ (Nat.add_sub_cancel' e3)).trans (e2.trans e1.symm)))))▸rfl)) (aS.app.put (.head _)) ((bk (ac hf)).trans (by rw [← oc (a:=[])];rfl))
 · have e0:cD 3 t=[]:=List.length_eq_zero_iff.mp (by omega)
   rw [e0]
   refine .add (n:=(pos all t+2:Nat)) (hz▸rfl) <| .bytes (.int hz (Nat.le_of_succ_le (Nat.le_of_succ_le hpl))) (.int rfl hpl) hl' (uk ht 2) <| .eqB (fun q=>?_) fun q=>.lenB hl' ?_
   · cases t with
     | nil=>cases q
     | cons a t=>cases t with
      | nil=>cases q
      | cons b r =>
       cases q
       refine fin _ 2 ?_ .refl ((List.append_nil fo).symm▸hf)
       show z+2=pos all r
       rw [cZ (a8 ht),cZ ht,hz];rfl
   · cases t with
     | nil=>exact .end hz <| fin _ 0 ((Int.add_zero z).trans hz) .refl ((List.append_nil fo).symm▸hf)
     | cons c r =>
      have ho:cj c=false:=Bool.of_not_eq_true fun w=>by rw [cD,w] at e0;cases e0
      have cont:∀ (τ:List O) (o:ae),oP (c :: r)=(o,r)→P1 [some (.bytes all),some (.int z),some (.ref m),some (.ref f),e4,e5,some (.int 1),none] ((σ++τ).set f (.list (av fo++av o))):=fun τ o eo=>by
       rw [eo] at fin
       exact fin _ 1 (f8 hz ht) (aS.app.put (.head _)) ((bk (ac hf)).trans (by rw [oc (a:=[])]))
      refine .more hz ht <| .lExt hf <| .at hz ht hl' <| .inC rfl ?_
      cases qc:([13,10]:ae).contains c with
      | true =>
       refine .lExt (ac hf) aa (Nat.ne_of_lt (bm hf)) fl rfl <| cont [.list []] [] ?_
       rw [oP,ho]
       show (if c=13 then _ else _)=_
       by_cases w:c=13
       · rw [if_pos w]
         cases r with
         | nil=>rfl
         | cons b r =>
          rw [bj,if_neg fun w'=>q (by rw [w,w'];rfl)]
       · rw [if_neg w]
         exact if_pos ((List.mem_cons.mp (List.contains_iff_mem.mp qc)).elim (fun z=>absurd z w) List.mem_singleton.mp)
      | false =>
       refine .get hm <| .at hz ht hl' <| .at hz ht hl' <| .get hm (qD c) <| .lExt (ac hf) aa (Nat.ne_of_lt (bm hf)) (by rw [bI];exact Nat.succ_le_succ (Nat.le_trans hfl (by decide))) rfl <| cont [.list [.int (iy c).toNat]] [iy c] ?_
       rw [oP,ho]
       have nm:∀ x∈([13,10]:ae),c≠x:=fun x mx w=>by rw [w,List.contains_iff_mem.mpr mx] at qc;cases qc
       exact (if_neg (nm 13 (.head _))).trans (if_neg (nm 10 (.tail _ (.head _))))
end
section
variable{call:aw}{d:Nat}{c:UInt8}{σ σ0:List O}{Q:ag}{QF:aF}{X:ak}{all rest r t fo:ae}{z dz:Int}{v5:V}{e2 e3 e4 e5 e7:Option V}{m f dep:Nat}{P:au→List O→Prop}{K:Option (ae×ae)→Prop}
theorem E5(hz:z=pos all r)(hr:r <:+ all):z+(match decide (r.take 1=[10]) with | true=>1 | false=>0)=pos all (bj r):=by
 cases r with
 | nil=>exact (Int.add_zero z).trans hz
 | cons b r =>
  rw [bj]
  by_cases q:b=10
  · rw [if_pos q,q];exact f8 (q▸hz) (q▸hr)
  · rw [if_neg q,decide_eq_false (p:=(b :: r).take 1=[10]) (fun w=>q (List.cons.inj w).1)]
    exact (Int.add_zero z).trans hz
theorem Dn(h1:c≠40)(h2:c≠41):(List.lookup (c.toNat:Int) [((40:Int),V.int 1),(41,V.int (-1))]).getD (.int 0) = .int 0:=by
 rw [List.lookup_cons,show ((c.toNat:Int)==40)=false from beq_false_of_ne fun z=>h1 ((fE (n:=40) rfl).mp z),List.lookup_cons,show ((c.toNat:Int)==41)=false from beq_false_of_ne fun z=>h2 ((fE (n:=41) rfl).mp z)];rfl
theorem xZ(hl:all.length≤100000)(mf:m≠f)(hP:H2 (Call (d+1)) (at_ fC 2) P QF X)
 (h0:K none→∀ (z dz:Int) (e5 e6:Option V) σ,aS [f] σ0 σ→QF .next [some (.bytes all),some (.int z),some (.ref m),some (.ref f),some (.int dz),e5,e6,none] σ)
 (h1:∀ o r,K (some (o,r))→∀ env z σ,z=(pos all r:Int)→aS [f] σ0 σ→QF (.ret (.tup [.tup [.str cJ,.bytes o],.int z])) env σ) :
 ∀ (n:Nat) (t fo:ae) (dep:Nat) (z dz:Int) (e5 e6:Option V) (σ:List O),t.length < n→t <:+ all→fo.length+t.length≤100000→1≤dep→z=pos all t→dz=dep→σ[m]? = some (.idict iu)→σ[f]? = some (.list (av fo))→aS [f] σ0 σ→K (pre fo (iD dep t)) →
  P [some (.bytes all),some (.int z),some (.ref m),some (.ref f),some (.int dz),e5,e6,none] σ:=by
 have hl':all.length≤1000000:=Nat.le_trans hl (by decide)
 intro n
 induction n with
 | zero=>intro t fo dep z dz e5 e6 σ hn;exact absurd hn (Nat.not_lt_zero _)
 | succ n ih =>
  intro t fo dep z dz e5 e6 σ hn ht hfl hd hz hdz hm hf hk hK
  refine hP _ _ <| .lenB hl' ?_
  cases t with
  | nil=>exact .end hz <| h0 hK _ _ _ _ _ hk
  | cons c r =>
   have hra:=a8 ht
   have hz1:=f8 hz ht
   have hn:=Nat.lt_of_succ_lt_succ hn
   have hfo:fo.length≤100000:=Nat.le_trans (Nat.le_add_right ..) hfl
   have hfi:(av fo).length≤1000000:=bI▸Nat.le_trans hfo (by decide)
   have hfr:fo.length+1+r.length≤100000:=Nat.add_right_comm ..▸hfl
   have mn:m∉[f]:=fun w=>mf (List.mem_singleton.mp w)
   rw [eZ] at hK
   refine .more hz ht <| .at hz ht hl' <| .add hz1 <| .eqC 92 (fun q=>tT <| FA hra hl rfl hm hf hfo fun σ2 n z' hz' k2 hf2=>?_) fun n92=>?_
   · rw [if_pos q,cm] at hK
     have es:=hM (x:=r)
     exact ih _ _ _ _ _ _ _ _ (Nat.lt_of_le_of_lt es.1.length_le hn) (es.1.trans hra) (by rw [List.length_append];exact Nat.le_trans (Nat.add_le_add (Nat.add_le_add_left es.2.2 _) es.1.length_le) hfr) hd hz' hdz (k2 _ _ hm mn) hf2 (hk.trans k2) hK
   rw [if_neg n92] at hK
   have go:∀ (τ:List O) (x:UInt8) (t2:ae) (dep2:Nat) (z dz:Int),t2 <:+ r→1≤dep2→z=pos all t2→dz=dep2→K (pre (fo++[x]) (iD dep2 t2)) →
    P [some (.bytes all),some (.int z),some (.ref m),some (.ref f),some (.int dz),some (.int c.toNat),some (.int 0),none] ((σ++τ).set f (.list (av fo++[.int x.toNat]))):=fun τ x t2 dep2 z dz h2 h3 h4 h5 h6 =>
    ih t2 (fo++[x]) dep2 _ _ _ _ _ (Nat.lt_of_le_of_lt h2.length_le hn) (h2.trans hra) (by rw [List.length_append];exact Nat.le_trans (Nat.add_le_add_left h2.length_le _) hfr) h3 h4 h5 (aN (ac hm) mf.symm) ((bk (ac hf)).trans (by rw [c8];rfl)) (hk.trans (aS.app.put (.head _))) h6
   have nx:¬(c=41∧dep=1)→vcSs (Call (d+1)) (so (at_ (so (at_ (qA (at_ fC 2)) 1)) 0)) [some (.bytes all),some (.int (pos all r)),some (.ref m),some (.ref f),some (.int dz),some (.int c.toNat),some (.int 0),none] σ (kr (vcSs (Call (d+1)) []) (kr (vcSs (Call (d+1)) []) (ja P QF) X) X) X:=fun hn=>by
    refine .eqC 13 (fun q=>?_) fun n13=>.int [40,41] rfl (by decide) (by decide) rfl rfl ?_
    · rw [if_pos q,cm] at hK
      have hp1:pos all r+1≤1000000:=Nat.le_trans (Nat.succ_le_succ (Nat.le_trans fP hl)) (by decide)
      have:=go [] 10 (bj r) dep _ _ (bK r) hd (E5 rfl hra) hdz hK
      rw [List.append_nil] at this
      exact .lApp hf <| .lApp hf hfi rfl <| .add (n:=(pos all r+1:Nat)) rfl <| .bytes (.int rfl (Nat.le_of_succ_le hp1)) (.int rfl hp1) hl' (uk hra 1) <| .eq (.val .bytes) <| .intB rfl <| .add rfl this
    · rw [if_neg n13] at hK
      have fin:=fun n dep2 a3 a1 a2=>go [.idict [(40,.int 1),(41,.int (-1))]] c r dep2 _ (dz+n) (List.suffix_refl _) a2 rfl a1 a3
      by_cases q40:c=40
      · rw [if_pos q40,cm,← q40] at hK
        exact .get aa <| .get aa (q40▸rfl) <| .add rfl <| .lApp (ac hf) <| .lApp (ac hf) hfi rfl <| fin 1 _ hK (hdz▸rfl) (Nat.le_add_left ..)
      rw [if_neg q40] at hK
      by_cases q41:c=41
      · have d1:dep≠1:=fun z=>hn ⟨q41,z⟩
        rw [if_pos q41,if_neg d1,cm,← q41] at hK
        exact .get aa <| .get aa (q41▸rfl) <| .add rfl <| .lApp (ac hf) <| .lApp (ac hf) hfi rfl <| fin (-1) _ hK (hdz▸(Int.ofNat_sub hd).symm) (Nat.le_sub_of_add_le (Nat.lt_of_le_of_ne hd (Ne.symm d1)))
      rw [if_neg q41,cm] at hK
      exact .get aa <| .get aa (Dn q40 q41) <| .add rfl <| .lApp (ac hf) <| .lApp (ac hf) hfi rfl <| fin 0 _ hK (hdz▸Int.add_zero dz) hd
   refine .eqC 41 (fun q=>.eqI (fun q1=>?_) fun q1=>nx fun z=>q1 (by rw [hdz,z.2];rfl)) fun q=>nx fun z=>q z.1
   rw [if_neg (fun w=>by rw [w] at q;cases q),if_neg (fun w=>by rw [w] at q;cases q),if_pos q,if_pos (Int.ofNat.inj (hdz.symm.trans q1))] at hK
   exact .bytesL hf rfl (Nat.le_trans hfo (by decide)) (h1 _ _ ((List.append_nil fo)▸hK) _ _ _ rfl hk)
theorem vx(hs:rest <:+ all)(hl:all.length≤100000)(h0:iD 1 rest=none→∀ σ' n,Ge σ σ'→Q (.tup [.bytes lW,.int n]) σ')
 (h1:∀ o r',iD 1 rest=some (o,r')→∀ σ',Ge σ σ'→Q (.tup [.tup [.str cJ,.bytes o],.int (pos all r')]) σ'):Call (d+2) u9 [.bytes all,.int (pos all rest)] σ Q X:=by
 have kg:∀ {σ'},aS [(σ++[O.idict iu]).length] (σ++[.idict iu]) σ'→Ge σ σ':=fun k i o e=>k i o (ac e) fun w=>absurd (bm e) (by rw [List.mem_singleton.mp w,List.length_append];show ¬ _+1 < _;omega)
 refine .go lv rfl rfl rfl rfl <| .int [110,114,116,98,102] rfl (by decide) (by decide) rfl (show _=iu from rfl) ⟨fun P hP=>?_⟩
 exact xZ (K:=fun x=>iD 1 rest=x) (σ0:=σ++[.idict iu]) hl (by rw [List.length_append];show _≠_+1;omega) hP (fun e _ _ _ _ _ k=>bu (h0 e _ _ (kg k))) (fun o r e _ z _ hz k=>hz▸h1 o r e _ (kg k)) _ rest [] 1 _ _ _ _ _ (Nat.lt_succ_self _) hs (Nat.le_trans (Nat.le_of_eq (Nat.zero_add _)) (Nat.le_trans hs.length_le hl)) (Nat.le_refl 1) rfl rfl (ac aa) aa .app jm.symm
end
noncomputable def qR:List Nat→Option Nat→ae
 | [],hi=>F0 hi
 | x :: l,hi=>match hi with | none=>qR l (some x) | some a=>UInt8.ofNat (16 * a+x) :: qR l none
noncomputable def iQ(x:ae):List Nat:=(x.filter fun c=>!aH c).map fun c=>gj c.toNat
theorem AR(n:Nat):kF n=if gj n≤15 then some (gj n) else none:=by
 unfold gj kF dV
 by_cases h1:48≤n∧n≤57
 · rw [if_pos h1,if_pos h1];exact (if_pos (show n - 48≤15 from Nat.sub_le_iff_le_add.mpr (Nat.le_trans h1.2 (by decide)))).symm
 rw [if_neg h1,if_neg h1]
 by_cases h2:65≤n∧n≤90
 · rw [if_pos h2]
   by_cases h3:n≤70
   · rw [if_pos ⟨h2.1,h3⟩];exact (if_pos (show n - 55≤15 from Nat.sub_le_iff_le_add.mpr h3)).symm
   · rw [if_neg fun z=>h3 z.2,if_neg (by omega)];exact (if_neg (show ¬n - 55≤15 from fun z=>h3 (Nat.sub_le_iff_le_add.mp z))).symm
 rw [if_neg h2,if_neg (c:=65≤n∧n≤70) fun z=>h2 ⟨z.1,Nat.le_trans z.2 (by decide)⟩]
 by_cases h4:97≤n∧n≤122
 · rw [if_pos h4]
   by_cases h3:n≤102
   · rw [if_pos ⟨h4.1,h3⟩];exact (if_pos (show n - 87≤15 from Nat.sub_le_iff_le_add.mpr h3)).symm
   · rw [if_neg fun z=>h3 z.2];exact (if_neg (show ¬n - 87≤15 from fun z=>h3 (Nat.sub_le_iff_le_add.mp z))).symm
 · rw [if_neg h4,if_neg (c:=97≤n∧n≤102) fun z=>h4 ⟨z.1,Nat.le_trans z.2 (by decide)⟩];rfl
theorem ym{c:UInt8}(h:aH c=true):kF c.toNat=none:=by
 have:∀ x∈([0,9,10,12,13,32]:ae),kF x.toNat=none:=by decide
 exact this c (List.contains_iff_mem.mp h)
theorem Dh{x:ae}(h:(62:UInt8)∉x):∀ hi,dm hi x=none:=by
 induction x with
 | nil=>exact fun _=>rfl
 | cons c x ih =>
  have ih:=ih fun z=>h (.tail _ z)
  intro hi
  rw [dm,if_neg fun z:c=62=>h (z ▸ .head _)]
  cases kF c.toNat with
  | none =>
   show (match aH c with | true=>dm hi x | false=>none)=none
   rw [ih]
   cases aH c<;>rfl
  | some m =>
   cases hi with
   | none=>exact ih _
   | some y=>show pre _ (dm none x)=none;rw [ih];rfl
theorem Av{x r:ae}(h:(62:UInt8)∉x):∀ hi,dm hi (x++62 :: r)=if ∀ n∈iQ x,n≤15 then some (qR (iQ x) hi,r) else none:=by
 induction x with
 | nil=>exact fun hi=>(if_pos nofun).symm
 | cons c x ih =>
  have ih:=ih fun z=>h (.tail _ z)
  intro hi
  rw [List.cons_append,dm,if_neg fun z:c=62=>h (z ▸ .head _)]
  have ea:iQ (c :: x)=(match aH c with | true=>iQ x | false=>gj c.toNat :: iQ x):=by
   rw [iQ,List.filter_cons]
   cases aH c<;>rfl
  rw [ea]
  cases q:aH c with
  | true =>
   rw [ym q]
   show (match aH c with | true=>dm hi _ | false=>none)=_
   rw [q]
   exact ih hi
  | false =>
   rw [AR]
   by_cases w:gj c.toNat≤15
   · rw [if_pos w]
     have e:∀ {o:ae},(if ∀ n∈iQ x,n≤15 then some (o,r) else none)=if ∀ n∈gj c.toNat :: iQ x,n≤15 then some (o,r) else none:=by
      intro o
      by_cases z:∀ n∈iQ x,n≤15
      · rw [if_pos z,if_pos (List.forall_mem_cons (p:=(·≤15)) |>.mpr ⟨w,z⟩)]
      · rw [if_neg z,if_neg fun y=>z fun n m=>y n (.tail _ m)]
     cases hi with
     | none=>exact (ih _).trans e
     | some y =>
      refine Eq.trans ?_ e
      show pre _ (dm none _)=_
      rw [ih]
      by_cases z:∀ n∈iQ x,n≤15
      · rw [if_pos z,if_pos z];rfl
      · rw [if_neg z,if_neg z];rfl
   · rw [if_neg w]
     show (match aH c with | true=>dm hi _ | false=>none)=_
     rw [q]
     exact (if_neg fun y=>w (y _ (.head _))).symm
theorem xf:∀ l:List Nat,qR (l++List.replicate (l.length % 2) 0) none=qR l none
 | []=>rfl
 | [a]=>rfl
 | a :: b :: l=>by
  show qR (a :: b :: (l++List.replicate ((l.length+2) % 2) 0)) none=_
  rw [Nat.add_mod_right]
  exact congrArg (_ :: ·) (xf l)
theorem sF{n:Int}:∀ {l:List Int} {a:Int},l.foldl max a≤n↔∀ x∈a :: l,x≤n
 | [],a=>⟨fun h x m=>List.mem_singleton.mp m▸h,fun h=>h a (.head _)⟩
 | b :: l,a=>by
  rw [List.foldl_cons,sF,List.forall_mem_cons,List.forall_mem_cons,List.forall_mem_cons,Int.max_le,and_assoc]
theorem sy{n:Int}:∀ {l:List Int} {a:Int},n≤l.foldl min a↔∀ x∈a :: l,n≤x
 | [],a=>⟨fun h x m=>List.mem_singleton.mp m▸h,fun h=>h a (.head _)⟩
 | b :: l,a=>by
  rw [List.foldl_cons,sy,List.forall_mem_cons,List.forall_mem_cons,List.forall_mem_cons,Int.le_min,and_assoc]
section
variable{call:aw}{d i k:Nat}{c:UInt8}{env:au}{σ:List O}{Q:ag}{QF:aF}{X:ak}{all rest r t:ae}
theorem Bi.mx{l:List Int}{n:Int}(hi:σ[i]? = some (.list (l.map .int)))(hl:l≠[])(h:∀ m,(m≤n↔∀ x∈l,x≤n)→Q (.int m) σ):Bi σ Q .max [.ref i]:=by
 cases l with
 | nil=>exact absurd rfl hl
 | cons a l=>exact .maxL hi rfl rfl (h _ sF)
theorem Bi.mn{l:List Int}{n:Int}(hi:σ[i]? = some (.list (l.map .int)))(hl:l≠[])(h:∀ m,(n≤m↔∀ x∈l,n≤x)→Q (.int m) σ):Bi σ Q .min [.ref i]:=by
 cases l with
 | nil=>exact absurd rfl hl
 | cons a l=>exact .minL hi rfl rfl (h _ sy)
theorem xy{α:Type}{l t:List α}{j:Nat}{a:α}(h:l.drop j=a :: t):l[j]? = some a∧l.drop (j+1)=t:=⟨by rw [← List.head?_drop,h];rfl,by rw [← List.drop_drop,h];rfl⟩
theorem ug{l:List Nat}{k a:Nat}(h:l[k]? = some a):(aV l)[k]? = some (.int (a:Int)):=by rw [aV,List.getElem?_map,h];rfl
theorem C5{L:List Nat}{e0 e1 e2:Option V}{QL:aL}(hi:σ[i]? = some (.list (aV L)))(hl:L.length≤1000000):∀ (k j:Nat) (l:List Nat) (z:Int) (acc:List V),z=j→l.length=2 * k→L.drop j=l→(∀ n∈l,n≤15)→acc.length+l.length≤1000000→QL (acc++av (qR l none)) σ →
 cF (aR false [6]) (vcBt call true []) (bW call (.bin .add (.bin .mul (.cst (.int 16)) (.sub (.var 3) (.var 6))) (.sub (.var 3) (.bin .add (.var 6) (.cst (.int 1)))))) (fun _=>True) [e0,e1,e2,some (.ref i),none,none,none] QL (cT z 2 k) acc σ:=by
 intro k
 induction k with
 | zero =>
  intro j l z acc _ h2 _ _ _ h
  cases List.eq_nil_of_length_eq_zero h2
  exact ⟨trivial,(List.append_nil acc)▸h⟩
 | succ k ih =>
  intro j l z acc hz h2 hd h15 hc h
  cases l with
  | nil=>cases h2
  | cons a l=>cases l with
   | nil=>exact absurd h2 (by show 1≠_;omega)
   | cons b l =>
    have g1:=xy hd
    have g2:=xy g1.2
    have ha:=h15 a (.head _)
    have hb:=h15 b (.tail _ (.head _))
    have vl:(aV L).length≤1000000:=aC▸hl
    refine ⟨trivial,_,rfl,.list hi hz (ug g1.1) vl <| .mul (kB (by decide)) (kB (Nat.lt_of_le_of_lt ha (by decide))) rfl <| .add rfl <| .list (n:=j+1) hi (hz▸rfl) (ug g2.1) vl <| .add (n:=(16 * a+b:Nat)) rfl ⟨Nat.le_trans (Nat.le_add_right ..) hc,ih (j+2) l _ _ (hz▸rfl) (Nat.succ.inj (Nat.succ.inj h2)) g2.2 (fun n m=>h15 n (.tail _ (.tail _ m))) ?_ ?_⟩⟩
    · rw [List.length_append];exact Nat.le_trans (Nat.le_of_eq (Nat.add_assoc ..)) (Nat.le_trans (Nat.add_le_add_left (by show 1+_≤_+2;omega) _) hc)
    · rw [List.append_assoc,Df (Nat.lt_of_le_of_lt (Nat.add_le_add (Nat.mul_le_mul_left 16 ha) hb) (by decide))];exact h
end
section
variable{call:aw}{d i k:Nat}{c:UInt8}{env:au}{σ:List O}{Q:ag}{QF:aF}{X:ak}{all rest r t body:ae}
theorem Ik{QB:aX}{b:Bool}(h:QB b σ):FL true (vcBt call true []) env QB X b σ:=by cases b<;>exact h
theorem zE{c:UInt8}(h:c∉body):(body++c :: r).idxOf c=body.length:=by rw [List.idxOf_append,if_neg h,List.idxOf_cons_self];exact Nat.zero_add _
theorem qF:∀ {l:List Nat} {hi:Option Nat},(qR l hi).length≤l.length+1
 | [],none=>Nat.zero_le _
 | [],some _=>Nat.le_refl _
 | x :: l,hi=>by
  cases hi with
  | none=>show (qR l (some x)).length≤_;exact Nat.le_succ_of_le qF
  | some a=>exact Nat.succ_le_succ qF
theorem ev:∀ n:Nat,n+n % 2=2 * ((n+1) / 2)
 | 0=>rfl
 | 1=>rfl
 | n+2=>by rw [Nat.add_mod_right,show n+2+1=n+1+2 from rfl,Nat.add_div_right _ (by decide),Nat.mul_succ,← ev n,Nat.add_right_comm]
theorem yq(hs:rest <:+ all)(hl:all.length≤100000)(h0:dm none rest=none→∀ σ' n,Ge σ σ'→Q (.tup [.bytes lW,.int n]) σ')
 (h1:∀ o r',dm none rest=some (o,r')→∀ σ',Ge σ σ'→Q (.tup [.tup [.str cJ,.bytes o],.int (pos all r')]) σ'):Call (d+2) yb [.bytes all,.int (pos all rest)] σ Q X:=by
 have hl':all.length≤1000000:=Nat.le_trans hl (by decide)
 have hr:=Nat.le_trans hs.length_le hl
 have hr':=Nat.le_trans hr (by decide:100000≤1000000)
 refine .go mK rfl rfl rfl rfl <| .bytes (.int rfl (Nat.le_trans fP hl')) .nil hl' (kb hs) <| .ninB rfl ?_
 cases e:rest.contains 62 with
 | false=>exact bu <| h0 (Dh (fun z=>by rw [List.contains_iff_mem.mpr z] at e;cases e) _) _ _ .rfl
 | true =>
  have hm:=List.contains_iff_mem.mp e
  obtain ⟨body,r',rfl,nb⟩:=List.eq_append_cons_of_mem hm
  have bl:body.length+(r'.length+1)≤100000:=by rw [List.length_append] at hr;exact hr
  have ix:∀ {K:ag} {σ'},K (.int body.length) σ'→Me σ' K .index (.bytes (body++62 :: r')) [.bytes [62]]:=.index hm hr' (congrArg Int.ofNat (zE nb))
  have bl1:body.length≤100000:=Nat.le_trans (Nat.le_add_right ..) bl
  have bl2:=Nat.le_trans bl1 (by decide:100000≤1000000)
  rw [Av nb] at h0 h1
  refine .index <| ix <| .bytes .nil (.int rfl bl2) hr' List.take_left <| .plainB bl2 <| kh (fun o:UInt8=>.int o.toNat) (fun c=>!aH c) (fun c=>.int (gj c.toNat)) trivial body [] (fun _ _ _ h=>lC <| .ninC (b:=[0,9,10,12,13,32]) rfl <| Ik h) (fun _ _ _ _ h=>fM h) ((Nat.zero_add _).symm▸bl2) ?_
  have dl:(iQ body).length≤100000:=by rw [iQ,List.length_map];exact Nat.le_trans (List.length_filter_le ..) bl1
  rw [show []++(body.filter fun c=>!aH c).map (fun c=>V.int (gj c.toNat))=aV (iQ body) by rw [iQ,aV,List.map_map];rfl]
  generalize iQ body=ds at *
  have vl:(aV ds).length≤100000:=aC▸dl
  have vl':=Nat.le_trans vl (by decide:100000≤1000000)
  have vl1:(aV ds).length+1≤1000000:=Nat.succ_le_succ (Nat.le_trans vl (by decide))
  refine .lcat (ac aa) aa vl1 rfl <| .mx (l:=ds.map Int.ofNat++[0]) (n:=15) (aa.trans (by rw [List.map_append,List.map_map];rfl)) (fun z=>nomatch (List.append_eq_nil_iff.mp z).2) fun m hm15=>?_
  have hm15:m≤15↔∀ n∈ds,n≤15:=hm15.trans ⟨fun h n q=>Int.ofNat_le.mp (h n (List.mem_append_left _ (List.mem_map.mpr ⟨n,q,rfl⟩))),fun h x q=>(List.mem_append.mp q).elim (fun q=>by
   obtain ⟨n,q2,rfl⟩:=List.mem_map.mp q
   exact Int.ofNat_le.mpr (h n q2)) fun q=>List.mem_singleton.mp q▸(by decide)⟩
  refine .gt (fun q=>bu <| h0 (if_neg fun z=>absurd (hm15.mpr z) (Int.not_le.mpr q)) _ _ .a3) fun q=>?_
  have ok:=hm15.mp (Int.not_lt.mp q)
  rw [if_pos ok] at h1
  have g:∀ {τ:List O},(σ++[.list (aV ds)]++τ)[σ.length]? = some (.list (aV ds)):=ac aa
  refine .lenL (ac (ac (ac aa))) vl' <| .mod (n:=(ds.length % 2:Nat)) (by decide) (by rw [aC];rfl) <| .lmul aa (by decide) (Int.ofNat_le.mpr (Nat.le_trans (Nat.le_of_lt (Nat.mod_lt ds.length (by decide:0 < 2))) (by decide:2≤16))) (Int.le_trans (by decide:(-16:Int)≤0) (Int.natCast_nonneg _)) (km (n:=ds.length % 2) (m:=0)) <| .lcat (ac (ac (ac (ac aa)))) aa (by rw [aC,aC,List.length_replicate];omega) p9 ?_
  have d2:(ds++List.replicate (ds.length % 2) 0).length=2 * ((ds.length+1) / 2):=by rw [List.length_append,List.length_replicate];exact ev _
  have e2:=xf ds
  have o2:∀ n∈ds++List.replicate (ds.length % 2) 0,n≤15:=fun n m=>(List.mem_append.mp m).elim (ok n) fun m=>(List.mem_replicate.mp m).2▸by decide
  have hk:(ds.length+1) / 2≤100000:=Nat.le_trans (Nat.div_le_div_right (Nat.succ_le_succ (aC▸vl))) (by decide)
  generalize (ds.length+1) / 2=k at *
  generalize ds++List.replicate (ds.length % 2) 0=L at *
  have hL:L.length≤1000000:=by omega
  refine .lenL aa (aC▸hL) <| .rng2 (k:=k) (by rw [aC];omega) (by omega) (by rw [aC];omega) <| C5 aa hL k 0 L 0 [] rfl d2 rfl o2 (Nat.zero_add _▸hL) ?_
  have pl:=qF (l:=ds) (hi:=none)
  rw [e2]
  refine .bytesL aa rfl (by omega) <| .index <| ix <| .add rfl <| .add (n:=pos all r') ?_ <| h1 _ _ rfl _ fun _ _ e=>ac (ac (ac (ac (Ge.a3 _ _ e))))
  rw [qO (dn:=body++[62]) (t:=r') (by rw [List.append_assoc];exact hs),List.append_assoc,List.length_append];rfl
end
noncomputable def j8(c:UInt8):Int:=(c.toNat:Int) - 33
noncomputable def fD(l:List Int):ae→List (List Int)
 | []=>[l]
 | c :: r=>if c=122∧l=[] then [0,0,0,0,0] :: fD [] r else if l.length=4 then (l++[j8 c]) :: fD [] r else fD (l++[j8 c]) r
noncomputable def b4(l:List Int):Option ae:=if l=[] then some [] else if ∀ x∈l,0≤x∧x≤84 then u1 (l.map Int.toNat) else none
noncomputable def kC(f:ae):List (List Int)→Option ae
 | []=>some f
 | l :: r=>(b4 l).bind fun o=>kC (f++o) r
noncomputable def dG(l:List Nat):List Int:=l.map Int.ofNat
theorem wX:∀ {l:List Nat},(dG l).map Int.toNat=l
 | []=>rfl
 | x :: l=>congrArg (x :: ·) wX
theorem nX:∀ {l:List Int},(∀ x∈l,0≤x∧x≤84)→dG (l.map Int.toNat)=l
 | [],_=>rfl
 | x :: l,h=>by
  show Int.ofNat x.toNat :: dG _=_
  rw [nX fun y m=>h y (.tail _ m)]
  exact congrArg (· :: l) (Int.toNat_of_nonneg (h x (.head _)).1)
theorem oA{l:List Nat}:dG l=[]↔l=[]:=List.map_eq_nil_iff
theorem oJ{l:List Nat}(h0:l≠[])(hx:∀ x∈l,x < 85):b4 (dG l)=u1 l:=by
 rw [b4,if_neg fun z=>h0 (oA.mp z),if_pos,wX]
 intro x m
 obtain ⟨n,k,rfl⟩:=List.mem_map.mp m
 exact ⟨Int.natCast_nonneg n,Int.ofNat_le.mpr (Nat.le_of_lt_succ (hx n k))⟩
theorem kz{l:List Int}{x:Int}(m:x∈l)(h:¬(0≤x∧x≤84)):b4 l=none:=by
 rw [b4,if_neg (fun z=>by rw [z] at m;cases m),if_neg (c:=∀ x∈l,0≤x∧x≤84) (fun z=>h (z x m))]
theorem BZ{x:Int}(h:¬(0≤x∧x≤84)){r:ae}:∀ {l:List Int} {f:ae},x∈l→kC f (fD l r)=none:=by
 induction r with
 | nil=>intro l f m;rw [fD,kC,kz m h];rfl
 | cons c r ih =>
  intro l f m
  have m2:x∈l++[j8 c]:=List.mem_append_left _ m
  rw [fD,if_neg fun z=>by rw [z.2] at m;cases m]
  by_cases q:l.length=4
  · rw [if_pos q,kC,kz m2 h];rfl
  · rw [if_neg q];exact ih m2
theorem Ao{c:UInt8}(h:aH c=true):c≠122∧¬(33≤c.toNat∧c.toNat≤117):=by
 have:∀ x∈([0,9,10,12,13,32]:ae),x≠122∧¬(33≤x.toNat∧x.toNat≤117):=by decide
 exact this c (List.contains_iff_mem.mp h)
theorem AE{r' x:ae}(h:(126:UInt8)∉x):∀ {l:List Nat} {f:ae},l.length≤4→(∀ n∈l,n < 85)→pre f (ki l (x++126 :: 62 :: r'))=(kC f (fD (dG l) (x.filter fun c=>!aH c))).map fun o=>(o,r'):=by
 induction x with
 | nil =>
  intro l f hl hx
  show pre f (ki l (126 :: 62 :: r'))=((b4 (dG l)).bind fun o=>some (f++o)).map _
  rw [ki,if_pos rfl,if_pos (show (62 :: r').head? = some 62 from rfl)]
  by_cases q:l=[]
  · rw [if_pos q,q];rfl
  · rw [if_neg q,oJ q hx]
    cases u1 l<;>rfl
 | cons c x ih =>
  intro l f hl hx
  have ih:=@ih fun z=>h (.tail _ z)
  rw [List.cons_append,ki,if_neg fun z:c=126=>h (z ▸ .head _),List.filter_cons]
  cases qw:aH c with
  | true =>
   have w:=Ao qw
   rw [if_neg (fun z=>w.1 z.1),if_neg w.2]
   exact ih hl hx
  | false =>
   show pre f _=Option.map _ (kC f (fD (dG l) (c :: x.filter fun c=>!aH c)))
   rw [fD]
   by_cases q1:c=122∧l=[]
   · rw [if_pos q1,if_pos ⟨q1.1,oA.mpr q1.2⟩,cm]
     exact ih (l:=[]) (Nat.zero_le _) (fun _ m=>nomatch m)
   rw [if_neg q1,if_neg (c:=c=122∧dG l=[]) fun z=>q1 ⟨z.1,oA.mp z.2⟩,show (dG l).length=l.length from List.length_map ..]
   by_cases q2:33≤c.toNat∧c.toNat≤117
   · have hx':∀ n∈l++[c.toNat - 33],n < 85:=fun n m=>(List.mem_append.mp m).elim (hx n) fun m=>List.mem_singleton.mp m▸Nat.lt_succ_of_le (Nat.sub_le_sub_right q2.2 33)
     rw [if_pos q2,show dG l++[j8 c]=dG (l++[c.toNat - 33]) by rw [dG,dG,List.map_append,j8,i4 q2.1];rfl]
     by_cases q3:l.length=4
     · rw [if_pos q3,if_pos q3,kC,oJ (l:=l++[c.toNat - 33]) (List.append_ne_nil_of_right_ne_nil l nofun) hx']
       cases u1 (l++[c.toNat - 33]) with
       | none=>rfl
       | some o=>show pre f (pre o _)=_;rw [cm];exact ih (l:=[]) (Nat.zero_le _) (fun _ m=>nomatch m)
     · rw [if_neg q3,if_neg q3]
       exact ih (by rw [List.length_append];exact Nat.succ_le_of_lt (Nat.lt_of_le_of_ne hl q3)) hx'
   · rw [if_neg q2]
     have nb:¬(0≤j8 c∧j8 c≤84):=fun z=>q2 ⟨Int.ofNat_le.mp (Int.sub_nonneg.mp z.1),Int.ofNat_le.mp (Int.le_add_of_sub_right_le z.2)⟩
     have m:j8 c∈dG l++[j8 c]:=List.mem_append_right _ (.head _)
     show none=Option.map _ (kC f (if l.length=4 then _ else _))
     by_cases q3:l.length=4
     · rw [if_pos q3,kC,kz m nb];rfl
     · rw [if_neg q3,BZ nb m];rfl
theorem AM{x:ae}(h:(126:UInt8)∉x){r:ae}(hr:∀ l,ki l r=none):∀ l,ki l (x++r)=none:=by
 induction x with
 | nil=>exact hr
 | cons c x ih =>
  have ih:=ih fun z=>h (.tail _ z)
  intro l
  rw [List.cons_append,ki,if_neg fun z:c=126=>h (z ▸ .head _),ih,ih,ih]
  by_cases q1:c=122∧l=[]
  · rw [if_pos q1];rfl
  rw [if_neg q1]
  by_cases q2:33≤c.toNat∧c.toNat≤117
  · rw [if_pos q2]
    by_cases q3:l.length=4
    · rw [if_pos q3]
      cases u1 (l++[c.toNat - 33])<;>rfl
    · exact if_neg q3
  · rw [if_neg q2]
    cases aH c<;>rfl
theorem Ba{r:ae}(h:r.head?≠some 62)(l:List Nat):ki l (126 :: r)=none:=by rw [ki,if_pos rfl,if_neg h]
theorem wu{l:List Int}{o:ae}(h:b4 l=some o):o.length≤4:=by
 unfold b4 at h
 by_cases q:l=[]
 · rw [if_pos q] at h;exact Option.some.inj h▸Nat.zero_le 4
 · rw [if_neg q] at h
   by_cases q:∀ x∈l,0≤x∧x≤84
   · rw [if_pos q] at h;exact (fS h).1
   · rw [if_neg q] at h;cases h
theorem AJ{r:ae}:∀ {l:List Int},(fD l r).length≤r.length+1:=by
 induction r with
 | nil=>exact fun {l}=>Nat.le_refl 1
 | cons c r ih =>
  intro l
  rw [fD]
  by_cases q1:c=122∧l=[]
  · rw [if_pos q1];exact Nat.succ_le_succ ih
  rw [if_neg q1]
  by_cases q2:l.length=4
  · rw [if_pos q2];exact Nat.succ_le_succ ih
  · rw [if_neg q2];exact Nat.le_succ_of_le ih
noncomputable def Ha(l:List Int):Prop:=l.length≤5∧∀ x∈l,x.natAbs≤300
theorem wy{r:ae}:∀ {l:List Int},l.length≤4→(∀ x∈l,x.natAbs≤300)→∀ y∈fD l r,Ha y:=by
 induction r with
 | nil=>exact fun hl hx y m=>List.mem_singleton.mp m▸⟨Nat.le_succ_of_le hl,hx⟩
 | cons c r ih =>
  intro l hl hx y m
  have hx':∀ x∈l++[j8 c],x.natAbs≤300:=fun x m=>(List.mem_append.mp m).elim (hx x) fun m=>by
   rw [List.mem_singleton.mp m,j8]
   exact Nat.le_trans (Int.natAbs_sub_le ..) (Nat.le_trans (Nat.add_le_add_right (Nat.le_of_lt c.toNat_lt) 33) (by decide))
  have hl':(l++[j8 c]).length=l.length+1:=List.length_append
  rw [fD] at m
  by_cases q1:c=122∧l=[]
  · rw [if_pos q1] at m
    exact (List.mem_cons.mp m).elim (fun e=>e▸⟨Nat.le_refl 5,by decide⟩) (ih (l:=[]) (Nat.zero_le _) (fun _ m=>nomatch m) y)
  rw [if_neg q1] at m
  by_cases q2:l.length=4
  · rw [if_pos q2] at m
    exact (List.mem_cons.mp m).elim (fun e=>e▸⟨hl'▸Nat.succ_le_succ hl,hx'⟩) (ih (l:=[]) (Nat.zero_le _) (fun _ m=>nomatch m) y)
  · rw [if_neg q2] at m
    exact ih (hl'▸Nat.succ_le_of_lt (Nat.lt_of_le_of_ne hl q2)) hx' y m
noncomputable def He:List Int→List Int
 | []=>[]
 | x :: l=>x * 85 ^ l.length :: He l
theorem xB:∀ {l:List Nat},(He (dG l)).sum=val 85 l
 | []=>rfl
 | x :: l=>by
  show x * 85 ^ (dG l).length+(He (dG l)).sum=_
  rw [xB,dG,List.length_map,val,Int.natCast_add,Int.natCast_mul,Int.natCast_pow];rfl
noncomputable def x7(n:Nat):Nat→Nat→ae
 | 0,_=>[]
 | m+1,k=>match k with | 0=>[] | k+1=>UInt8.ofNat (n / 256 ^ m) :: x7 n m k
theorem t8{n:Nat}:∀ {m k:Nat},(x7 n m k).length≤m
 | 0,_=>Nat.le_refl 0
 | m+1,0=>Nat.zero_le _
 | m+1,k+1=>Nat.succ_le_succ t8
theorem AT{l:List Int}(h:l.length=1):b4 l=none:=by
 rw [b4,if_neg fun z=>by rw [z] at h;cases h]
 by_cases q:∀ x∈l,0≤x∧x≤84
 · rw [if_pos q,u1,if_pos (by rw [List.length_map,h];decide)]
 · exact if_neg q
theorem x5{n k:Nat}(h:k≤4):(Dy n).take k=x7 n 4 k:=by
 have e:UInt8.ofNat n=UInt8.ofNat (n / 256 ^ 0):=by rw [Nat.pow_zero,Nat.div_one]
 rw [Dy,e]
 rcases k with _ | _ | _ | _ | _ | k
 iterate 5 rfl
 omega
section
variable{call:aw}{d i k a F N:Nat}{c:UInt8}{env:au}{σ:List O}{Q:ag}{QF:aF}{X:ak}{all rest r t fo:ae}{l:List Int}{e0 e2 e3 e4 e5 e6 e7:Option V}{v1:Int}
theorem CD{L:List Int}{QL:aL}(hi:σ[i]? = some (.list (L.map .int))):∀ (l:List Int) (z:Int) (acc:List V),z+l.length=5→(∀ x∈l,x.natAbs≤300)→acc.length+l.length≤5→QL (acc++(He l).map .int) σ →
 cF (aR true [9,10]) (vcBt call true []) (bW call (.bin .mul (.var 10) (.bin .pow (.cst (.int 85)) (.bin .sub (.cst (.int 4)) (.var 9))))) (fun σ'=>σ'[i]? = some (.list (L.map .int))) [e0,some (.int v1),e2,e3,e4,e5,e6,e7,none,none,none,none] QL (enumL z (l.map .int)) acc σ:=by
 intro l
 induction l with
 | nil=>exact fun z acc _ _ _ h=>⟨hi,(List.append_nil acc)▸h⟩
 | cons x l ih =>
  intro z acc hz hx ha h
  have ll:l.length≤4:=Nat.le_of_succ_le_succ (Nat.le_trans (Nat.le_add_left ..) ha)
  have hz:z+(l.length+1:Nat)=5:=hz
  refine ⟨hi,_,rfl,.sub (n:=l.length) (by omega) <| .pow rfl (by decide) (Nat.le_trans ll (by decide)) rfl <| .mul (kB (Nat.lt_of_le_of_lt (hx x (.head _)) (by decide))) (kB ?_) rfl ⟨Nat.le_trans (Nat.le_add_right ..) (Nat.le_trans ha (by decide)),ih _ _ (by omega) (fun y m=>hx y (.tail _ m)) (by rw [List.length_append];exact Nat.add_right_comm ..▸ha) ?_⟩⟩
  · rw [Int.natAbs_pow]
    exact Nat.lt_of_le_of_lt (Nat.pow_le_pow_right (by decide) ll) (by decide)
  · rw [List.append_assoc];exact h
theorem C0{QL:aL}:∀ (m k:Nat) (z:Int) (acc:List V),m≤4→z+m=4→k≤m→acc.length+k≤4→QL (acc++av (x7 N m k)) σ →
 cF (aR false [11]) (vcBt call true []) (bW call (.bin .mod (.bin .fdiv (.var 7) (.bin .pow (.cst (.int 256)) (.bin .sub (.cst (.int 3)) (.var 11)))) (.cst (.int 256)))) (fun _=>True) [e0,some (.int v1),e2,e3,e4,e5,e6,some (.int N),none,none,none,none] QL (cT z 1 k) acc σ:=by
 intro m
 induction m with
 | zero=>intro k z acc _ _ hk _ h;cases Nat.le_zero.mp hk;exact ⟨trivial,(List.append_nil acc)▸h⟩
 | succ m ih =>
  intro k z acc hm hz hk ha h
  cases k with
  | zero=>exact ⟨trivial,(List.append_nil acc)▸h⟩
  | succ k =>
   have hm:m≤3:=Nat.le_of_succ_le_succ hm
   have hp:256 ^ m≤256 ^ 3:=Nat.pow_le_pow_right (by decide) hm
   refine ⟨trivial,_,rfl,.sub (n:=m) (by omega) <| .pow rfl (by decide) (Nat.le_trans hm (by decide)) (Int.natCast_pow 256 m).symm <| .fdiv (Int.ofNat_lt.mpr (Nat.pow_pos (by decide))) (DY (Nat.lt_of_le_of_lt hp (by decide))) rfl <| .mod (by decide) o8 ⟨Nat.le_trans (Nat.le_add_right ..) (Nat.le_trans ha (by decide)),ih k _ _ (Nat.le_succ_of_le hm) (by omega) (Nat.le_of_succ_le_succ hk) (by rw [List.length_append];exact Nat.add_right_comm ..▸ha) ?_⟩⟩
   rw [List.append_assoc];exact h
theorem Cf:∀ n:Nat,max (0:Int) ((n:Int) - 1)=(n - 1:Nat):=fun n=>by
 cases n with
 | zero=>rfl
 | succ n=>exact (congrArg (max (0:Int)) (Int.add_sub_cancel (n:Int) 1)).trans (Int.max_eq_right (Int.natCast_nonneg n))
theorem E4(ha:σ[a]? = some (.list (l.map .int)))(hl:Ha l)(hF:σ[F]? = some (.list (av fo)))(hfl:fo.length≤900000)
 (h0:b4 l=none→∀ σ' env,Ge σ σ'→QF (.ret (.tup [.bytes lW,.int v1])) env σ')
 (h1:∀ o,b4 l=some o→∀ σ' e7,aS [F] σ σ'→σ'[F]? = some (.list (av (fo++o)))→QF .next [e0,some (.int v1),e2,e3,e4,some (.ref F),some (.ref a),e7,none,none,none,none] σ') :
 vcSs (Call (d+1)) (qA (at_ fc 5)) [e0,some (.int v1),e2,e3,e4,some (.ref F),some (.ref a),e7,none,none,none,none] σ QF X:=by
 have ll:(l.map V.int).length≤5:=(List.length_map ..).symm▸hl.1
 have ll':(l.map V.int).length≤1000000:=Nat.le_trans ll (by decide)
 have l5:=hl.1
 have em:max 0 (((l.map V.int).length:Int) - 1)=(l.length - 1:Nat):=(List.length_map (as:=l) V.int).symm▸Cf _
 have s5:l.length+(5 - l.length)=5:=Nat.add_sub_cancel' hl.1
 refine d6 1 fun P0 hP0=>?_
 have fin:∀ {σ1 n},Ge σ σ1→(∀ l',l=dG l'→n=(lX l':Int))→P0 [e0,some (.int v1),e2,e3,e4,some (.ref F),some (.ref a),some (.int n),none,none,none,none] σ1:=fun {σ1 n} g0 hn=>hP0 _ _ <| d6 1 fun P1 hP1=>by
  have ha:=g0 _ _ ha
  have hF:=g0 _ _ hF
  have good:∀ {σ2 l'},Ge σ1 σ2→l=dG l'→b4 l=some (x7 (lX l') 4 (l.length - 1))→P1 [e0,some (.int v1),e2,e3,e4,some (.ref F),some (.ref a),some (.int n),none,none,none,none] σ2:=fun {σ2 l'} g e eo=>by
   have hF:=g _ _ hF
   rw [hn l' e]
   refine hP1 _ _ <| .lExt hF <| .lenL (g _ _ ha) ll' <| .sub rfl <| .max rfl <| .rng (k:=l.length - 1) (congrArg Int.toNat em) (Int.le_trans (Int.le_of_eq em) (Int.ofNat_le.mpr (Nat.le_trans (Nat.sub_le ..) (Nat.le_trans l5 (by decide:5≤1000000))))) (Int.le_trans (by decide:(-1000000:Int)≤0) (Int.le_max_left ..)) <| C0 4 (l.length - 1) 0 [] (Nat.le_refl 4) rfl (Nat.pred_le_pred l5) (Nat.le_trans (Nat.le_of_eq (Nat.zero_add _)) (Nat.pred_le_pred l5)) <| .lExt (ys:=av (x7 (lX l') 4 (l.length - 1))) (ac hF) aa (Nat.ne_of_lt (bm hF)) ?_ c8.symm <| h1 _ eo _ _ ((aS.of (g0.trans g)).trans (aS.app.put (.head _))) (bk (ac hF))
   rw [bI,bI]
   exact Nat.le_trans (Nat.add_le_add hfl (t8 (m:=4))) (by decide)
  refine .lenL ha ll' <| .eqI (fun q=>?_) fun q=>.neNil (ac ha) aa (fun q0=>?_) fun q0=>?_
  · rw [List.length_map] at q
    exact bu <| h0 (AT (Int.ofNat.inj q)) _ _ g0
  · have q0:=List.map_eq_nil_iff.mp q0
    exact good (l':=[]) .a1 q0 (q0▸rfl)
  · have q0:l≠[]:=fun z=>q0 (z▸rfl)
    have no:¬(∀ x∈l,0≤x∧x≤84)→b4 l=none:=fun z=>by rw [b4,if_neg q0,if_neg z]
    refine .mn (n:=0) (ac ha) q0 fun m hm=>.lt (fun q1=>bu <| h0 (no fun z=>absurd (hm.mpr fun x k=>(z x k).1) (Int.not_le.mpr q1)) _ _ (g0.trans .a1)) fun q1=>.mx (n:=84) (ac ha) q0 fun m2 hm2=>.gt (fun q2=>bu <| h0 (no fun z=>absurd (hm2.mpr fun x k=>(z x k).2) (Int.not_le.mpr q2)) _ _ (g0.trans .a1)) fun q2=>?_
    have hr:∀ x∈l,0≤x∧x≤84:=fun x k=>⟨hm.mp (Int.not_lt.mp q1) x k,hm2.mp (Int.not_lt.mp q2) x k⟩
    have e:=(nX hr).symm
    have lo:b4 l=u1 (l.map Int.toNat):=by rw [b4,if_neg q0,if_pos hr]
    have hlen:¬(l.map Int.toNat).length < 2:=fun z=>q (by rw [List.length_map] at *;have:=List.length_pos_iff.mpr q0;omega)
    rw [u1,if_neg hlen] at lo
    rw [hn _ e]
    refine .pow (k:=32) rfl (by decide) (by decide) rfl <| .ge (fun q3=>bu <| h0 (lo.trans (if_pos (Int.ofNat_le.mp q3))) _ _ (g0.trans .a1)) fun q3=>?_
    rw [if_neg fun z=>q3 (Int.ofNat_le.mpr z),List.length_map,x5 (k:=l.length - 1) (Nat.pred_le_pred l5)] at lo
    exact hn _ e▸good .a1 e lo
 refine .lenL (ac ha) ll' <| .sub (n:=(5 - l.length:Nat)) (by rw [List.length_map];exact (Int.ofNat_sub hl.1).symm) <| .lmul aa (by decide) (Int.ofNat_le.mpr (Nat.le_trans (Nat.sub_le ..) (by decide:5≤16))) (Int.le_trans (by decide:(-16:Int)≤0) (Int.natCast_nonneg _)) (km (n:=5 - l.length) (m:=84)) <| .lcat (zs:=(l++List.replicate (5 - l.length) 84).map .int) (ac (ac ha)) aa ?_ (by rw [List.map_append,List.map_replicate,aV,List.map_replicate];rfl) <| .enumL aa ?_ <| CD aa _ 0 [] ?_ ?_ ?_ <| .sum aa rfl rfl <| fin .a4 ?_
 · rw [aC,List.length_replicate,List.length_map,s5];decide
 · rw [List.length_map,List.length_append,List.length_replicate,s5];decide
 · rw [List.length_append,List.length_replicate,s5];rfl
 · exact fun x m=>(List.mem_append.mp m).elim (hl.2 x) fun m=>(List.mem_replicate.mp m).2▸by decide
 · rw [List.length_append,List.length_replicate,s5];exact Nat.le_refl 5
 · rintro l' rfl
   rw [lX,← xB,uB,show (dG l').length=l'.length from List.length_map ..,dG,dG,List.map_append,List.map_replicate];rfl
end
structure io(σ0 σ:List O)(sx:Nat×List Int)(p b:Nat)(dn:List (Nat×List Int))(f7:List Int):Prop where
 lst:σ[p]? = some (.list (dn.map (fun x=>V.ref x.1)++[.ref b]))
 fix:∀ x∈sx :: dn,σ[x.1]? = some (.list (x.2.map .int))∧x.1≠b∧x.1≠p
 cu:σ[b]? = some (.list (f7.map .int))
 pb:p≠b
 new:σ0.length≤p∧σ0.length≤b
 keep:Ge σ0 σ
section
variable{call:aw}{d i k a p b F N:Nat}{c:UInt8}{env:au}{σ σ0 σ2 τ:List O}{Q:ag}{QF:aF}{X:ak}{all rest r t fo:ae}{sx:Nat×List Int}{dn ls:List (Nat×List Int)}{f7 l:List Int}{e0 e2 e3 e4 e5 e6 e7:Option V}{v1:Int}
theorem Ge.put(g:Ge σ0 σ)(h:σ0.length≤k){o:O}:Ge σ0 (σ.set k o):=fun i x e=>by rw [List.getElem?_set_ne fun z:k=i=>absurd (bm e) (Nat.not_lt.mpr (z▸h))];exact g i x e
theorem io.app(h:io σ0 σ sx p b dn f7):io σ0 (σ++τ) sx p b dn f7:=⟨ac h.lst,fun x m=>⟨ac (h.fix x m).1,(h.fix x m).2⟩,ac h.cu,h.pb,h.new,h.keep.trans .a1⟩
theorem io.push(h:io σ0 σ sx p b dn f7)(x:Int):io σ0 (σ.set b (.list (f7.map .int++[.int x]))) sx p b dn (f7++[x]) :=
 ⟨aN h.lst h.pb.symm,fun y m=>⟨aN (h.fix y m).1 (h.fix y m).2.1.symm,(h.fix y m).2⟩,(bk h.cu).trans (by rw [List.map_append];rfl),h.pb,h.new,h.keep.put h.new.2⟩
theorem io.next(h:io σ0 σ sx p b dn f7):io σ0 ((σ++[O.list []]).set p (O.list (dn.map (fun x=>V.ref x.1)++[.ref b]++[.ref σ.length]))) sx p σ.length (dn++[(b,f7)]) []:=by
 have lt:∀ {j:Nat} {o:O},σ[j]? = some o→j≠σ.length:=fun e=>Nat.ne_of_lt (bm e)
 refine ⟨(bk (ac h.lst)).trans (by rw [List.map_append];rfl),fun y m=>?_,aN aa (lt h.lst),lt h.lst,⟨h.new.1,h.keep.len⟩,(h.keep.trans .a1).put h.new.1⟩
 rw [← List.cons_append] at m
 rcases List.mem_append.mp m with m | m
 · have:=h.fix y m
   exact ⟨aN (ac this.1) this.2.2.symm,lt this.1,this.2.2⟩
 · cases List.mem_singleton.mp m
   exact ⟨aN (ac h.cu) h.pb,lt h.cu,h.pb.symm⟩
theorem io.zed{R:List V}{q b' p':Nat}(h:io σ0 σ sx p b dn [])(hR:dn.map (fun x=>V.ref x.1)=R)(hq:q=(σ++[O.list R]).length)(hb:b'=(σ++[O.list R]++[O.list [.int 0,.int 0,.int 0,.int 0,.int 0]]).length)
 (hp:p'=(σ++[O.list R]++[O.list [.int 0,.int 0,.int 0,.int 0,.int 0]]++[O.list []]++[O.list [.ref q,.ref b']]).length) :
 io σ0 (σ++[O.list R]++[O.list [.int 0,.int 0,.int 0,.int 0,.int 0]]++[O.list []]++[O.list [.ref q,.ref b']]++[O.list (R++[.ref q,.ref b'])]) sx p' b' (dn++[(q,[0,0,0,0,0])]) []:=by
 have l0:=h.keep.len
 have g1:∀ {t u v w},(σ++[O.list R]++[t]++[u]++[v]++[w])[q]? = some t:=hq▸ac (ac (ac aa))
 have g2:∀ {t v w},(σ++[O.list R]++[O.list [.int 0,.int 0,.int 0,.int 0,.int 0]]++[t]++[v]++[w])[b']? = some t:=hb▸ac (ac aa)
 have g3:∀ {w},(σ++[O.list R]++[O.list [.int 0,.int 0,.int 0,.int 0,.int 0]]++[O.list []]++[O.list [.ref q,.ref b']]++[w])[p']? = some w:=hp▸aa
 simp only [List.length_append,List.length_singleton] at hq hb hp
 refine ⟨g3.trans (by rw [List.map_append,List.append_assoc,hR];rfl),fun y m=>?_,g2,by omega,by omega,h.keep.trans (.trans .a4 .a1)⟩
 rw [← List.cons_append] at m
 rcases List.mem_append.mp m with m | m
 · have:=(h.fix y m).1
   have lt:=bm this
   exact ⟨ac (Ge.a4 _ _ this),by omega,by omega⟩
 · cases List.mem_singleton.mp m
   exact ⟨g1,by show q≠_;omega,by show q≠_;omega⟩
noncomputable def vb(x:ae):List Int:=x.map fun c=>(c.toNat:Int)
noncomputable def xC(ls:List (Nat×List Int)):List V:=ls.map fun x=>.ref x.1
theorem zk{W:List (List Int)}(hW:W.length≤200000)(h:∀ {σ' p b dn f7 e4},io σ0 σ' sx p b dn f7→dn.map (·.2)++[f7]=W→QF .next [e0,some (.int v1),e2,some (.ref p),e4,none,none,none,none,none,none,none] σ') :
 ∀ (todo:ae) (p b:Nat) (dn:List (Nat×List Int)) (f7:List Int) (e4:Option V) (σ:List O),io σ0 σ sx p b dn f7→f7.length≤4→dn.map (·.2)++fD f7 todo=W →
  lf (aR false [4]) (vcSs (Call d) (qA (at_ fc 3))) (fun σ'=>σ'[sx.1]? = some (.list (sx.2.map .int))) QF X ((vb todo).map .int) [e0,some (.int v1),e2,some (.ref p),e4,none,none,none,none,none,none,none] σ:=by
 intro todo
 induction todo with
 | nil=>exact fun p b dn f7 e4 σ L hc e=>⟨(L.fix _ (.head _)).1,h L e⟩
 | cons c todo ih =>
  intro p b dn f7 e4 σ L hc e
  have dl:(dn.map fun x=>V.ref x.1).length≤200000:=by rw [List.length_map,← List.length_map (f:=(·.2))];exact Nat.le_trans (Nat.le_add_right ..) (List.length_append▸e▸hW)
  have pl:(dn.map (fun x=>V.ref x.1)++[V.ref b]).length≤1000000:=by rw [List.length_append];exact Nat.succ_le_succ (Nat.le_trans dl (by decide))
  have cl:(f7.map V.int).length≤4:=(List.length_map ..).symm▸hc
  rw [fD] at e
  have els:∀ {σ'},io σ0 σ' sx p b dn f7→¬(c=122∧f7=[])→vcSs (Call d) (so (at_ (qA (at_ fc 3)) 0)) [e0,some (.int v1),e2,some (.ref p),some (.int c.toNat),none,none,none,none,none,none,none] σ'
   (kr (vcSs (Call d) []) (ja (lf (aR false [4]) (vcSs (Call d) (qA (at_ fc 3))) (fun σ'=>σ'[sx.1]? = some (.list (sx.2.map .int))) QF X ((vb todo).map .int)) QF) X) X:=fun {σ'} L n=>by
   rw [if_neg n] at e
   have L2:=L.push (j8 c)
   have l2:(f7++[j8 c]).length=f7.length+1:=List.length_append
   refine .last L.lst List.getLast?_concat pl <| .lApp L.cu <| .sub rfl <| .lApp L.cu (Nat.le_trans cl (by decide)) rfl <| .last L2.lst List.getLast?_concat pl <| .lenL L2.cu (by rw [List.length_map,l2];exact Nat.le_trans (Nat.succ_le_succ hc) (by decide)) <| .eqI (fun q=>?_) fun q=>?_
   · rw [List.length_map,l2] at q
     rw [if_pos (Nat.succ.inj (Int.ofNat.inj q))] at e
     exact .lApp L2.lst <| .lApp (ac L2.lst) pl rfl <| ih _ _ _ _ _ _ L2.next (Nat.zero_le _) (by rw [List.map_append,List.append_assoc];exact e)
   · rw [List.length_map,l2] at q
     have q4:f7.length≠4:=fun z=>q (congrArg (fun n:Nat=>((n+1:Nat):Int)) z)
     rw [if_neg q4] at e
     exact ih _ _ _ _ _ _ L2 (l2▸Nat.succ_le_of_lt (Nat.lt_of_le_of_ne hc q4)) e
  refine ⟨(L.fix _ (.head _)).1,_,rfl,.eqC 122 (fun q=>.last L.lst List.getLast?_concat pl <| .eqNil (ac L.cu) aa (fun q0=>?_) fun q0=>Hj <| tF <| els L.app fun z=>q0 (z.2▸rfl)) fun q=>Hj <| tF <| els L fun z=>q z.1⟩
  have q0:=List.map_eq_nil_iff.mp q0
  subst q0
  rw [if_pos ⟨q,rfl⟩] at e
  refine .list (ac L.lst) pl List.dropLast_concat <| .lcat (ac (ac (ac aa))) aa (Nat.le_trans (Nat.add_le_add_right dl 2) (by decide)) rfl <| ih _ _ _ _ _ _ (L.app.zed rfl rfl rfl rfl) (Nat.zero_le _) (by rw [List.map_append,List.append_assoc];exact e)
theorem yU{W:Option ae}{ls:List V}(hp:σ2[p]? = some (.list ls))(h0:W=none→∀ σ' env,Ge σ2 σ'→QF (.ret (.tup [.bytes lW,.int v1])) env σ')
 (h1:∀ o,W=some o→∀ σ' e6 e7,Ge σ2 σ'→σ'[σ2.length]? = some (.list (av o))→o.length≤900000→QF .next [e0,some (.int v1),e2,some (.ref p),e4,some (.ref σ2.length),e6,e7,none,none,none,none] σ') :
 ∀ (rem:List (Nat×List Int)) (fo:ae) (e6 e7:Option V) (σ:List O),(∀ y∈rem,σ2[y.1]? = some (.list (y.2.map .int))∧Ha y.2)→fo.length+4 * rem.length≤900000→Ge σ2 σ→σ[σ2.length]? = some (.list (av fo))→kC fo (rem.map (·.2))=W →
  lf (aR false [6]) (vcSs (Call (d+1)) (qA (at_ fc 5))) (fun σ'=>σ'[p]? = some (.list ls)) QF X (xC rem) [e0,some (.int v1),e2,some (.ref p),e4,some (.ref σ2.length),e6,e7,none,none,none,none] σ:=by
 intro rem
 induction rem with
 | nil=>exact fun fo e6 e7 σ _ hl g hF e=>⟨g _ _ hp,h1 _ e.symm _ _ _ g hF (Nat.le_trans (Nat.le_add_right ..) hl)⟩
 | cons y rem ih =>
  intro fo e6 e7 σ hy hl g hF e
  have y1:=hy y (.head _)
  rw [List.map_cons,kC] at e
  refine ⟨g _ _ hp,_,rfl,E4 (g _ _ y1.1) y1.2 hF (Nat.le_trans (Nat.le_add_right ..) hl) (fun z σ' env g'=>h0 (by rw [← e,z];exact rfl) _ _ (g.trans g')) fun o eo σ' e7 k hF'=>?_⟩
  rw [eo] at e
  have:=wu eo
  rw [List.length_cons] at hl
  exact ih _ _ _ _ (fun y m=>hy y (.tail _ m)) (by rw [List.length_append];omega) (fun i x ex=>k _ _ (g _ _ ex) fun m=>Nat.ne_of_lt (bm ex) (List.mem_singleton.mp m)) hF' e
end
section
variable{d:Nat}{c:UInt8}{σ:List O}{Q:ag}{QF:aF}{X:ak}{all rest r t:ae}
theorem B1{x:ae}:(vb x).map V.int=av x:=List.map_map
theorem zb(hs:rest <:+ all)(hl:all.length≤100000)(h0:ki [] rest=none→∀ σ' n,Ge σ σ'→Q (.tup [.bytes lW,.int n]) σ')
 (h1:∀ o r',ki [] rest=some (o,r')→∀ σ',Ge σ σ'→Q (.tup [.tup [.str cJ,.bytes o],.int (pos all r')]) σ'):Call (d+2) Bl [.bytes all,.int (pos all rest)] σ Q X:=by
 have hl':all.length≤1000000:=Nat.le_trans hl (by decide)
 have hr:=Nat.le_trans hs.length_le hl
 have hr':=Nat.le_trans hr (by decide:100000≤1000000)
 refine .go qB rfl rfl rfl rfl <| .bytes (.int rfl (Nat.le_trans fP hl')) .nil hl' (kb hs) <| .ninB rfl ?_
 cases e:rest.contains 126 with
 | false=>exact bu <| h0 ((List.append_nil rest)▸AM (fun z=>by rw [List.contains_iff_mem.mpr z] at e;cases e) (fun _=>rfl) _) _ _ .rfl
 | true =>
  obtain ⟨body,rr,rfl,nb⟩:=List.eq_append_cons_of_mem (List.contains_iff_mem.mp e)
  have bl:body.length+(rr.length+1)≤100000:=by rw [List.length_append] at hr;exact hr
  have ix:∀ {K:ag} {σ'},K (.int body.length) σ'→Me σ' K .index (.bytes (body++126 :: rr)) [.bytes [126]]:=.index (List.contains_iff_mem.mp e) hr' (congrArg Int.ofNat (zE nb))
  have bl1:body.length≤100000:=Nat.le_trans (Nat.le_add_right ..) bl
  have bl2:=Nat.le_trans bl1 (by decide:100000≤1000000)
  refine .index <| ix <| .bytes (z:=126 :: rr) (.int rfl bl2) .nil hr' List.drop_left <| .bytes .nil (.int (n:=2) rfl (by decide)) (Nat.le_trans (Nat.le_add_left ..) (Nat.le_trans bl (by decide))) rfl <| .neB (fun q=>?_) fun q=>bu <| h0 (AM nb (Ba fun z=>q ?_) _) _ _ .rfl
  · have q:(126:UInt8) :: rr.take 1=[126,62]:=q
    cases rr with
    | nil=>cases q
    | cons x r' =>
     cases q
     have eb:=AE (r':=r') nb (l:=[]) (f:=[]) (Nat.zero_le _) (fun _ m=>nomatch m)
     rw [jm] at eb
     have fl:(body.filter fun c=>!aH c).length≤100000:=Nat.le_trans (List.length_filter_le ..) bl1
     refine .index <| ix <| .bytes .nil (.int rfl bl2) hr' List.take_left <| .plainB bl2 <| kh (fun o:UInt8=>.int o.toNat) (fun c=>!aH c) (fun c=>.int c.toNat) trivial body [] (fun _ _ _ h=>lC <| .ninC (b:=[0,9,10,12,13,32]) rfl <| Ik h) (fun _ _ _ _ h=>h) ((Nat.zero_add _).symm▸bl2) ?_
     rw [show []++(body.filter fun c=>!aH c).map (fun c:UInt8=>V.int c.toNat)=(vb (body.filter fun c=>!aH c)).map V.int from B1.symm]
     generalize body.filter (fun c=>!aH c)=signs at *
     have wl:=AJ (r:=signs) (l:=[])
     have ws:=wy (r:=signs) (l:=[]) (Nat.zero_le _) (fun _ m=>nomatch m)
     have eb:ki [] (body++126 :: 62 :: r')=(kC [] (fD [] signs)).map fun o=>(o,r'):=eb
     have L0:io σ (σ++[.list []]++[.list [.ref σ.length]]++[.list ((vb signs).map .int)]) ((σ++[O.list []]++[O.list [.ref σ.length]]).length,vb signs) (σ++[O.list []]).length σ.length [] [] :=
      ⟨ac aa,fun y m=>by
       cases List.mem_singleton.mp m
       refine ⟨aa,?_,?_⟩
       · simp only [List.length_append,List.length_singleton];omega
       · simp only [List.length_append,List.length_singleton];omega,ac (ac aa),by rw [List.length_append];exact Nat.succ_ne_self _,⟨by rw [List.length_append];exact Nat.le_add_right ..,Nat.le_refl _⟩,.a3⟩
     refine .plainL aa (by rw [List.length_map,vb,List.length_map];exact Nat.le_trans fl (by decide)) ?_
     refine zk (W:=fD [] signs) (Nat.le_trans wl (Nat.succ_le_succ (Nat.le_trans fl (by decide)))) (fun {σ2 p b dn f7 e4} L e=>?_) signs _ _ [] [] _ _ L0 (Nat.zero_le _) rfl
     have e:(dn++[(b,f7)]).map (·.2)=fD [] signs:=by rw [List.map_append];exact e
     have lst:σ2[p]? = some (.list (xC (dn++[(b,f7)]))):=L.lst.trans (by rw [xC,List.map_append];rfl)
     have sm:∀ y∈dn++[(b,f7)],σ2[y.1]? = some (.list (y.2.map .int))∧Ha y.2:=fun y m=>⟨(List.mem_append.mp m).elim (fun m=>(L.fix y (.tail _ m)).1) fun m=>List.mem_singleton.mp m▸L.cu,ws _ (e▸List.mem_map.mpr ⟨y,m,rfl⟩)⟩
     have ll:(dn++[(b,f7)]).length≤100001:=by rw [← List.length_map (f:=(·.2)),e];exact Nat.le_trans wl (Nat.succ_le_succ fl)
     have k:=L.keep
     clear L L0
     generalize dn++[(b,f7)]=ls at *
     refine .plainL (ac lst) (by rw [xC,List.length_map];exact Nat.le_trans ll (by decide)) <| yU (W:=kC [] (fD [] signs)) lst (fun z _ _ g=>h0 (by rw [eb,z];rfl) _ _ (k.trans g)) (fun o z _ _ _ g hF ol=>.bytesL hF rfl (Nat.le_trans ol (by decide)) <| .index <| ix <| .add rfl <| .add (n:=pos all r') ?_ <| h1 _ _ (by rw [eb,z];rfl) _ (k.trans g)) ls [] _ _ _ sm (by show 0+_≤_;omega) .a1 aa (by rw [e])
     rw [qO (dn:=body++[126,62]) (t:=r') (by rw [List.append_assoc];exact hs),List.append_assoc,List.length_append];rfl
  · cases rr with
    | nil=>cases z
    | cons x r'=>cases z;rfl
end
mutual
noncomputable def dH:Tok→V
 | .int n=>.tup [.str bF,.int n]
 | .real n=>.tup [.str dB,.int n]
 | .name w=>.tup [.str fK,.bytes w]
 | .run w=>.tup [.str DT,.bytes w]
 | .str w=>.tup [.str cJ,.bytes w]
 | .proc p ts=>.tup [.str (match p with | true=>da | false=>eC),.tup (tokVs ts)]
noncomputable def tokVs:List Tok→List V
 | []=>[]
 | t :: ts=>dH t :: tokVs ts
end
noncomputable def xm(Q:ag)(all:ae)(σ:List O):gU→Prop
 | .err e=>∀ n,Q (.tup [.bytes e,.int n]) σ
 | .ok t r=>Q (.tup [dH t,.int (pos all r)]) σ
section
variable{d:Nat}{a c:UInt8}{σ:List O}{Q:ag}{QB:aX}{X:ak}{all rest r t:ae}
theorem Cm.inL{x:ae}{vs:List V}(bs:List ae)(h1:x∈bs→QB true σ)(h2:x∉bs→QB false σ)(hv:vs=bs.map .bytes:=by rfl):Cm σ QB .isin (.bytes x) (.tup vs):=by
 refine .inT hv rfl ?_
 cases e:bs.any fun b=>decide (b=x) with
 | true =>
  obtain ⟨y,m,q⟩:=List.any_eq_true.mp e
  exact h1 (of_decide_eq_true q▸m)
 | false=>exact h2 fun m=>List.any_eq_false.mp e x m (decide_eq_true rfl)
theorem ue:r.take 1=[a]↔r.head? = some a:=by
 cases r with
 | nil=>exact ⟨nofun,nofun⟩
 | cons b r=>exact ⟨fun h=>by cases h;rfl,fun h=>by cases h;rfl⟩
theorem rZ{x b:UInt8}(h:c :: r.take 1=[x,b]):c=x∧r.head? = some b:=⟨(List.cons.inj h).1,ue.mp (List.cons.inj h).2⟩
theorem Eg{x:Option (ae×ae)}(h:∀ σ',Ge σ σ'→xm Q all σ' (strR x))(e:x=none)(σ':List O)(n:Int)(g:Ge σ σ'):Q (.tup [.bytes lW,.int n]) σ':=by have h:=h _ g;rw [e] at h;exact h n
theorem EO{x:Option (ae×ae)}(h:∀ σ',Ge σ σ'→xm Q all σ' (strR x))(o r:ae)(e:x=some (o,r))(σ':List O)(g:Ge σ σ'):Q (.tup [.tup [.str cJ,.bytes o],.int (pos all r)]) σ':=by have h:=h _ g;rw [e] at h;exact h
theorem tU(hs:c :: r <:+ all)(hl:all.length≤100000)(hw:bo c=true→(ax (c :: r)).length≤500)(h:∀ σ',Ge σ σ'→xm Q all σ' (bQ c r)):Call (d+5) uS [.bytes all,.int (pos all (c :: r))] σ Q X:=by
 have hl':all.length≤1000000:=Nat.le_trans hl (by decide)
 have hra:=a8 hs
 have hp:pos all (c :: r)+2≤1000000:=Nat.le_trans (Nat.add_le_add_right (Nat.le_trans fP hl) 2) (by decide)
 have e1:(pos all (c :: r):Int)+1=pos all r:=f8 rfl hs
 have e2:∀ {b r'},r=b :: r'→(pos all (c :: r):Int)+2=pos all r':=fun e=>by subst e;rw [cZ hra,cZ hs];rfl
 have wl:∀ {x:ae},x <:+ all→(ax x).length≤1000000:=fun m=>Nat.le_trans (bY _) (Nat.le_trans m.length_le hl')
 have p0:=Nat.le_of_succ_le (Nat.le_of_succ_le hp)
 unfold bQ at h
 refine .go i7 rfl rfl rfl rfl <| .add (n:=(pos all (c :: r)+1:Nat)) rfl <| .bytes (z:=[c]) (.int rfl p0) (.int rfl (Nat.le_of_succ_le hp)) hl' (uk hs 1) <| .add (n:=(pos all (c :: r)+2:Nat)) rfl <| .bytes (z:=c :: r.take 1) (.int rfl p0) (.int rfl hp) hl' (uk hs 2) <| .eqB (fun q=>?_) fun q47=>.eqB (fun q=>?_) fun q40=>.inL [[60,60],[62,62]] (fun q=>?_) fun q2=>.eqB (fun q=>?_) fun q60=>.inL [[91],[93]] (fun q=>?_) fun q9=>.inL [[41],[62]] (fun q=>?_) fun q4=>?_
 · have q:=(List.cons.inj q).1
   rw [if_pos q,iM] at h
   refine .eqB (fun q2=>?_) fun q2=>?_
   · have hd:=(rZ q2).2
     rw [if_pos hd] at h
     cases r with
     | nil=>cases hd
     | cons b r' =>
      have h:xm Q all σ (qx r'):=h _ .rfl
      rw [qx] at h
      refine .add (e2 rfl) <| iK (a8 hra) hl <| .lenB (wl (a8 hra)) <| .gt (fun q3=>?_) fun q3=>.neB (fun _=>.eqB (fun q5=>?_) fun q5=>?_) fun z=>absurd q2 z
      · rw [if_pos (Int.ofNat_lt.mp q3)] at h;exact h _
      · rw [if_neg (fun z=>q3 (Int.ofNat_lt.mpr z)),if_pos q5] at h;exact h
      · rw [if_neg (fun z=>q3 (Int.ofNat_lt.mpr z)),if_neg q5] at h;exact h _
   · rw [if_neg (fun z=>q2 (by rw [ue.mpr z,q])),qe] at h
     have h:=h _ .rfl
     refine .add e1 <| iK hra hl <| .lenB (wl hra) <| .gt (fun q3=>?_) fun q3=>.neB (fun z=>absurd z q2) fun _=>?_
     · rw [if_pos (Int.ofNat_lt.mp q3)] at h;exact h _
     · rw [if_neg (fun z=>q3 (Int.ofNat_lt.mpr z))] at h;exact h
 all_goals rw [if_neg fun z:c=47=>q47 (z▸rfl)] at h
 · rw [if_pos (List.cons.inj q).1] at h
   exact .add e1 <| vx hra hl (Eg h) (EO h)
 all_goals rw [if_neg fun z:c=40=>q40 (z▸rfl)] at h
 · have h:=h _ .rfl
   rcases List.mem_cons.mp q with q | q
   · obtain ⟨a1,a2⟩:=rZ q
     rw [if_pos a1,iV,if_pos a2] at h
     cases r with
     | nil=>cases a2
     | cons b r'=>exact .add (e2 rfl) (q▸h)
   · have q:=List.mem_singleton.mp q
     obtain ⟨a1,a2⟩:=rZ q
     rw [if_neg (by rw [a1];decide),if_pos a1,iN,if_pos a2] at h
     cases r with
     | nil=>cases a2
     | cons b r'=>exact .add (e2 rfl) (q▸h)
 · have q:=(List.cons.inj q).1
   rw [if_pos q,iV,if_neg fun z=>q2 (by rw [ue.mpr z,q];exact .head _)] at h
   refine .eqB (fun q3=>?_) fun q3=>?_
   · have hd:=(rZ q3).2
     rw [if_pos hd] at h
     cases r with
     | nil=>cases hd
     | cons b r'=>exact .add (e2 rfl) <| zb (a8 hra) hl (Eg h) (EO h)
   · rw [if_neg fun z=>q3 (by rw [ue.mpr z,q])] at h
     exact .add e1 <| yq hra hl (Eg h) (EO h)
 all_goals rw [if_neg fun z:c=60=>q60 (z▸rfl)] at h
 · have q:c=91∨c=93:=(List.mem_cons.mp q).imp (fun q=>(List.cons.inj q).1) fun q=>(List.cons.inj (List.mem_singleton.mp q)).1
   rw [if_neg (by rcases q with q | q<;>rw [q]<;>decide),if_pos q] at h
   exact .add e1 (h _ .rfl)
 all_goals rw [if_neg (c:=c=91∨c=93) fun z=>q9 (by rcases z with z | z<;>rw [z];exact .head _;exact .tail _ (.head _))] at h
 · have h:=h _ .rfl
   refine bu ?_
   rcases List.mem_cons.mp q with q | q
   · have q:=(List.cons.inj q).1
     rw [if_neg (by rw [q];decide),if_pos q] at h;exact h _
   · have q:=(List.cons.inj (List.mem_singleton.mp q)).1
     rw [if_pos q,iN,if_neg fun z=>q2 (by rw [ue.mpr z,q];exact .tail _ (.head _))] at h;exact h _
 rw [if_neg fun z=>q4 (by rw [z];exact .tail _ (.head _)),if_neg fun z=>q4 (by rw [z];exact .head _),lr] at h
 have hw:(ax (c :: r)).length≤500:=by
  cases e:bo c with
  | true=>exact hw e
  | false=>rw [ax,e];exact Nat.zero_le _
 rw [if_neg (Nat.not_lt.mpr hw)] at h
 refine iK hs hl <| qZ hw fun σ' g=>?_
 have h:=h _ g
 cases en:bq (ax (c :: r)) with
 | no =>
  rw [en,nh] at h
  refine .isN (r:=true) rfl <| .lenB (wl hs) <| .gt (fun q=>?_) fun q=>?_
  · rw [if_pos (Int.ofNat_lt.mp q)] at h;exact h _
  · rw [if_neg fun z=>q (Int.ofNat_lt.mpr z)] at h;exact h
 | lim=>rw [en] at h;exact .isN (r:=false) rfl (h _)
 | int n=>rw [en] at h;exact .isN (r:=false) rfl h
 | real n=>rw [en] at h;exact .isN (r:=false) rfl h
end
noncomputable def jx:Tok→Nat
 | .int _=>0
 | .real _=>0
 | .name w=>w.length
 | .run w=>w.length
 | .str w=>w.length
 | .proc _ _=>0
def B6(n:Nat)(t:Tok)(x r:ae):Prop:=jx t+n * r.length≤n * x.length∧r <:+ x
section
variable{c:UInt8}{x y r r':ae}{t:Tok}{k:Nat}
theorem oa:∀ x:ae,(ax x).length+(aD x).length≤x.length
 | []=>Nat.le_refl _
 | c :: r=>by
  rw [ax,aD]
  cases bo c with
  | true=>exact Nat.succ_add ..▸Nat.succ_le_succ (oa r)
  | false =>
   refine (Nat.zero_add _).symm▸?_
   cases b6 c with
   | true=>exact Nat.le_refl _
   | false =>
    show (if c=13 then bj r else r).length≤_
    by_cases q:c=13
    · rw [if_pos q];exact Nat.le_succ_of_le (bK r).length_le
    · rw [if_neg q];exact Nat.le_succ _
theorem qn(h:bo c=true):uV c∧c≠123∧c≠125∧bQ c r=lr (c :: r):=by
 have hd:∀ x∈([40,41,60,62,91,93,123,125,47,37]:ae),c≠x:=fun x m z=>by
  unfold bo b6 at h
  rw [z,List.contains_iff_mem.mpr m,Bool.not_true,Bool.and_false] at h;cases h
 have hb:bE c=false:=Bool.eq_false_iff.mpr fun z=>by unfold bo at h;rw [z] at h;cases h
 refine ⟨⟨hb,hd 37 (by decide)⟩,hd 123 (by decide),hd 125 (by decide),?_⟩
 rw [bQ,if_neg (hd 47 (by decide)),if_neg (hd 40 (by decide)),if_neg (hd 60 (by decide)),if_neg (hd 62 (by decide)),if_neg fun z=>z.elim (hd 91 (by decide)) (hd 93 (by decide)),if_neg (hd 41 (by decide))]
theorem B6.of_len(h:jx t+r.length≤x.length)(hs:r <:+ x):B6 4 t x r:=⟨by omega,hs⟩
theorem B6.word(ht:jx t≤(ax x).length):B6 4 t x (aD x):=.of_len (Nat.le_trans (Nat.add_le_add_right ht _) (oa x)) (cB x)
theorem B6.str{z:Option (ae×ae)}(h:strR z = .ok t r)(hk:k≤4)(hz:∀ {o r},z=some (o,r)→Rd k x o r):B6 4 t x r:=by
 cases z with
 | none=>cases h
 | some z =>
  cases h
  have:=hz rfl
  refine ⟨?_,this.2⟩
  have l:=this.2.length_le
  have h:=this.1
  obtain ⟨m,e⟩:=Nat.exists_eq_add_of_le hk
  have:=Nat.mul_le_mul_left m l
  show z.1.length+_≤_
  rw [e,Nat.add_mul,Nat.add_mul];omega
theorem i6(hc:uV c)(h1:c≠123)(h2:c≠125)(h:bQ c r = .ok t r'):jx t+4 * r'.length≤4 * r.length+4∧r' <:+ r:=by
 have up:B6 4 t r r'→jx t+4 * r'.length≤4 * r.length+4∧r' <:+ r:=fun h=>⟨Nat.le_trans h.1 (Nat.le_add_right ..),h.2⟩
 have tl:r.tail <:+ r:=List.tail_suffix _
 have run:∀ {w y:ae},w.length≤4→y <:+ r→jx (.run w)+4 * y.length≤4 * r.length+4∧y <:+ r:=fun hw hy=>⟨Nat.add_comm ..▸Nat.add_le_add (Nat.mul_le_mul_left 4 hy.length_le) hw,hy⟩
 unfold bQ at h
 by_cases q1:c=47
 · rw [if_pos q1,iM] at h
   by_cases q:r.head? = some 47
   · rw [if_pos q,qx] at h
     by_cases q:127 < (ax r.tail).length
     · rw [if_pos q] at h;cases h
     rw [if_neg q] at h
     by_cases q:ax r.tail=[97]
     · rw [if_pos q] at h;cases h
       have w:=B6.word (x:=r.tail) (t:=.int 5) (Nat.zero_le _)
       exact up ⟨Nat.le_trans w.1 (Nat.mul_le_mul_left 4 tl.length_le),w.2.trans tl⟩
     · rw [if_neg q] at h;cases h
   · rw [if_neg q,qe] at h
     by_cases q:127 < (ax r).length
     · rw [if_pos q] at h;cases h
     · rw [if_neg q] at h;cases h
       exact up (.word (Nat.le_refl _))
 rw [if_neg q1] at h
 by_cases q2:c=40
 · rw [if_pos q2] at h;exact up (.str h (by decide) n9)
 rw [if_neg q2] at h
 by_cases q3:c=60
 · rw [if_pos q3,iV] at h
   by_cases q:r.head? = some 60
   · rw [if_pos q] at h;cases h;exact run (by decide) tl
   rw [if_neg q] at h
   by_cases q:r.head? = some 126
   · rw [if_pos q] at h
     have w:B6 4 t r.tail r':=.str h (by decide) hZ
     exact up ⟨Nat.le_trans w.1 (Nat.mul_le_mul_left 4 tl.length_le),w.2.trans tl⟩
   · rw [if_neg q] at h;exact up (.str h (by decide) gE)
 rw [if_neg q3] at h
 by_cases q4:c=62
 · rw [if_pos q4,iN] at h
   by_cases q:r.head? = some 62
   · rw [if_pos q] at h;cases h;exact run (by decide) tl
   · rw [if_neg q] at h;cases h
 rw [if_neg q4] at h
 by_cases q5:c=91∨c=93
 · rw [if_pos q5] at h;cases h;exact run (w:=[c]) (Nat.le_add_left 1 3) (List.suffix_refl _)
 rw [if_neg q5] at h
 by_cases q6:c=41
 · rw [if_pos q6] at h;cases h
 rw [if_neg q6,lr] at h
 by_cases q:500 < (ax (c :: r)).length
 · rw [if_pos q] at h;cases h
 rw [if_neg q] at h
 have rg:=qI hc h1 h2 q1 q2 q3 q4 (fun z=>q5 (.inl z)) (fun z=>q5 (.inr z)) q6
 have ew:aD (c :: r)=aD r:=by rw [aD,rg]
 have wl:=oa (c :: r)
 rw [ew] at h wl
 have fin:∀ {t:Tok},jx t≤(ax (c :: r)).length→jx t+4 * (aD r).length≤4 * r.length+4∧aD r <:+ r:=fun ht=>⟨by rw [List.length_cons] at wl;omega,cB r⟩
 cases e:bq (ax (c :: r)) with
 | no =>
  rw [e,nh] at h
  by_cases q:127 < (ax (c :: r)).length
  · rw [if_pos q] at h;cases h
  · rw [if_neg q] at h;cases h;exact fin (Nat.le_refl _)
 | lim=>rw [e] at h;cases h
 | int n=>rw [e] at h;cases h;exact fin (t:=.int n) (Nat.zero_le _)
 | real n=>rw [e] at h;cases h;exact fin (t:=.real n) (Nat.zero_le _)
end
section
abbrev gZ:=List (Tok×ae)×Option ae
noncomputable def mY(x:Tok×ae)(y:gZ):gZ:=(x :: y.1,y.2)
noncomputable def oW(rec:List (List Tok)→ae→gZ)(os:List (List Tok))(t:Tok)(r:ae):gZ:=match os with
 | []=>mY (t,r) (rec [] (an false r))
 | o :: os=>rec ((o++[t]) :: os) (an false r)
noncomputable def FK(rec:List (List Tok)→ae→gZ)(os:List (List Tok)):gU→gZ
 | .err e=>([],some e)
 | .ok t r=>oW rec os t r
noncomputable def Eo(pk:Bool)(rec:List (List Tok)→ae→gZ)(r:ae):List (List Tok)→gZ
 | []=>([],some lW)
 | o :: os=>oW rec os (.proc pk o) r
noncomputable def HS:List (List Tok)→gZ
 | []=>([],none)
 | _ :: _=>([],some lW)
noncomputable def aY(pk:Bool):Nat→List (List Tok)→ae→gZ
 | 0,_,_=>([],none)
 | n+1,os,x=>match x with
  | []=>HS os
  | c :: r=>if c=123 then aY pk n ([] :: os) (an false r) else if c=125 then Eo pk (aY pk n) r os else FK (aY pk n) os (bQ c r)
variable{pk:Bool}{os:List (List Tok)}{x r:ae}{t:Tok}{f g:List (List Tok)→ae→gZ}
theorem mD(h:∀ os,f os (an false r)=g os (an false r)):oW f os t r=oW g os t r:=by
 cases os with
 | nil=>exact congrArg (mY _) (h _)
 | cons o os=>exact h _
theorem gG:∀ {n m:Nat} {os:List (List Tok)} {x:ae},(∀ c r,x=c :: r→uV c)→x.length < n→x.length < m→aY pk n os x=aY pk m os x
 | 0,_,_,_,_,h,_=>absurd h (Nat.not_lt_zero _)
 | _,0,_,_,_,_,h=>absurd h (Nat.not_lt_zero _)
 | n+1,m+1,_,[],_,_,_=>rfl
 | n+1,m+1,os,c :: r,hf,h1,h2=>by
  have ih:∀ {y:ae},y <:+ r→∀ os,aY pk n os (an false y)=aY pk m os (an false y):=fun hy os =>
   have l:=Nat.le_trans (az false _).length_le hy.length_le
   gG (fun _ _=>aI _ _) (Nat.lt_of_le_of_lt l (Nat.lt_of_succ_lt_succ h1)) (Nat.lt_of_le_of_lt l (Nat.lt_of_succ_lt_succ h2))
  rw [aY,aY]
  show (if c=123 then _ else if c=125 then _ else _)=if c=123 then _ else if c=125 then _ else _
  by_cases q:c=123
  · rw [if_pos q,if_pos q];exact ih (List.suffix_refl _) _
  rw [if_neg q,if_neg q]
  by_cases q':c=125
  · rw [if_pos q',if_pos q']
    cases os with
    | nil=>rfl
    | cons o os=>exact mD (ih (List.suffix_refl _))
  rw [if_neg q',if_neg q']
  cases e:bQ c r with
  | err e=>rfl
  | ok t r'=>exact mD (ih (i6 (hf c r rfl) q q' e).2)
noncomputable def AK(pk:Bool):BG→gZ
 | .done=>([],none)
 | .err e=>([],some e)
 | .one t r=>mY (t,r) (aY pk (r.length+1) [] (an false r))
theorem iS:∀ {n:Nat} {os:List (List Tok)} {x:ae},(∀ c r,x=c :: r→uV c)→x.length < n→aY pk n os x=AK pk (r8 pk n os x)
 | 0,_,_,_,h=>absurd h (Nat.not_lt_zero _)
 | n+1,os,[],_,_=>by cases os<;>rfl
 | n+1,os,c :: r,hf,h=>by
  have ih:∀ {y:ae} {t:Tok},y <:+ r→∀ os,oW (aY pk n) os t y=AK pk (CA (r8 pk n) os t y):=fun {y t} hy os=>by
   have l:=Nat.lt_of_le_of_lt (Nat.le_trans (az false y).length_le hy.length_le) (Nat.lt_of_succ_lt_succ h)
   cases os with
   | nil=>exact congrArg (mY _) (gG (fun _ _=>aI _ _) l (Nat.lt_succ_of_le (az false y).length_le))
   | cons o os=>exact iS (fun _ _=>aI _ _) l
  rw [aY,r8]
  show (if c=123 then _ else if c=125 then _ else _)=AK pk (if c=123 then _ else if c=125 then _ else _)
  by_cases q:c=123
  · rw [if_pos q,if_pos q];exact iS (fun _ _=>aI _ _) (Nat.lt_of_le_of_lt (az false r).length_le (Nat.lt_of_succ_lt_succ h))
  rw [if_neg q,if_neg q]
  by_cases q':c=125
  · rw [if_pos q',if_pos q']
    cases os with
    | nil=>rfl
    | cons o os=>exact ih (List.suffix_refl _) _
  rw [if_neg q',if_neg q']
  cases e:bQ c r with
  | err e=>rfl
  | ok t r'=>exact ih (i6 (hf c r rfl) q q' e).2 _
end
theorem nv{t:Tok}:∀ {ts:List Tok},tokVs (ts++[t])=tokVs ts++[dH t]
 | []=>rfl
 | x :: ts=>congrArg (dH x :: ·) nv
theorem ic:∀ {ts:List Tok},(tokVs ts).length=ts.length
 | []=>rfl
 | x :: ts=>congrArg (·+1) ic
abbrev D8:=List (Nat×List Tok)
noncomputable def xR(os:D8):List V:=(os.map fun x=>V.ref x.1).reverse
noncomputable def G2(os:D8):List (List Tok):=os.map (·.2)
noncomputable def Dl(all:ae)(x:Tok×ae):V:=.tup [dH x.1,.int (pos all x.2)]
structure LT(σ0 σ:List O)(F G:Nat)(acc:List V)(os:D8):Prop where
 fnd:σ[F]? = some (.list acc)
 opn:σ[G]? = some (.list (xR os))
 inn:∀ x∈os,σ[x.1]? = some (.list (tokVs x.2))∧x.1≠F∧x.1≠G∧σ0.length≤x.1
 nod:(os.map (·.1)).Nodup
 fg:F≠G∧σ0.length≤F∧σ0.length≤G
 keep:Ge σ0 σ
section
variable{σ0 σ σ':List O}{F G a:Nat}{acc:List V}{os:D8}{ts:List Tok}{t:Tok}
theorem LT.go(h:LT σ0 σ F G acc os)(g:Ge σ σ'):LT σ0 σ' F G acc os:=⟨g _ _ h.fnd,g _ _ h.opn,fun x m=>⟨g _ _ (h.inn x m).1,(h.inn x m).2⟩,h.nod,h.fg,h.keep.trans g⟩
theorem LT.push(h:LT σ0 σ F G acc os):LT σ0 ((σ++[O.list []]).set G (O.list (xR os++[V.ref σ.length]))) F G acc ((σ.length,[]) :: os):=by
 have nl:∀ {i:Nat} {o:O},σ[i]? = some o→i≠σ.length:=fun e=>Nat.ne_of_lt (bm e)
 refine ⟨aN (ac h.fnd) h.fg.1.symm,(bk (ac h.opn)).trans (by rw [xR,xR,List.map_cons,List.reverse_cons]),fun x m=>?_,List.nodup_cons.mpr ⟨fun z=>?_,h.nod⟩,h.fg,(h.keep.trans .a1).put h.fg.2.2⟩
 · rcases List.mem_cons.mp m with rfl | m
   · exact ⟨aN aa (nl h.opn),(nl h.fnd).symm,(nl h.opn).symm,h.keep.len⟩
   · have i:=h.inn x m
     exact ⟨aN (ac i.1) i.2.2.1.symm,i.2⟩
 · obtain ⟨x,m,e⟩:=List.mem_map.mp z
   exact nl (h.inn x m).1 e
theorem LT.pop(h:LT σ0 σ F G acc ((a,ts) :: os)):LT σ0 (σ.set G (.list (xR os))) F G acc os∧(σ.set G (.list (xR os)))[a]? = some (.list (tokVs ts)):=by
 have i:=h.inn _ (.head _)
 exact ⟨⟨aN h.fnd h.fg.1.symm,bk h.opn,fun x m=>have j:=h.inn x (.tail _ m);⟨aN j.1 j.2.2.1.symm,j.2⟩,(List.nodup_cons.mp h.nod).2,h.fg,h.keep.put h.fg.2.2⟩,aN i.1 i.2.2.1.symm⟩
theorem LT.add(h:LT σ0 σ F G acc ((a,ts) :: os))(t:Tok):LT σ0 (σ.set a (.list (tokVs ts++[dH t]))) F G acc ((a,ts++[t]) :: os):=by
 have i:=h.inn _ (.head _)
 refine ⟨aN h.fnd i.2.1,aN h.opn i.2.2.1,fun x m=>?_,h.nod,h.fg,h.keep.put i.2.2.2⟩
 rcases List.mem_cons.mp m with rfl | m
 · exact ⟨(bk i.1).trans (by rw [nv]),i.2⟩
 · have j:=h.inn x (.tail _ m)
   exact ⟨aN j.1 fun z:a=x.1=>(List.nodup_cons.mp h.nod).1 (by show a∈_;rw [z];exact List.mem_map_of_mem (f:=fun x:Nat×List Tok=>x.1) m),j.2⟩
theorem LT.tell(h:LT σ0 σ F G acc os)(v:V):LT σ0 (σ.set F (.list (acc++[v]))) F G (acc++[v]) os :=
 ⟨bk h.fnd,aN h.opn h.fg.1,fun x m=>have j:=h.inn x m;⟨aN j.1 j.2.1.symm,j.2⟩,h.nod,h.fg,h.keep.put h.fg.2.1⟩
end
section
variable{call:aw}{d:Nat}{c:UInt8}{σ:List O}{Q:ag}{QF:aF}{X:ak}{all rest r t:ae}{pk:Bool}{e:Option ae}
theorem Bi.tok{t:Tok}(h:Q (.bool false) σ):Bi σ Q .isinst [dH t,.blt .bytes]:=by cases t<;>exact .isT h
theorem hV{os:D8}:(xR os).length=os.length:=by rw [xR,List.length_reverse,List.length_map]
theorem nN{y:Nat×List Tok}{os:D8}:xR (y :: os)=xR os++[.ref y.1]:=by rw [xR,xR,List.map_cons,List.reverse_cons]
structure oS(all:ae)(W:List V)(e:Option ae)(acc:List V)(y:gZ):Prop where
 ts:acc++y.1.map (Dl all)=W
 er:y.2=e
theorem oS.cons{W acc:List V}{y:gZ}{x:Tok×ae}(h:oS all W e acc (mY x y)):oS all W e (acc++[Dl all x]) y:=⟨(List.append_assoc ..).trans h.ts,h.er⟩
theorem jS{W:List V}(hl:all.length≤100000)(ht:oS all W e [] (aY pk (all.length+1) [] (an false all)))(hw:all.length≤500∨e=none)
 (h:∀ σ' k (n:Int),Ge σ σ'→σ.length≤k→σ'[k]? = some (.list (W++[.tup [xW e,.int n]]))→(e=none→n=pos all [])→Q (.ref k) σ'):Call (d+6) rX [.bytes all,.bool pk] σ Q X:=by
 have hl':all.length≤1000000:=Nat.le_trans hl (by decide)
 have e0:(0:Int)=pos all all:=congrArg Int.ofNat (Nat.sub_self _).symm
 refine .go iC rfl rfl rfl rfl <| eD (List.suffix_refl _) hl' e0 ⟨fun P hP=>?_⟩
 have fin:∀ {σ2 os acc o} {n:Int},LT σ σ2 σ.length (σ++[O.list []]).length acc os→oS all W e acc ([],o)→(o=none→n=pos all [])→acc.length≤900000→Bn (σ2++[.list [.tup [xW o,.int n]]]) Q .add (.ref σ.length) (.ref σ2.length):=fun {σ2 os acc o n} L w hn hl=>by
  have e1:acc=W:=(List.append_nil acc).symm.trans w.ts
  have e2:o=e:=w.er
  subst e1 e2
  exact .lcat (ac L.fnd) aa (Nat.le_trans (Nat.succ_le_succ hl) (by decide)) rfl <| h _ _ _ ((L.keep.trans .a1).trans .a1) (Nat.le_trans L.keep.len (Ge.a1.len)) aa hn
 have loop:∀ (n:Nat) (x:ae) (z:Int) (e5:Option V) (acc:List V) (os:D8) (σ':List O),x.length < n→x <:+ all→(∀ c r,x=c :: r→uV c)→LT σ σ' σ.length (σ++[O.list []]).length acc os→acc.length+x.length≤200000→os.length+x.length≤200000→(∀ y∈os,y.2.length+x.length≤200000) →
  oS all W e acc (aY pk n (G2 os) x)→z=pos all x→P [some (.bytes all),some (.bool pk),some (.ref σ.length),some (.ref (σ++[O.list []]).length),some (.int z),e5] σ':=by
  intro n
  induction n with
  | zero=>exact fun x z e5 acc os σ' hn=>absurd hn (Nat.not_lt_zero _)
  | succ n ih =>
   intro x z e5 acc os σ' hn hx hf L b1 b2 b3 w hz
   have ba:acc.length≤900000:=Nat.le_trans (Nat.le_trans (Nat.le_add_right ..) b1) (by decide)
   cases x with
   | nil =>
    refine hP _ _ <| .lenB hl' <| .end hz ?_
    cases os with
    | nil=>exact .eqNil (ac L.opn) aa (fun _=>fin (o:=none) (L.go .a1) w (fun _=>hz) ba) fun q=>absurd rfl q
    | cons y ys=>exact .eqNil (ac L.opn) aa (fun q=>nomatch (congrArg List.length q).symm.trans hV) fun _=>bu <| fin (o:=some lW) (L.go .a1) w nofun ba
   | cons c r =>
    have hra:=a8 hx
    have hz1:=f8 hz hx
    have hn:=Nat.lt_of_succ_lt_succ hn
    have hp1:pos all (c :: r)+1≤1000000:=Nat.succ_le_succ (Nat.le_trans fP (Nat.le_trans hl (by decide)))
    have hb:∀ {y:ae},y <:+ r→an false y <:+ all∧(an false y).length≤r.length:=fun hy=>⟨(az _ _).trans (hy.trans hra),Nat.le_trans (az _ _).length_le hy.length_le⟩
    rw [List.length_cons] at b1 b2
    have w:oS all W e acc (if c=123 then aY pk n ([] :: G2 os) (an false r) else if c=125 then Eo pk (aY pk n) r (G2 os) else FK (aY pk n) (G2 os) (bQ c r)):=w
    have lo:(xR os).length≤900000:=hV.symm▸Nat.le_trans (Nat.le_trans (Nat.le_add_right ..) b2) (by decide)
    have lo':=Nat.le_trans lo (by decide:900000≤1000000)
    have sl:∀ {K:ag} {σ2},K (.bytes [c]) σ2→Sl σ2 K (.bytes all) [.int z] [.int (z+1)]:=.bytes (.int hz (Nat.le_of_succ_le hp1)) (.int (n:=pos all (c :: r)+1) (hz▸rfl) hp1) hl' (uk hx 1)
    refine hP _ _ <| .lenB hl' <| .more hz hx <| wT <| d6 2 fun P2 hP2=>?_
    have told:∀ {t:Tok} {r':ae} {σ2:List O} {os2:D8},r' <:+ r→LT σ σ2 σ.length (σ++[O.list []]).length acc os2→os2.length≤os.length→(∀ y∈os2,y.2.length+(c :: r).length≤200000)→oS all W e acc (oW (aY pk n) (G2 os2) t r') →
     P2 [some (.bytes all),some (.bool pk),some (.ref σ.length),some (.ref (σ++[O.list []]).length),some (.int (pos all r')),some (dH t)] σ2:=fun {t r' σ2 os2} hr' L o1 o2 w=>by
     have hy:=hb hr'
     have hy2:=hy.2
     have L1:=L.go (.a1 (τ:=[.list []]))
     refine hP2 _ _ <| .tok ?_
     cases os2 with
     | nil=>exact .eqNil L1.opn aa (fun _=>.lApp L1.fnd <| .lApp L1.fnd (Nat.le_trans ba (by decide)) rfl <| eD (hr'.trans hra) hl' rfl <| ih (an false r') _ _ _ [] _ (Nat.lt_of_le_of_lt hy2 hn) hy.1 (fun _ _=>aI _ _) (L1.tell (Dl all (t,r'))) (by rw [List.length_append];show _+1+_≤_;omega) (by show 0+_≤_;omega) nofun w.cons rfl) fun q=>absurd rfl q
     | cons y ys =>
      obtain ⟨a,ts⟩:=y
      have i:=L1.inn _ (.head _)
      have o3:=o2 _ (.head _)
      rw [List.length_cons] at o1 o3
      refine .eqNil L1.opn aa (fun q=>nomatch (congrArg List.length q).symm.trans hV) fun _=>.last L1.opn (by rw [nN];exact List.getLast?_concat) (hV.symm▸by rw [List.length_cons];omega) <| .lApp i.1 <| .lApp i.1 (by rw [ic];show ts.length≤_;have o3:ts.length+(r.length+1)≤200000:=o3;omega) rfl <| eD (hr'.trans hra) hl' rfl <| ih (an false r') _ _ _ ((a,ts++[t]) :: ys) _ (Nat.lt_of_le_of_lt hy2 hn) hy.1 (fun _ _=>aI _ _) (L1.add t) (by omega) (by rw [List.length_cons];omega) (fun y m=>?_) w rfl
      rcases List.mem_cons.mp m with rfl | m
      · have o3:ts.length+(r.length+1)≤200000:=o3
        show (ts++[t]).length+_≤_
        rw [List.length_append];show _+1+_≤_;omega
      · have:=o2 y (.tail _ m);rw [List.length_cons] at this;omega
    refine .add rfl <| sl <| .eqB (fun q=>?_) fun q3=>.add rfl <| sl <| .eqB (fun q=>?_) fun q5=>?_
    · rw [if_pos (List.cons.inj q).1] at w
      have hy:=hb (List.suffix_refl r)
      refine .lApp L.opn <| .lApp (ac L.opn) lo' rfl <| .add hz1 <| eD hra hl' rfl <| ih (an false r) _ _ acc _ _ (Nat.lt_of_le_of_lt hy.2 hn) hy.1 (fun _ _=>aI _ _) L.push (by omega) (by rw [List.length_cons];omega) (fun y m=>?_) w rfl
      rcases List.mem_cons.mp m with rfl | m
      · rw [List.length_nil];omega
      · have:=b3 y m;rw [List.length_cons] at this;omega
    all_goals rw [if_neg fun z:c=123=>q3 (z▸rfl)] at w
    · rw [if_pos (List.cons.inj q).1] at w
      have L1:=L.go (.a1 (τ:=[.list []]))
      cases os with
      | nil=>exact .eqNil L1.opn aa (fun _=>bu <| fin (o:=some lW) L1 w nofun ba) fun q=>absurd rfl q
      | cons y ys =>
       obtain ⟨a,ts⟩:=y
       have o3:=b3 _ (.head _)
       have tell:=told (t:=.proc pk ts) (List.suffix_refl r) L1.pop.1 (Nat.le_succ _) (fun y m=>b3 y (.tail _ m)) w
       have lt:(tokVs ts).length≤1000000:=by rw [ic];have o3:ts.length+(r.length+1)≤200000:=o3;omega
       have lp:(xR ys).length < 1000000:=by rw [hV];rw [List.length_cons] at b2;omega
       refine .eqNil L1.opn aa (fun q=>nomatch (congrArg List.length q).symm.trans hV) fun _=>?_
       cases pk with
       | true=>exact .lPop L1.opn <| .lPop L1.opn nN lp <| .tuple L1.pop.2 lt <| .add hz1 tell
       | false=>exact .lPop L1.opn <| .lPop L1.opn nN lp <| .tuple L1.pop.2 lt <| .add hz1 tell
    · have q5:c≠125:=fun z=>q5 (z▸rfl)
      rw [if_neg q5] at w
      subst hz
      refine tU hx hl (fun rg=>hw.elim (fun h5=>Nat.le_trans (bY _) (Nat.le_trans hx.length_le h5)) fun en=>Nat.not_lt.mp fun z=>?_) fun σ2 g=>?_
      · rw [(qn rg).2.2.2,lr,if_pos z] at w
        have:=w.er
        rw [en] at this;cases this
      cases et:bQ c r with
      | err e'=>rw [et] at w;exact fun m=>hP2 _ _ <| .isB <| fin (o:=some e') (L.go g) w nofun ba
      | ok t r'=>rw [et] at w;exact told (i6 (hf c r rfl) (fun z=>q3 (z▸rfl)) q5 et).2 (L.go g) (Nat.le_refl _) b3 w
 exact loop _ _ _ _ [] [] _ (Nat.lt_succ_of_le (az _ _).length_le) (az _ _) (fun _ _=>aI _ _) ⟨ac aa,aa,nofun,.nil,⟨by rw [List.length_append];show _≠_+1;omega,Nat.le_refl _,by rw [List.length_append];exact Nat.le_add_right ..⟩,.a2⟩ (by have:=(az false all).length_le;show 0+_≤_;omega) (by have:=(az false all).length_le;show 0+_≤_;omega) nofun ht rfl
end
noncomputable def qQ:List (UInt8×ae):=[(10,[92,110]),(13,[92,114]),(9,[92,116]),(8,[92,98]),(12,[92,102]),(40,[92,40]),(41,[92,41]),(92,[92,92])]
noncomputable def vk(c:UInt8):ae:=if 32≤c.toNat∧c.toNat≤126 then [c] else [92,UInt8.ofNat (48+c.toNat / 64),UInt8.ofNat (48+c.toNat / 8 % 8),UInt8.ofNat (48+c.toNat % 8)]
noncomputable def gF(c:UInt8):ae:=(qQ.lookup c).getD (vk c)
noncomputable def BN(w:ae):ae:=40 :: (w.map gF).flatten++[41]
theorem A8(c:UInt8):(gF c).length≤4∧1≤(gF c).length:=by
 unfold gF
 cases e:qQ.lookup c with
 | none =>
  show (vk c).length≤4∧_
  unfold vk
  by_cases q:32≤c.toNat∧c.toNat≤126
  · rw [if_pos q];exact ⟨Nat.le_add_left 1 3,Nat.le_refl 1⟩
  · rw [if_neg q];exact ⟨Nat.le_refl 4,Nat.le_add_left 1 3⟩
 | some x=>exact (by decide:∀ p∈qQ,p.2.length≤4∧1≤p.2.length) _ (a6 e)
theorem Aj{k:Int}(h:-2147483648≤k∧k≤2147483647):k.natAbs≤2147483648:=by omega
theorem mF{w:ae}:w.length≤(w.map gF).flatten.length∧(w.map gF).flatten.length≤4 * w.length:=by
 induction w with
 | nil=>exact ⟨Nat.le_refl _,Nat.le_refl _⟩
 | cons c w ih =>
  have h:=A8 c
  rw [List.map_cons,List.flatten_cons,List.length_append,List.length_cons]
  exact ⟨Nat.le_trans (Nat.le_of_eq (Nat.add_comm ..)) (Nat.add_le_add h.2 ih.1),Nat.le_trans (Nat.add_le_add h.1 ih.2) (Nat.le_of_eq (Nat.add_comm ..))⟩
theorem kj:∀ l:List ae,aA [] l=l.flatten
 | []=>rfl
 | [x]=>(List.append_nil x).symm
 | x :: y :: r=>by rw [aA,kj (y :: r),List.append_nil];rfl
noncomputable def gT:Nat→ae→ae
 | 0,x=>x
 | n+1,x=>if 1 < x.length∧x.getLast? = some 48 then gT n x.dropLast else x
noncomputable def eX(m:Int):ae:=qT m++eS (m.natAbs / 1000000)++[46]++gT 40 ((eS (1000000+m.natAbs % 1000000)).drop 1)
theorem eF{n:Nat}:(eS n).length≤40:=by rw [eS,List.length_reverse];exact vD
theorem xJ{n:Nat}:cg n=eS n:=by rw [cg,qT,if_neg (Int.not_lt.mpr (Int.natCast_nonneg n))];rfl
theorem pS{n:Nat}:∀ {x:ae},(gT n x).length≤x.length:=by
 induction n with
 | zero=>exact Nat.le_refl _
 | succ n ih =>
  intro x
  rw [gT]
  by_cases q:1 < x.length∧x.getLast? = some 48
  · rw [if_pos q];exact Nat.le_trans ih (List.length_dropLast▸Nat.sub_le ..)
  · rw [if_neg q];exact Nat.le_refl _
section
variable{call:aw}{d:Nat}{c:UInt8}{σ:List O}{Q:ag}{QF:aF}{X:ak}
theorem mH(h:∀ σ',Ge σ σ'→Q (.bytes (gF c)) σ'):Call (d+1) oD [.int c.toNat] σ Q X:=by
 have hc:=c.toNat_lt
 have lk:=i0 (c:=c) (g:=V.bytes) qQ
 refine .go gg rfl rfl rfl rfl <| .int [10,13,9,8,12,40,41,92] rfl (by decide) (by decide) rfl (show _=qQ.map fun p=>((p.1.toNat:Int),V.bytes p.2) from rfl) <| .inD aa rfl ?_
 unfold gF at h
 rw [lk]
 cases e:qQ.lookup c with
 | some x=>rw [e] at h lk;exact .idict aa lk (h _ .a1)
 | none =>
  rw [e] at h
  have h:∀ σ',Ge σ σ'→Q (.bytes (vk c)) σ':=h
  unfold vk at h
  refine .inN 32 126 (fun q=>.bytesL aa (x:=[c]) rfl (Nat.le_of_ble_eq_true rfl) ?_) fun q=>.fdiv (by decide) (DY (by decide)) rfl <| .add (Df (n:=48+c.toNat / 64) (Nat.lt_of_lt_of_le (Nat.add_lt_add_left (Nat.div_lt_of_lt_mul (n:=64) (k:=4) c.toNat_lt) 48) (by decide))) <| .fdiv (by decide) (DY (by decide)) rfl <| .mod (by decide) rfl <| .add (Df (n:=48+c.toNat / 8 % 8) (Nat.lt_of_lt_of_le (Nat.add_lt_add_left (Nat.mod_lt _ (by decide:0 < 8)) 48) (by decide))) <| .mod (by decide) rfl <| .add (Df (n:=48+c.toNat % 8) (Nat.lt_of_lt_of_le (Nat.add_lt_add_left (Nat.mod_lt _ (by decide:0 < 8)) 48) (by decide))) <| .bytesL aa (x:=[92,_,_,_]) rfl (Nat.le_of_ble_eq_true rfl) ?_
  · rw [if_pos q] at h;exact h _ .a2
  · rw [if_neg q] at h;exact h _ .a2
theorem B2{QL:aL}{e0:Option V}:∀ (w:ae) (acc:List V) (σ':List O),Ge σ σ'→acc.length+w.length≤1000000→(∀ σ',Ge σ σ'→QL (acc++(w.map gF).map .bytes) σ') →
 cF (aR false [1]) (vcBt (Call (d+1)) true []) (bW (Call (d+1)) (.call (.cst (.fn 78)) [.var 1])) (fun _=>True) [e0,none] QL (av w) acc σ':=by
 intro w
 induction w with
 | nil=>exact fun acc σ' g _ h=>⟨trivial,(List.append_nil acc)▸h _ g⟩
 | cons c w ih=>exact fun acc σ' g hl h=>⟨trivial,_,rfl,mH fun σ2 g2=>⟨Nat.le_trans (Nat.le_add_right ..) hl,ih _ _ (g.trans g2) (by rw [List.length_append];exact Nat.add_right_comm ..▸hl) fun σ3 g3=>by rw [List.append_assoc];exact h σ3 g3⟩⟩
theorem nL{w:ae}(hw:w.length≤200000)(h:∀ σ',Ge σ σ'→Q (.bytes (BN w)) σ'):Call (d+2) nG [.bytes w] σ Q X:=by
 have hl:=(mF (w:=w)).2
 have hw':w.length≤1000000:=Nat.le_trans hw (by decide)
 refine .go f6 rfl rfl rfl rfl <| .join <| .plainB hw' <| B2 w [] _ .rfl ((Nat.zero_add _).symm▸hw') fun σ' g=>.join aa rfl ((List.length_map ..).symm▸hw') (kj _) (by omega) <| .cat (by show 1+_≤_;omega) rfl <| .cat ?_ rfl (h _ (g.trans .a1))
 show (w.map gF).flatten.length+1+1≤_;omega
theorem qH{n:Int}(hn:n.natAbs < 10 ^ 40)(h:∀ σ',Ge σ σ'→Q (.bytes (cg n)) σ'):Call (d+2) gd [.str bF,.int n] σ Q X :=
 .go cY rfl rfl rfl rfl <| .eqS (fun _=>cS hn h) fun z=>absurd rfl z
theorem pD{m:Int}(hm:m.natAbs < 10 ^ 40)(h:∀ σ',Ge σ σ'→Q (.bytes (eX m)) σ'):Call (d+2) gd [.str dB,.int m] σ Q X:=by
 have m6:m.natAbs % 1000000 < 1000000:=Nat.mod_lt _ (by decide)
 refine .go cY rfl rfl rfl rfl <| .eqS (fun z=>nomatch z) fun _=>.abs <| .mod (by decide) rfl <| .add (n:=(1000000+m.natAbs % 1000000:Nat)) rfl <| cS (Nat.lt_of_lt_of_le (Nat.add_lt_add_left m6 _) (by decide)) fun σ1 g1=>?_
 rw [xJ]
 have l1:=eF (n:=1000000+m.natAbs % 1000000)
 have l2:=eF (n:=m.natAbs / 1000000)
 refine .bytes (.int rfl (by decide:1≤1000000)) .nil (Nat.le_trans l1 (by decide)) rfl ⟨fun P hP=>?_⟩
 have ld:((eS (1000000+m.natAbs % 1000000)).drop 1).length≤40:=List.length_drop▸Nat.le_trans (Nat.sub_le ..) l1
 unfold eX at h
 generalize hT:gT 40 ((eS (1000000+m.natAbs % 1000000)).drop 1)=T at *
 have fin:∀ x:ae,x.length≤40→T=x→vcSs (Call (d+1)) (gf.drop 4) [some (.str dB),some (.int m),some (.int m.natAbs),some (.bytes x)] σ1 (eO Q) X:=fun x hx e=>by
  have sl:(qT m).length≤1:=by unfold qT;by_cases q:m < 0;rw [if_pos q];exact Nat.le_refl 1;rw [if_neg q];exact Nat.zero_le _
  have dd:∀ {K:ag},(∀ σ',Ge σ1 σ'→K (.bytes (eS (m.natAbs / 1000000))) σ')→Call (d+1) eV [.int ((m.natAbs / 1000000:Nat):Int)] σ1 K X:=fun hk=>cS (Nat.lt_of_le_of_lt (Nat.div_le_self ..) hm) fun σ' g=>by rw [xJ];exact hk σ' g
  have cat:∀ {σ':List O} {s},Ge σ1 σ'→s=qT m→Q (.bytes (s++eS (m.natAbs / 1000000)++[46]++x)) σ':=fun g hs=>by rw [hs,← e];exact h _ (g1.trans g)
  refine .lt (fun q=>.fdiv (by decide) (DY (by decide)) rfl <| dd fun σ' g=>.cat ?_ rfl <| .cat ?_ rfl <| .cat ?_ rfl <| cat g (if_pos q).symm) fun q=>.fdiv (by decide) (DY (by decide)) rfl <| dd fun σ' g=>.cat ?_ rfl <| .cat ?_ rfl <| .cat ?_ rfl <| cat g (if_neg q).symm
  all_goals simp only [List.length_append,List.length_cons,List.length_nil];omega
 have loop:∀ (n:Nat) (x:ae),x.length≤n+1→x.length≤40→T=gT n x→P [some (.str dB),some (.int m),some (.int m.natAbs),some (.bytes x)] σ1:=fun n=>by
  have lM:∀ {x:ae},x.length≤40→x.length≤1000000:=fun h=>Nat.le_trans h (by decide)
  induction n with
  | zero=>exact fun x h1 h2 e=>hP _ _ <| .lenB (lM h2) <| .gt (fun q=>absurd (Int.ofNat_lt.mp q) (Nat.not_lt.mpr h1)) fun _=>fin x h2 e
  | succ n ih =>
   intro x h1 h2 e
   rw [gT] at e
   refine hP _ _ <| .lenB (lM h2) <| .gt (fun q=>?_) fun q=>fin x h2 (e.trans (if_neg fun z=>q (Int.ofNat_lt.mpr z.1)))
   have q:=Int.ofNat_lt.mp q
   have hs:(x.length:Int) - 1=(x.length - 1:Nat):=i4 (a:=1) (Nat.le_of_lt q)
   have hl:x[x.length - 1]? = some (x[x.length - 1]'(Nat.sub_lt (Nat.lt_trans Nat.one_pos q) Nat.one_pos)):=List.getElem?_eq_getElem _
   rw [List.getLast?_eq_getElem?,hl] at e
   generalize x[x.length - 1]'(Nat.sub_lt (Nat.lt_trans Nat.one_pos q) Nat.one_pos)=c at *
   refine .lenB (lM h2) <| .sub rfl <| .bytes hs hl (lM h2) <| .eqC 48 (fun w=>?_) fun w=>fin x h2 (e.trans (if_neg fun z=>w (Option.some.inj z.2)))
   rw [if_pos ⟨q,congrArg some w⟩] at e
   have dl:x.dropLast.length=x.length - 1:=List.length_dropLast
   exact .lenB (lM h2) <| .sub rfl <| .bytes .nil (.int hs (Nat.le_trans (Nat.sub_le ..) (lM h2))) (lM h2) List.dropLast_eq_take.symm <| ih x.dropLast (dl▸Nat.pred_le_pred h1) (dl▸Nat.le_trans (Nat.pred_le _) h2) e
 exact loop 40 _ (Nat.le_succ_of_le ld) ld hT.symm
end
inductive Gt(pk:Bool):Nat→Tok→Prop
 | int {n k} (h:-2147483648≤k∧k≤2147483647):Gt pk n (.int k)
 | real {n m} (h:m.natAbs≤1000000000000000000000):Gt pk n (.real m)
 | name {n w} (h:∀ c∈w,bo c=true) (hl:w.length≤127):Gt pk n (.name w)
 | run {n w} (h:w=[60,60]∨w=[62,62]∨w=[91]∨w=[93]∨(w≠[]∧(∀ c∈w,bo c=true)∧bq w = .no∧w.length≤127)):Gt pk n (.run w)
 | str {n w}:Gt pk n (.str w)
 | proc {n ts} (h:∀ t∈ts,Gt pk n t):Gt pk (n+1) (.proc pk ts)
mutual
noncomputable def d5:Tok→ae
 | .int n=>cg n
 | .real m=>eX m
 | .name w=>47 :: w
 | .run w=>w
 | .str w=>BN w
 | .proc _ ts=>123 :: (aA [32] (prts ts)++[125])
noncomputable def prts:List Tok→List ae
 | []=>[]
 | t :: ts=>d5 t :: prts ts
end
theorem tR{t:Tok}:∀ {ts:List Tok},t∈ts→d5 t∈prts ts
 | x :: ts,h=>(List.mem_cons.mp h).elim (fun e=>e ▸ .head _) fun m=>.tail _ (tR m)
theorem jL:∀ {ts:List Tok},(prts ts).length=ts.length
 | []=>rfl
 | x :: ts=>congrArg (·+1) jL
theorem sr{x:ae}:∀ {l:List ae},x∈l→x.length≤(aA [32] l).length
 | [a],h=>List.mem_singleton.mp h▸Nat.le_refl _
 | a :: b :: l,h=>by
  rw [aA,List.length_append,List.length_append]
  rcases List.mem_cons.mp h with rfl | h
  · omega
  · have:=sr h;omega
theorem td:∀ {l:List ae},l.length≤(aA [32] l).length+1
 | []=>Nat.zero_le _
 | [a]=>Nat.le_add_left ..
 | a :: b :: l=>by
  have:=td (l:=b :: l)
  rw [aA,List.length_append,List.length_append]
  show (b :: l).length+1≤_+1+_+1
  omega
theorem og{p:Bool}{ts:List Tok}{m:Nat}(h:(d5 (.proc p ts)).length≤m+2):(∀ t∈ts,(d5 t).length≤m)∧ts.length≤m+1∧(aA [32] (prts ts)).length≤m:=by
 have e:(d5 (.proc p ts)).length=(aA [32] (prts ts)).length+2:=by show _+1=_;rw [List.length_append];rfl
 have:=td (l:=prts ts)
 rw [jL] at this
 exact ⟨fun t m=>Nat.le_trans (sr (tR m)) (by omega),by omega,by omega⟩
theorem g9{w:ae}{m:Nat}(h:(BN w).length≤m):w.length≤m:=Nat.le_trans (mF (w:=w)).1 (Nat.le_trans (Nat.le_add_right _ 2) (Nat.le_trans (Nat.le_of_eq (by show _=((w.map gF).flatten++[41]).length+1;rw [List.length_append];rfl)) h))
noncomputable def IE(Z:Fr)(v:Nat):Tok→Prop
 | .int n=>pO Z v (.str bF) (.int n) false 3
 | .real n=>pO Z v (.str dB) (.int n) false 3
 | .name w=>pO Z v (.str fK) (.bytes w) false 3
 | .run w=>pO Z v (.str fK) (.bytes w) true 3
 | .str w=>∀ {P:Prop},(∀ p pj t tj n k,pO Z v (.str cJ) (.ref p) false 3→Z p=some (.inst 4 pj)→Z pj=some (.attrs (jr t w.length))→Z t=some (.inst 2 tj)→Z tj=some (.attrs (pU n k))→Z k=some (.bar w)→P)→P
 | .proc b ts=>∀ {P:Prop},(∀ p pj t tj n k xs,pO Z v (.str (match b with | true=>da | false=>eC)) (.ref p) true (match b with | true=>2 | false=>3)→Z p=some (.inst 4 pj)→Z pj=some (.attrs (jr t xs.length))→Z t=some (.inst 3 tj)→Z tj=some (.attrs (wD n k))→Z k=some (.list (xs.map .ref))→tS Z xs ts→P)→P
theorem Th.inv{Z:Fr}{v:Nat}{t:Tok}(h:Th Z v t):IE Z v t:=by
 cases h with
 | int h=>exact h
 | real h=>exact h
 | name h=>exact h
 | run h=>exact h
 | str h h1 h2 h3 h4 h5=>exact fun w=>w _ _ _ _ _ _ h h1 h2 h3 h4 h5
 | proc h h1 h2 h3 h4 h5 hl hs=>exact fun w=>w _ _ _ _ _ _ _ h h1 h2 h3 h4 h5 ⟨hl,hs⟩
structure Ob(σ:List O)(v j:Nat)(k x:V)(e:Bool)(a:Int):Prop where
 i:σ[v]? = some (.inst 1 j)
 d:σ[j]? = some (.attrs (cA k x e a))
section
variable{d v j:Nat}{σ:List O}{Q:ag}{X:ak}{Z:Fr}{t:Tok}{pk:Bool}{k:Nat}{x:V}{e:Bool}{a:Int}{w:ae}
theorem pO.ob{k:V}(h:pO Z v k x e a)(f:Fz Z σ){P:Prop}(w:∀ j,Ob σ v j k x e a→P):P:=h.go.elim fun j h=>w j ⟨f _ _ h.1,f _ _ h.2⟩
theorem cR{p pj t tj k:Nat}{n:Int}(h1:σ[p]? = some (.inst 4 pj))(h2:σ[pj]? = some (.attrs (jr t w.length)))(h3:σ[t]? = some (.inst 2 tj))(h4:σ[tj]? = some (.attrs (pU n k)))(h5:σ[k]? = some (.bar w))(hw:w.length≤1000000)
 (h:∀ σ',Ge σ σ'→Q (.bytes w) σ'):Call (d+1) cU [.ref p] σ Q X :=
 .go eh rfl rfl rfl rfl <| .val h1 h2 rfl rfl rfl <| .val h3 h4 rfl rfl rfl <| .val h1 h2 rfl rfl rfl <| .val h1 h2 rfl rfl rfl <| .val h1 h2 rfl rfl rfl <| .add (Int.zero_add _) <| .bar (z:=w) h5 (.int (n:=0) rfl (by decide)) (.int rfl hw) hw List.take_length <| .bytesA aa hw <| h _ .a1
theorem cV{p pj t tj k:Nat}{n:Int}{xs:List V}{m:Nat}(hm:m=xs.length)(h1:σ[p]? = some (.inst 4 pj))(h2:σ[pj]? = some (.attrs (jr t m)))(h3:σ[t]? = some (.inst 3 tj))(h4:σ[tj]? = some (.attrs (wD n k)))(h5:σ[k]? = some (.list xs))(hw:xs.length≤1000000)
 (h:Q (.ref σ.length) (σ++[.list xs])):Call (d+1) cX [.ref p] σ Q X:=by
 subst hm
 exact .go eH rfl rfl rfl rfl <| .val h1 h2 rfl rfl rfl <| .val h3 h4 rfl rfl rfl <| .val h1 h2 rfl rfl rfl <| .val h1 h2 rfl rfl rfl <| .val h1 h2 rfl rfl rfl <| .add (Int.zero_add _) <| .list (zs:=xs) h5 (.int (n:=0) rfl (by decide)) (.int rfl hw) hw List.take_length h
theorem nA(o:Ob σ v j (.str k) x false 3)(n1:k≠23)(n2:(([26,27]:List Nat).any fun b=>decide (b=k))=false)(n3:k≠25)(h:Q (.tup [.str k,x]) σ):Call (d+2) cr [.ref v] σ Q X :=
 .go cw rfl rfl rfl rfl <| .val o.i o.d rfl rfl rfl <| .eqS (fun z=>absurd z n1) fun _=>.val o.i o.d rfl rfl rfl <| .inS (ss:=[26,27]) rfl n2 <| .val o.i o.d rfl rfl rfl <| .val o.i o.d rfl rfl rfl <| .neI (fun _=>.val o.i o.d rfl rfl rfl <| .val o.i o.d rfl rfl rfl <| .eqS (fun z=>absurd z n3) fun _=>.val o.i o.d rfl rfl rfl h) fun z=>absurd rfl z
theorem pX(o:Ob σ v j (.str 23) (.bytes w) e 3)(h:Q (.tup [.str (match e with | true=>DT | false=>fK),.bytes w]) σ):Call (d+2) cr [.ref v] σ Q X:=by
 refine .go cw rfl rfl rfl rfl <| .val o.i o.d rfl rfl rfl <| .eqS (fun _=>.val o.i o.d rfl rfl rfl ?_) fun z=>absurd rfl z
 cases e with
 | true=>exact .val o.i o.d rfl rfl rfl h
 | false=>exact .val o.i o.d rfl rfl rfl h
theorem AZ{p:Nat}(o:Ob σ v j (.str 25) (.ref p) false 3)(h:Call (d+1) cU [.ref p] σ (fun x σ=>Q (.tup [.str 25,x]) σ) X):Call (d+2) cr [.ref v] σ Q X :=
 .go cw rfl rfl rfl rfl <| .val o.i o.d rfl rfl rfl <| .eqS (fun z=>nomatch z) fun _=>.val o.i o.d rfl rfl rfl <| .inS (ss:=[26,27]) rfl rfl <| .val o.i o.d rfl rfl rfl <| .val o.i o.d rfl rfl rfl <| .neI (fun _=>.val o.i o.d rfl rfl rfl <| .val o.i o.d rfl rfl rfl <| .eqS (fun _=>.val o.i o.d rfl rfl rfl h) fun z=>absurd rfl z) fun z=>absurd rfl z
theorem B4{QL:aL}{i:Nat}{L:List V}{e0 e1:Option V}{ts:List Tok}(hi:σ[i]? = some (.list L))(f:Fz Z σ)(ih:∀ t∈ts,∀ {v:Nat} {σ:List O} {Q:ag},Th Z v t→Fz Z σ→(∀ σ',Ge σ σ'→Q (dH t) σ')→Call (d+1) cr [.ref v] σ Q fun _ _=>False) :
 ∀ (xs:List Nat) (us:List Tok) (acc:List V) (σ':List O),(∀ u∈us,u∈ts)→tS Z xs us→Ge σ σ'→acc.length+xs.length≤1000000→(∀ σ',Ge σ σ'→QL (acc++tokVs us) σ') →
  cF (aR false [2]) (vcBt (Call (d+1)) true []) (bW (Call (d+1)) (.call (.cst (.fn 100)) [.var 2])) (fun σ'=>σ'[i]? = some (.list L)) [e0,e1,none] QL (xs.map .ref) acc σ':=by
 intro xs
 induction xs with
 | nil =>
  intro us acc σ' _ ht g _ h
  cases List.eq_nil_of_length_eq_zero ht.1.symm
  exact ⟨g _ _ hi,(List.append_nil acc)▸(show QL (acc++[]) _ from h _ g)⟩
 | cons x xs ih2 =>
  intro us acc σ' hu ht g hl h
  cases us with
  | nil=>exact nomatch ht.1
  | cons u us =>
   exact ⟨g _ _ hi,_,rfl,ih u (hu u (.head _)) (ht.2 0 x u rfl rfl) (fun i o e=>g _ _ (f i o e)) fun σ2 g2=>⟨Nat.le_trans (Nat.le_add_right ..) hl,ih2 us _ _ (fun y m=>hu y (.tail _ m)) ⟨Nat.succ.inj ht.1,fun i x t e e'=>ht.2 (i+1) x t e e'⟩ (g.trans g2) (by rw [List.length_append];exact Nat.add_right_comm ..▸hl) fun σ3 g3=>by rw [List.append_assoc];exact h σ3 g3⟩⟩
theorem xY{p:Nat}{b:Bool}{ts:List Tok}{xs:List Nat}(o:Ob σ v j (.str (match b with | true=>27 | false=>26)) (.ref p) true (match b with | true=>2 | false=>3))(f:Fz Z σ)(ht:tS Z xs ts)(hl:ts.length≤1000000)
 (hs:∀ {K:ag},K (.ref σ.length) (σ++[.list (xs.map .ref)])→Call (d+2) cX [.ref p] σ K X)
 (ih:∀ t∈ts,∀ {v:Nat} {σ:List O} {Q:ag},Th Z v t→Fz Z σ→(∀ σ',Ge σ σ'→Q (dH t) σ')→Call (d+2) cr [.ref v] σ Q fun _ _=>False) (h:∀ σ',Ge σ σ'→Q (dH (.proc b ts)) σ'):Call (d+3) cr [.ref v] σ Q X:=by
 have xl:(xs.map V.ref).length≤1000000:=(List.length_map ..).symm▸ht.1▸hl
 have lp:∀ {QL:aL} {e1},(∀ σ',Ge σ σ'→QL (tokVs ts) σ')→cF (aR false [2]) (vcBt (Call (d+2)) true []) (bW (Call (d+2)) (.call (.cst (.fn 100)) [.var 2])) (fun σ'=>σ'[σ.length]? = some (.list (xs.map .ref))) [some (.ref v),e1,none] QL (xs.map .ref) [] (σ++[.list (xs.map .ref)]):=fun h =>
  B4 aa (fun i o e=>ac (f i o e)) ih xs ts [] _ (fun _ m=>m) ht .rfl (by show 0+_≤_;rw [Nat.zero_add,ht.1];exact hl) fun σ' g=>h σ' (.trans .a1 g)
 have tl:(tokVs ts).length≤1000000:=ic.symm▸hl
 cases b with
 | true=>exact .go cw rfl rfl rfl rfl <| .val o.i o.d rfl rfl rfl <| .eqS (fun z=>nomatch z) fun _=>.val o.i o.d rfl rfl rfl <| .inS (ss:=[26,27]) rfl rfl <| .val o.i o.d rfl rfl rfl <| .val o.i o.d rfl rfl rfl <| .val o.i o.d rfl rfl rfl <| .eqS (fun z=>nomatch z) fun _=>.eqI (fun _=>.val o.i o.d rfl rfl rfl <| .val o.i o.d rfl rfl rfl <| hs <| .plainL aa xl <| lp fun σ' g=>.tuple aa tl <| h _ (g.trans .a1)) fun z=>absurd rfl z
 | false=>exact .go cw rfl rfl rfl rfl <| .val o.i o.d rfl rfl rfl <| .eqS (fun z=>nomatch z) fun _=>.val o.i o.d rfl rfl rfl <| .inS (ss:=[26,27]) rfl rfl <| .val o.i o.d rfl rfl rfl <| .val o.i o.d rfl rfl rfl <| .val o.i o.d rfl rfl rfl <| .eqS (fun _=>.eqI (fun _=>.val o.i o.d rfl rfl rfl <| .val o.i o.d rfl rfl rfl <| hs <| .plainL aa xl <| lp fun σ' g=>.tuple aa tl <| h _ (g.trans .a1)) fun z=>absurd rfl z) fun z=>absurd rfl z
theorem mG{n:Nat}(g:Gt pk n t):(d5 t).length≤100000→∀ {d v:Nat} {σ:List O} {Q:ag} {X:ak},Th Z v t→Fz Z σ→(∀ σ',Ge σ σ'→Q (dH t) σ')→Call (d+n+2) cr [.ref v] σ Q X:=by
 induction g with
 | int _=>exact fun _ {d v σ Q X} ht f h=>ht.inv.ob f fun j o=>nA o (by decide) rfl (by decide) (h _ .rfl)
 | real _=>exact fun _ {d v σ Q X} ht f h=>ht.inv.ob f fun j o=>nA o (by decide) rfl (by decide) (h _ .rfl)
 | name _ _=>exact fun _ {d v σ Q X} ht f h=>ht.inv.ob f fun j o=>pX o (h _ .rfl)
 | run _=>exact fun _ {d v σ Q X} ht f h=>ht.inv.ob f fun j o=>pX o (h _ .rfl)
 | str =>
  intro hl d v σ Q X ht f h
  exact ht.inv fun p pj t tj n k i h1 h2 h3 h4 h5=>i.ob f fun j o=>AZ o <| cR (f _ _ h1) (f _ _ h2) (f _ _ h3) (f _ _ h4) (f _ _ h5) (Nat.le_trans (g9 hl) (by decide)) h
 | @proc n ts _ ih =>
  intro hl d v σ Q X ht f h
  have hp:=og (m:=99998) hl
  exact ht.inv fun p pj t tj n k xs i h1 h2 h3 h4 h5 hx=>i.ob f fun j o=>xY o f hx (Nat.le_trans hp.2.1 (by decide)) (fun hk=>cV (List.length_map ..).symm (f _ _ h1) (f _ _ h2) (f _ _ h3) (f _ _ h4) (f _ _ h5) ((List.length_map ..).symm▸hx.1▸Nat.le_trans hp.2.1 (by decide)) hk) (fun t m {v σ Q}=>ih t m (Nat.le_trans (hp.1 t m) (by decide))) h
end
structure kV(σ:List O)(ri rj L:Nat):Prop where
 i:σ[ri]? = some (.inst 9 rj)
 j:σ[rj]? = some (.attrs [(A5,.int (L:Int))])
noncomputable def cq:List Tok→Nat
 | []=>0
 | t :: ts=>(d5 t).length+1+cq ts
theorem fe:∀ {ts:List Tok},ts.length≤cq ts
 | []=>Nat.le_refl _
 | t :: ts=>by
  have:=fe (ts:=ts)
  show ts.length+1≤_+1+cq ts;omega
theorem qr:∀ {ts:List Tok},cq ts≤(aA [32] (prts ts)).length+1
 | []=>Nat.zero_le _
 | [t]=>Nat.le_refl _
 | t :: u :: ts=>by
  have:=qr (ts:=u :: ts)
  show _+1+cq (u :: ts)≤(d5 t++[32]++aA [32] (prts (u :: ts))).length+1
  rw [List.length_append,List.length_append,List.length_singleton];omega
section
variable{d v j ri rj L k:Nat}{σ σ':List O}{Q:ag}{X:ak}{Z:Fr}{t:Tok}{pk:Bool}{x dv rv:V}{e:Bool}{a:Int}{w:ae}
theorem kV.go(r:kV σ ri rj L)(g:Ge σ σ'):kV σ' ri rj L:=⟨g _ _ r.i,g _ _ r.j⟩
theorem BQ{m:Nat}(r:kV σ ri rj L)(hm:m+1≤L)(h:∀ σ',aS [rj] σ σ'→kV σ' ri rj (L - (m+1))→Q (.bool true) σ'):Call (d+1) jO [.ref ri,.int m] σ Q X:=by
 have r2:kV (σ.set rj (.attrs [(A5,.int (L - (m+1):Nat))])) ri rj (L - (m+1)):=⟨aN r.i (a7 r.j r.i nofun),bk r.j⟩
 exact .go dZ rfl rfl rfl rfl <| .val r.i r.j rfl rfl rfl <| .add rfl <| .sub (n:=(L - (m+1):Nat)) (Int.ofNat_sub hm).symm <| .mk r.i r.j rfl rfl rfl rfl <| .val r2.i r2.j rfl rfl rfl <| .ge (fun _=>h _ (aS.refl.put (.head _)) r2) fun q=>absurd (Int.natCast_nonneg _) q
theorem de(o:Ob σ v j (.str k) x e a)(h1:k=9∨k=10→Q (.bool true) σ)(h2:¬(k=9∨k=10)→Q (.bool false) σ):Call (d+1) tx [.ref v] σ Q X :=
 .go jR rfl rfl rfl rfl <| .val o.i o.d rfl rfl rfl <| .eqS (fun q=>h1 (.inl q)) fun q=>.val o.i o.d rfl rfl rfl <| .eqS (fun q=>h1 (.inr q)) fun q'=>h2 fun z=>z.elim q q'
theorem oX(o:Ob σ v j (.str k) x e a)(h1:k=26∨k=27)(h:Q (.bool true) σ):Call (d+1) pM [.ref v] σ Q X :=
 .go gY rfl rfl rfl rfl <| .val o.i o.d rfl rfl rfl <| .eqS (fun _=>h) fun q=>.val o.i o.d rfl rfl rfl <| .eqS (fun _=>h) fun q'=>absurd h1 fun z=>z.elim q q'
theorem n8(o:Ob σ v j (.str k) x e a)(hk:k≠28)(ha:2≤a)(h:Q (.bool true) σ):Call (d+2) v8 [.ref v] σ Q X :=
 .go lD rfl rfl rfl rfl <| .go jK rfl rfl rfl rfl <| .val o.i o.d rfl rfl rfl <| .eqS (fun z=>absurd z hk) fun _=>.val o.i o.d rfl rfl rfl <| .ge (fun _=>h) fun q=>absurd ha q
theorem DZ{n:Int}(o:Ob σ v j (.str 9) (.int n) false 3)(hn:n.natAbs < 10 ^ 40)(h:∀ σ',Ge σ σ'→Q (.bytes (cg n)) σ'):Call (d+4) b7 [.ref v,dv,rv] σ Q X :=
 .go bZ rfl rfl rfl rfl <| de o (fun _=>.val o.i o.d rfl rfl rfl <| .val o.i o.d rfl rfl rfl <| qH hn h) fun z=>absurd (.inl rfl) z
theorem zd{n:Int}(o:Ob σ v j (.str 10) (.int n) false 3)(hn:n.natAbs < 10 ^ 40)(h:∀ σ',Ge σ σ'→Q (.bytes (eX n)) σ'):Call (d+4) b7 [.ref v,dv,rv] σ Q X :=
 .go bZ rfl rfl rfl rfl <| de o (fun _=>.val o.i o.d rfl rfl rfl <| .val o.i o.d rfl rfl rfl <| pD hn h) fun z=>absurd (.inr rfl) z
theorem qE(o:Ob σ v j (.str 23) (.bytes w) e 3)(hw:w.length≤100000)(h:Q (.bytes (match e with | true=>w | false=>47 :: w)) σ):Call (d+4) b7 [.ref v,dv,rv] σ Q X:=by
 refine .go bZ rfl rfl rfl rfl <| de o (fun z=>absurd z (by decide)) fun _=>.val o.i o.d rfl rfl rfl <| .eqS (fun z=>nomatch z) fun _=>.val o.i o.d rfl rfl rfl <| .eqS (fun _=>.val o.i o.d rfl rfl rfl ?_) fun z=>absurd rfl z
 cases e with
 | true=>exact .val o.i o.d rfl rfl rfl h
 | false=>exact .val o.i o.d rfl rfl rfl <| .cat (by show 1+_≤_;omega) rfl h
theorem DR{p:Nat}(o:Ob σ v j (.str 25) (.ref p) false 3)(hw:w.length≤200000)(h5:∀ {K:ag},(∀ σ',Ge σ σ'→K (.bytes w) σ')→Call (d+3) cU [.ref p] σ K X)(h:∀ σ',Ge σ σ'→Q (.bytes (BN w)) σ'):Call (d+4) b7 [.ref v,dv,rv] σ Q X :=
 .go bZ rfl rfl rfl rfl <| de o (fun z=>absurd z (by decide)) fun _=>.val o.i o.d rfl rfl rfl <| .eqS (fun z=>nomatch z) fun _=>.val o.i o.d rfl rfl rfl <| .eqS (fun z=>nomatch z) fun _=>.val o.i o.d rfl rfl rfl <| .eqS (fun z=>nomatch z) fun _=>.val o.i o.d rfl rfl rfl <| .eqS (fun _=>n8 o (by decide) (by decide) <| .val o.i o.d rfl rfl rfl <| h5 fun σ' g=>nL hw fun σ2 g2=>h _ (g.trans g2)) fun z=>absurd rfl z
theorem zY(hk:k=26∨k=27)(o:Ob σ v j (.str k) x true a)(h:vcEs (Call (d+3)) [.var 1,.ife (.cmp (.var 2) .is (.cst (.none))) (.call (.cst (.cls 9)) []) (.var 2)] [some (.ref v),some dv,some rv] σ (fun vs σ=>Call (d+3) lF (.ref v :: vs) σ Q X) X):Call (d+4) b7 [.ref v,dv,rv] σ Q X :=
 .go bZ rfl rfl rfl rfl <| de o (fun z=>absurd z (by rcases hk with rfl | rfl<;>decide)) fun _=>.val o.i o.d rfl rfl rfl <| .eqS (fun z=>absurd z (by rcases hk with rfl | rfl<;>decide)) fun _=>.val o.i o.d rfl rfl rfl <| .eqS (fun z=>absurd z (by rcases hk with rfl | rfl<;>decide)) fun _=>.val o.i o.d rfl rfl rfl <| .eqS (fun z=>absurd z (by rcases hk with rfl | rfl<;>decide)) fun _=>.val o.i o.d rfl rfl rfl <| .eqS (fun z=>absurd z (by rcases hk with rfl | rfl<;>decide)) fun _=>oX o hk h
noncomputable def Wr(Z:Fr)(m:Nat)(dp:Int)(t:Tok):Prop:=∀ {v ri rj L:Nat} {σ:List O} {Q:ag} {X:ak},Th Z v t→Fz Z σ→Z rj=none→kV σ ri rj L→(d5 t).length≤L →
 (∀ σ' L',aS [rj] σ σ'→kV σ' ri rj L'→L≤L'+(d5 t).length→Q (.bytes (d5 t)) σ')→Call m b7 [.ref v,.int dp,.ref ri] σ Q X
theorem C7{QL:aL}{i:Nat}{ys:List V}{dp dp1:Int}{e0:Option V}{ts:List Tok}(hd:dp - 1=dp1)(hz:Z rj=none)(hi:σ[i]? = some (.list ys))(hj:i≠rj)(f:Fz Z σ)(ih:∀ t∈ts,Wr Z d dp1 t) :
 ∀ (xs:List Nat) (us:List Tok) (acc:List V) (σ':List O) (L:Nat),(∀ u∈us,u∈ts)→tS Z xs us→aS [rj] σ σ'→kV σ' ri rj L→cq us≤L+us.length→acc.length+xs.length≤1000000→(∀ σ' L',aS [rj] σ σ'→kV σ' ri rj L'→L+us.length≤L'+cq us→QL (acc++(prts us).map .bytes) σ') →
  cF (aR false [4]) (vcBt (Call d) true []) (bW (Call d) (.call (.cst (.fn 84)) [.var 4,.bin .sub (.var 1) (.cst (.int 1)),.var 2])) (fun σ'=>σ'[i]? = some (.list ys)) [e0,some (.int dp),some (.ref ri),none,none] QL (xs.map .ref) acc σ':=by
 have live:∀ {σ'},aS [rj] σ σ'→σ'[i]? = some (.list ys):=fun g=>g _ _ hi fun m=>hj (List.mem_singleton.mp m)
 intro xs
 induction xs with
 | nil =>
  intro us acc σ' L hu ht g r hL hl h
  cases List.eq_nil_of_length_eq_zero ht.1.symm
  exact ⟨live g,(List.append_nil acc)▸(show QL (acc++[]) _ from h _ _ g r (Nat.le_refl _))⟩
 | cons x xs ih2 =>
  intro us acc σ' L hu ht g r hL hl h
  cases us with
  | nil=>exact nomatch ht.1
  | cons u us =>
   have hL:(d5 u).length+1+cq us≤L+(us.length+1):=hL
   have pl:=fe (ts:=us)
   exact ⟨live g,_,rfl,.sub hd <| ih u (hu u (.head _)) (ht.2 0 x u rfl rfl) (f.keep g fun s m=>List.mem_singleton.mp m▸hz) hz r (by omega) fun σ2 L2 k2 r2 hL2=>⟨Nat.le_trans (Nat.le_add_right ..) hl,ih2 us _ _ L2 (fun y m=>hu y (.tail _ m)) ⟨Nat.succ.inj ht.1,fun i x t e e'=>ht.2 (i+1) x t e e'⟩ (g.trans k2) r2 (by omega) (by rw [List.length_append];exact Nat.add_right_comm ..▸hl) fun σ3 L3 g3 r3 hL3=>by
    rw [List.append_assoc]
    exact h σ3 L3 g3 r3 (by show L+(us.length+1)≤L3+((d5 u).length+1+cq us);omega)⟩⟩
theorem IC{L P t:Nat}(h:P+1≤L)(h2:t≤P):P≤L - (t+1)+t:=Nat.le_of_succ_le_succ (Nat.le_trans h (Nat.le_of_eq (Nat.sub_add_cancel (Nat.le_trans (Nat.succ_le_succ h2) h)).symm))
theorem lg{p:Nat}{ts:List Tok}{xs:List Nat}{dp dp1:Int}(o:Ob σ v j (.str k) (.ref p) true a)(hk:k≠28)(ha:2≤a)(f:Fz Z σ)(hz:Z rj=none)(hx:tS Z xs ts)(hd0:0 < dp)(hd:dp - 1=dp1)(hl:(d5 (.proc pk ts)).length≤100000)
 {pj:Nat} {sp:List (Nat×V)} (h1:σ[p]? = some (.inst 4 pj)) (h2:σ[pj]? = some (.attrs sp)) (hn:sp.lookup 22=some (.int xs.length)) (hs:∀ {σ' K},aS [rj] σ σ'→K (.ref σ'.length) (σ'++[.list (xs.map .ref)])→Call (d+3) cX [.ref p] σ' K X)
 (ih:∀ t∈ts,Wr Z (d+3) dp1 t) (r:kV σ ri rj L) (hL:(d5 (.proc pk ts)).length≤L) (h:∀ σ' L',aS [rj] σ σ'→kV σ' ri rj L'→L≤L'+(d5 (.proc pk ts)).length→Q (.bytes (d5 (.proc pk ts))) σ'):Call (d+4) lF [.ref v,.int dp,.ref ri] σ Q X:=by
 have pe:(d5 (.proc pk ts)).length=(aA [32] (prts ts)).length+2:=by show _+1=_;rw [List.length_append];rfl
 have pj:=qr (ts:=ts)
 have pl:=fe (ts:=ts)
 have xl:xs.length=ts.length:=hx.1
 have pp:cq ts+1≤(d5 (.proc pk ts)).length:=pe▸Nat.succ_le_succ pj
 have xx:xs.length≤cq ts:=xl▸pl
 refine .go j9 rfl rfl rfl rfl <| n8 o hk ha <| .le (fun q=>absurd hd0 (Int.not_lt.mpr q)) fun _=>.own r.i r.j rfl rfl <| .val o.i o.d rfl rfl rfl <| .val h1 h2 hn rfl rfl <| BQ r (Nat.le_trans (Nat.succ_le_succ xx) (Nat.le_trans pp hL)) fun σ1 k1 r1=>?_
 have nj:∀ {b:Nat} {es:List (Nat×V)},es.length≠1→σ[b]? = some (.attrs es)→b∉[rj]:=fun hn e m=>hn (by have:=e;rw [List.mem_singleton.mp m,r.j] at this;cases this;rfl)
 have o1:Ob σ1 v j (.str k) (.ref p) true a:=⟨k1 _ _ o.i fun m=>a7 r.j o.i nofun (List.mem_singleton.mp m).symm,k1 _ _ o.d (nj (es:=cA _ _ _ _) (show 4≠1 by decide) o.d)⟩
 refine .val o1.i o1.d rfl rfl rfl <| hs k1 <| .plainL aa (by rw [List.length_map];omega) <| C7 hd hz aa (Nat.ne_of_gt (bm r1.j)) (fun i o e=>ac (f.keep k1 (fun s m=>List.mem_singleton.mp m▸hz) i o e)) ih xs ts [] _ _ (fun _ m=>m) hx .refl (r1.go .a1) (Nat.le_trans (IC (Nat.le_trans pp hL) xx) (Nat.le_of_eq (congrArg _ xl))) (by show 0+_≤_;omega) fun σ2 L2 k2 r2 hL2=>?_
 have o2:Ob σ2 v j (.str k) (.ref p) true a:=⟨k2 _ _ (ac o1.i) fun m=>a7 r.j o.i nofun (List.mem_singleton.mp m).symm,k2 _ _ (ac o1.d) (nj (es:=cA _ _ _ _) (show 4≠1 by decide) o.d)⟩
 have o3:Ob (σ2++[.list ([]++(prts ts).map .bytes)]) v j (.str k) (.ref p) true a:=⟨ac o2.i,ac o2.d⟩
 refine .val o3.i o3.d rfl rfl rfl <| .join <| .join aa rfl (by rw [jL];omega) rfl (by omega) <| .cat (by show 1+_≤_;omega) rfl <| .cat (by show (aA [32] (prts ts)).length+1+1≤_;omega) rfl <| h _ L2 ((k1.trans (.trans .app k2)).trans .app) (r2.go .a1) (Nat.le_trans (Nat.sub_le_iff_le_add.mp (Nat.le_refl (L - (xs.length+1)))) (Nat.le_trans (Nat.succ_le_succ (Nat.le_trans (Nat.le_of_eq (congrArg _ xl)) hL2)) (Nat.add_le_add_left pp L2)))
theorem yN(b:Bool):((match b with | true=>da | false=>eC)=26∨(match b with | true=>da | false=>eC)=27)∧(match b with | true=>da | false=>eC)≠28∧2≤(match b with | true=>2 | false=>3:Int):=by cases b<;>decide
theorem F9{n:Nat}(g:Gt pk n t):(d5 t).length≤100000→∀ {d:Nat} {dp:Int},(n:Int)≤dp→Wr Z (d+2 * n+4) dp t:=by
 have lM:∀ {m:Int},m.natAbs≤1000000000000000000000→m.natAbs < 10 ^ 40:=fun h=>Nat.lt_of_le_of_lt h (by decide)
 have le:∀ {L:Nat} {t:Tok},L≤L+(d5 t).length:=Nat.le_add_right ..
 induction g with
 | @int n k h=>exact fun _ {d dp} _ {v ri rj L σ Q X} ht f _ r _ hq=>ht.inv.ob f fun j o=>DZ o (Nat.lt_of_le_of_lt (Aj ‹_›) (by decide)) fun σ' g=>hq _ _ (.of g) (r.go g) le
 | real h=>exact fun _ {d dp} _ {v ri rj L σ Q X} ht f _ r _ hq=>ht.inv.ob f fun j o=>zd o (lM h) fun σ' g=>hq _ _ (.of g) (r.go g) le
 | name h hl=>exact fun _ {d dp} _ {v ri rj L σ Q X} ht f _ r _ hq=>ht.inv.ob f fun j o=>qE o (Nat.le_trans hl (by decide)) (hq _ _ .refl r le)
 | run h=>exact fun hl {d dp} _ {v ri rj L σ Q X} ht f _ r _ hq=>ht.inv.ob f fun j o=>qE o hl (hq _ _ .refl r le)
 | str=>exact fun hl {d dp} _ {v ri rj L σ Q X} ht f _ r _ hq=>ht.inv fun p pj t tj n k i h1 h2 h3 h4 h5=>i.ob f fun j o=>DR o (Nat.le_trans (g9 hl) (by decide)) (fun hk=>cR (f _ _ h1) (f _ _ h2) (f _ _ h3) (f _ _ h4) (f _ _ h5) (Nat.le_trans (g9 hl) (by decide)) hk) fun σ' g=>hq _ _ (.of g) (r.go g) le
 | @proc n ts _ ih =>
  intro hl d dp hd v ri rj L σ Q X ht f hz r hL hq
  have hp:=og (m:=99998) hl
  exact ht.inv fun p pj t tj m k xs i h1 h2 h3 h4 h5 hx=>i.ob f fun j o=>zY (yN pk).1 o <| .isN (r:=false) rfl <| lg (dp1:=dp - 1) o (yN pk).2.1 (yN pk).2.2 f hz hx (by omega) rfl hl (f _ _ h1) (f _ _ h2) rfl (fun k1 hk=>have f:=f.keep k1 (fun s m=>List.mem_singleton.mp m▸hz);cV (List.length_map ..).symm (f _ _ h1) (f _ _ h2) (f _ _ h3) (f _ _ h4) (f _ _ h5) ((List.length_map ..).symm▸hx.1▸Nat.le_trans hp.2.1 (by decide)) hk) (fun t m=>ih t m (Nat.le_trans (hp.1 t m) (by decide)) (by omega)) r hL hq
end
section
variable{d n v j:Nat}{σ σ':List O}{Q:ag}{X:ak}{Z:Fr}{t:Tok}{pk:Bool}
theorem z4(h:Call (d+1) b7 [.ref v,.int 20,.none] σ Q X):Call (d+1) b7 [.ref v] σ Q X:=by
 obtain ⟨F,e,h1,h2,h3,h4⟩:=zy.go h
 have:F=bZ:=Option.some.inj (e.symm.trans rfl)
 subst this
 exact .go bZ rfl rfl rfl rfl h4
theorem A1(h:∀ σ',Ge σ σ'→kV σ' (σ.length+1) σ.length 1048576→Q (.ref (σ.length+1)) σ'):t9 (Call (d+1)) 9 [] σ Q:=by
 have i:(σ++[O.attrs [],.inst 9 σ.length])[σ.length+1]? = some (.inst 9 σ.length):=zI rfl
 have j:(σ++[O.attrs [],.inst 9 σ.length])[σ.length]? = some (.attrs []):=zI (k:=0) rfl
 exact Call.go dM rfl rfl rfl rfl <| .mk i j rfl rfl rfl rfl ⟨rfl,h _ (Ge.a1.put (Nat.le_refl _)) ⟨aN i (Nat.ne_of_lt (Nat.lt_succ_self _)),bk j⟩⟩
theorem x6(g:Gt pk n t)(h20:n≤20)(hl:(d5 t).length≤100000)(ht:Th Z v t)(f:Fz Z σ)(h:∀ σ',Ge σ σ'→Q (.bytes (d5 t)) σ'):Call (d+2 * n+4) b7 [.ref v] σ Q X:=by
 refine z4 ?_
 have lM:∀ {m:Int},m.natAbs≤1000000000000000000000→m.natAbs < 10 ^ 40:=fun h=>Nat.lt_of_le_of_lt h (by decide)
 cases g with
 | @int n k hk=>exact ht.inv.ob f fun j o=>DZ o (Nat.lt_of_le_of_lt (Aj ‹_›) (by decide)) h
 | real hk=>exact ht.inv.ob f fun j o=>zd o (lM hk) h
 | name hk hw=>exact ht.inv.ob f fun j o=>qE o (Nat.le_trans hw (by decide)) (h _ .rfl)
 | run hk=>exact ht.inv.ob f fun j o=>qE o hl (h _ .rfl)
 | str=>exact ht.inv fun p pj t tj n k i h1 h2 h3 h4 h5=>i.ob f fun j o=>DR o (Nat.le_trans (g9 hl) (by decide)) (fun hk=>cR (f _ _ h1) (f _ _ h2) (f _ _ h3) (f _ _ h4) (f _ _ h5) (Nat.le_trans (g9 hl) (by decide)) hk) h
 | @proc n ts g =>
  have hp:=og (m:=99998) hl
  exact ht.inv fun p pj t tj m k xs i h1 h2 h3 h4 h5 hx=>i.ob f fun j o=>zY (yN pk).1 o <| .isN (r:=true) rfl <| A1 fun σ1 g1 r=>by
   have f1:Fz Z σ1:=fun i o e=>g1 _ _ (f i o e)
   have hz:Z σ.length=none:=f.none (Nat.le_refl _)
   exact lg (dp1:=19) ⟨g1 _ _ o.i,g1 _ _ o.d⟩ (yN pk).2.1 (yN pk).2.2 f1 hz hx (by decide) rfl hl (f1 _ _ h1) (f1 _ _ h2) rfl (fun k1 hk=>have f:=f1.keep k1 (fun s m=>List.mem_singleton.mp m▸hz);cV (List.length_map ..).symm (f _ _ h1) (f _ _ h2) (f _ _ h3) (f _ _ h4) (f _ _ h5) ((List.length_map ..).symm▸hx.1▸Nat.le_trans hp.2.1 (by decide)) hk) (fun t m=>F9 (g t m) (Nat.le_trans (hp.1 t m) (by decide)) (Int.ofNat_le.mpr (Nat.le_of_succ_le_succ h20))) r (Nat.le_trans hl (by decide)) fun σ' L' k _ _=>h _ fun i o e=>k _ _ (g1 _ _ e) fun m=>Nat.ne_of_lt (bm e) (List.mem_singleton.mp m)
end
section
variable{n:Nat}{pk:Bool}{t:Tok}
theorem l4.strR{a:Nat}:l4 n (.str a) (.str a) true:=(decide_eq_true rfl:decide (a=a)=true)▸l4.str
theorem l4.intR{a:Int}:l4 n (.int a) (.int a) true:=(decide_eq_true rfl:decide (a=a)=true)▸l4.int
theorem l4.bytesR{a:ae}:l4 n (.bytes a) (.bytes a) true:=(decide_eq_true rfl:decide (a=a)=true)▸l4.bytes
theorem EqVs.toks{ts:List Tok}(h:∀ t∈ts,l4 n (dH t) (dH t) true):EqVs n (tokVs ts) (tokVs ts) true:=by
 induction ts with
 | nil=>exact .nil
 | cons t ts ih=>exact .cons (h t (.head _)) (ih fun u m=>h u (.tail _ m))
theorem zm(g:Gt pk n t):∀ {m:Nat},l4 (m+2 * n+1) (dH t) (dH t) true:=by
 induction g with
 | int _=>exact .tup (.cons .strR (.cons .intR .nil))
 | real _=>exact .tup (.cons .strR (.cons .intR .nil))
 | name _ _=>exact .tup (.cons .strR (.cons .bytesR .nil))
 | run _=>exact .tup (.cons .strR (.cons .bytesR .nil))
 | str=>exact .tup (.cons .strR (.cons .bytesR .nil))
 | @proc n ts _ ih=>exact fun {m}=>.tup (n:=m+2 * n+2) (.cons .strR (.cons (.tup (.toks fun t k=>ih t k)) .nil))
end
noncomputable def Gu:ae→Prop
 | []=>True
 | c :: _=>c=32∨c=125
section
variable{w k x r:ae}{c:UInt8}{n:Nat}
theorem sd(hw:∀ c∈w,bo c=true)(hk:Gu k):ax (w++k)=w∧an false (aD (w++k))=an false k:=by
 induction w with
 | nil =>
  cases k with
  | nil=>exact ⟨rfl,rfl⟩
  | cons c r=>rcases hk with rfl | rfl<;>exact ⟨rfl,rfl⟩
 | cons c w ih =>
  have ih:=ih fun c m=>hw c (.tail _ m)
  rw [List.cons_append,ax,aD,hw c (.head _)]
  exact ⟨congrArg (c :: ·) ih.1,ih.2⟩
theorem sZ(r:ae):∀ w:ae,iD 1 ((w.map gF).flatten++41 :: r)=some (w,r)
 | []=>by
  show iD 1 (41 :: r)=_
  rw [eZ];rfl
 | c :: w=>by
  have ih:=sZ r w
  rw [List.map_cons,List.flatten_cons,List.append_assoc]
  generalize (w.map gF).flatten++41 :: r=x at *
  unfold gF
  cases e:qQ.lookup c with
  | some y =>
   have m:∀ p∈qQ,p.2=[92,p.2.getD 1 0]∧cj (p.2.getD 1 0)=false∧p.2.getD 1 0≠13∧p.2.getD 1 0≠10∧iy (p.2.getD 1 0)=p.1:=by decide
   obtain ⟨h1,h2,h3,h4,h5⟩:=m _ (a6 e)
   have h1:y=[92,y.getD 1 0]:=h1
   show iD 1 (y++x)=_
   rw [h1]
   show iD 1 (92 :: y.getD 1 0 :: x)=_
   rw [eZ,if_pos rfl,oP,h2]
   show pre (if y.getD 1 0=13 then ([],bj x) else if y.getD 1 0=10 then ([],x) else ([iy (y.getD 1 0)],x)).1 (iD 1 (if y.getD 1 0=13 then ([],bj x) else if y.getD 1 0=10 then ([],x) else ([iy (y.getD 1 0)],x)).2)=_
   rw [if_neg h3,if_neg h4,h5,ih];rfl
  | none =>
   have ne:∀ {b:UInt8},(qQ.lookup b).isSome=true→c≠b:=fun h z=>by rw [← z,e] at h;cases h
   show iD 1 (vk c++x)=_
   unfold vk
   by_cases q:32≤c.toNat∧c.toNat≤126
   · rw [if_pos q]
     show iD 1 (c :: x)=_
     rw [eZ,if_neg (ne rfl),if_neg (ne rfl),if_neg (ne rfl),if_neg (ne rfl),ih];rfl
   · rw [if_neg q]
     have hc:=c.toNat_lt
     have o:∀ {n:Nat},n < 8→cj (UInt8.ofNat (48+n))=true∧(UInt8.ofNat (48+n)).toNat - 48=n:=fun {n} hn=>by
      have:(UInt8.ofNat (48+n)).toNat=48+n:=UInt8.toNat_ofNat_of_lt' (Nat.lt_of_lt_of_le (Nat.add_lt_add_left hn 48) (by decide))
      exact ⟨decide_eq_true (by rw [this];omega),by rw [this,Nat.add_sub_cancel_left]⟩
     have a:=o (n:=c.toNat / 64) (Nat.lt_of_lt_of_le (Nat.div_lt_of_lt_mul (n:=64) (k:=4) hc) (by decide))
     have b:=o (n:=c.toNat / 8 % 8) (Nat.mod_lt _ (by decide))
     have d:=o (n:=c.toNat % 8) (Nat.mod_lt _ (by decide))
     show iD 1 (92 :: UInt8.ofNat (48+c.toNat / 64) :: UInt8.ofNat (48+c.toNat / 8 % 8) :: UInt8.ofNat (48+c.toNat % 8) :: x)=_
     rw [eZ,if_pos rfl,oP,a.1]
     show pre [UInt8.ofNat (bX 2 _ _).1] (iD 1 (bX 2 _ _).2)=_
     rw [bX,b.1]
     show pre [UInt8.ofNat (bX 1 _ _).1] (iD 1 (bX 1 _ _).2)=_
     rw [bX,d.1,a.2,b.2,d.2]
     show pre [UInt8.ofNat ((8 * (8 * (c.toNat / 64)+c.toNat / 8 % 8)+c.toNat % 8) % 256)] (iD 1 x)=_
     rw [show (8 * (8 * (c.toNat / 64)+c.toNat / 8 % 8)+c.toNat % 8) % 256=c.toNat from (congrArg (fun z=>(8 * (8 * z+c.toNat / 8 % 8)+c.toNat % 8) % 256) (Nat.div_div_eq_div_mul c.toNat 8 8).symm).trans (by rw [Nat.div_add_mod,Nat.div_add_mod];exact Nat.mod_eq_of_lt hc),UInt8.ofNat_toNat,ih];rfl
theorem Ae(h:n < 10):bx 10 (UInt8.ofNat (48+n))=true∧cf [UInt8.ofNat (48+n)]=[n]:=by
 have e:dV (UInt8.ofNat (48+n)).toNat=some n:=by
  rw [UInt8.toNat_ofNat_of_lt' (by show _ < 256;omega),dV,if_pos ⟨Nat.le_add_right ..,by omega⟩,Nat.add_sub_cancel_left]
 rw [bx,cf,List.map_singleton,e]
 exact ⟨decide_eq_true h,rfl⟩
theorem jW{a b:ae}:cf (a++b)=cf a++cf b:=List.map_append
theorem vB:∀ {k n:Nat},n < 10 ^ k→(∀ c∈dg k n,bx 10 c=true)∧(n≠0→val 10 (cf (dg k n).reverse)=n)
 | 0,n,h=>⟨nofun,fun z=>absurd (Nat.lt_one_iff.mp h) z⟩
 | k+1,n,h=>by
  have f:=Ae (Nat.mod_lt n (show 0 < 10 by decide))
  have ih:=vB (k:=k) (n:=n / 10) (Nat.div_lt_of_lt_mul (Nat.pow_succ'▸h))
  rw [dg,List.reverse_cons,jW,f.2,sg]
  by_cases q:n < 10
  · rw [if_pos q]
    exact ⟨fun c m=>List.mem_singleton.mp m▸f.1,fun _=>by show 0 * 10+n % 10=n;rw [Nat.zero_mul,Nat.zero_add];exact Nat.mod_eq_of_lt q⟩
  · rw [if_neg q]
    exact ⟨fun c m=>(List.mem_cons.mp m).elim (fun e=>e▸f.1) (ih.1 c),fun _=>by rw [ih.2 fun w=>q ((Nat.div_eq_zero_iff_lt (by decide)).mp w)];exact Nat.div_add_mod' n 10⟩
theorem mi(h:n < 10 ^ 40):∀ c∈eS n,bx 10 c=true:=fun c m=>(vB h).1 c (List.mem_reverse.mp m)
theorem ng:eS n≠[]:=fun z=>nomatch List.reverse_eq_nil_iff.mp z
theorem wV(h:n < 10 ^ 40):val 10 (cf (eS n))=n:=by
 by_cases q:n=0
 · subst q;rfl
 · exact (vB h).2 q
theorem Al(h:n < 10 ^ 40):aW (eS n) 10=some n:=by rw [aW,if_pos ⟨ng,List.all_eq_true.mpr (mi h)⟩,wV h]
noncomputable def H7(c:UInt8):Prop:=bo c=true∧c≠35∧c≠43∧c≠45∧bg c=false∧gC c=false
theorem mu(h:bx 10 c=true):H7 c:=by
 have l:=(mZ h).2
 have e:=(mZ h).1
 generalize (dV c.toNat).getD 0=n at *
 have hc:c.toNat=48+n:=by
  unfold dV at e
  by_cases q:48≤c.toNat∧c.toNat≤57
  · rw [if_pos q] at e;exact (Nat.add_sub_cancel' q.1).symm.trans (congrArg (48+·) (Option.some.inj e))
  rw [if_neg q] at e
  by_cases q:65≤c.toNat∧c.toNat≤90
  · rw [if_pos q] at e;exact absurd l (Nat.not_lt.mpr (Option.some.inj e▸Nat.le_sub_of_add_le q.1))
  rw [if_neg q] at e
  by_cases q:97≤c.toNat∧c.toNat≤122
  · rw [if_pos q] at e;exact absurd l (Nat.not_lt.mpr (Option.some.inj e▸Nat.le_sub_of_add_le q.1))
  · rw [if_neg q] at e;cases e
 have m:c∈(List.range 10).map fun i=>UInt8.ofNat (48+i):=List.mem_map.mpr ⟨n,List.mem_range.mpr l,by rw [← hc,UInt8.ofNat_toNat]⟩
 have:∀ x∈(List.range 10).map fun i=>UInt8.ofNat (48+i),bo x=true∧x≠35∧x≠43∧x≠45∧bg x=false∧gC x=false:=by decide
 exact this c m
end
section
variable{w k x r y D:ae}{c a:UInt8}{n:Nat}{m:Int}{p:UInt8→Bool}
theorem x4(h1:a≠43)(h2:a≠45):aP (qT m++a :: r)=a :: r∧gi (qT m++a :: r)=decide (m < 0):=by
 unfold qT
 by_cases q:m < 0
 · rw [if_pos q,decide_eq_true q];exact ⟨rfl,rfl⟩
 · rw [if_neg q,decide_eq_false q]
   have s:gy (a :: r)=false:=by
    show (decide ([43]=[a])||(decide ([45]=[a])||false))=false
    rw [decide_eq_false fun z=>h1 (List.cons.inj z).1.symm,decide_eq_false fun z=>h2 (List.cons.inj z).1.symm];rfl
   exact ⟨by show aP (a :: r)=_;rw [aP,s];rfl,decide_eq_false fun z=>h2 (List.cons.inj z).1⟩
theorem D4(hm:m.natAbs=n):dI (decide (m < 0)) n=m:=by
 by_cases q:m < 0
 · rw [decide_eq_true q];exact hm▸(congrArg Neg.neg (Int.ofNat_natAbs_of_nonpos (Int.le_of_lt q))).trans (Int.neg_neg m)
 · rw [decide_eq_false q];exact hm▸Int.natAbs_of_nonneg (Int.not_lt.mp q)
theorem AY(hD:∀ c∈D,c≠35∧c≠43∧c≠45)(h:D≠[]):bq (qT m++D)=match aW D 10 with | some n=>g6 (dI (decide (m < 0)) n) | none=>cN D (decide (m < 0)):=by
 cases D with
 | nil=>exact absurd rfl h
 | cons a r =>
  have ha:=hD a (.head _)
  have s:=x4 (m:=m) (r:=r) ha.2.1 ha.2.2
  have c35:(qT m++a :: r).contains 35=false:=Bool.eq_false_iff.mpr fun z=>(List.mem_append.mp (List.contains_iff_mem.mp z)).elim (fun z=>by
   unfold qT at z
   by_cases q:m < 0
   · rw [if_pos q] at z;exact nomatch List.mem_singleton.mp z
   · rw [if_neg q] at z;cases z) fun z=>(hD 35 z).1 rfl
  rw [bq,if_neg (by rw [c35];decide),s.1,s.2]<;>rfl
theorem F8(h:bx 10 c=true):c≠35∧c≠43∧c≠45:=have f:=mu h;⟨f.2.1,f.2.2.1,f.2.2.2.1⟩
theorem vt(h:-2147483648≤m∧m≤2147483647):bq (cg m) = .int m:=by
 have hn:m.natAbs < 10 ^ 40:=Nat.lt_of_le_of_lt (Aj ‹_›) (by decide)
 rw [cg,AY (fun c m=>F8 (mi hn c m)) ng,Al hn]
 show g6 _=_
 rw [D4 rfl,g6,if_pos h]
noncomputable def rz:Nat→Nat→ae
 | 0,_=>[]
 | k+1,r=>UInt8.ofNat (48+r % 10) :: rz k (r / 10)
theorem Aa:∀ {k r j:Nat},r < 10 ^ k→dg (k+j+1) (10 ^ k+r)=rz k r++[49]
 | 0,r,j,h=>by cases Nat.lt_one_iff.mp h;rw [Nat.zero_add];rfl
 | k+1,r,j,h=>by
  have ih:=Aa (k:=k) (r:=r / 10) (j:=j) (Nat.div_lt_of_lt_mul (Nat.pow_succ'▸h))
  have hp:=Nat.pow_pos (n:=k) (show 0 < 10 by decide)
  rw [show k+1+j+1=(k+j+1)+1 from congrArg (·+1) (Nat.add_right_comm ..),dg,Nat.pow_succ,if_neg (Nat.not_lt.mpr (Nat.le_trans (Nat.le_mul_of_pos_left 10 hp) (Nat.le_add_right ..))),Nat.add_comm (10 ^ k * 10) r,Nat.add_mul_div_right _ _ (by decide),Nat.add_comm (r / 10),ih,Nat.add_mul_mod_self_right];rfl
theorem sP:∀ {k r:Nat},r < 10 ^ k→(∀ c∈rz k r,bx 10 c=true)∧val 10 (cf (rz k r).reverse)=r∧(rz k r).length=k
 | 0,r,h=>⟨nofun,(Nat.lt_one_iff.mp h).symm,rfl⟩
 | k+1,r,h=>by
  have f:=Ae (Nat.mod_lt r (show 0 < 10 by decide))
  have ih:=sP (k:=k) (r:=r / 10) (Nat.div_lt_of_lt_mul (Nat.pow_succ'▸h))
  rw [rz,List.reverse_cons,jW,f.2,sg,ih.2.1,List.length_cons,ih.2.2]
  exact ⟨fun c m=>(List.mem_cons.mp m).elim (fun e=>e▸f.1) (ih.1 c),Nat.div_add_mod' r 10,rfl⟩
theorem Hw(h:n < 1000000):(eS (1000000+n)).drop 1=(rz 6 n).reverse:=by
 have:=Aa (k:=6) (j:=33) h
 rw [eS,show dg 40 (1000000+n)=rz 6 n++[49] from this,List.reverse_append];rfl
theorem qv{n:Nat}:∀ {x:ae},∃ k,x=gT n x++List.replicate k 48∧(x≠[]→gT n x≠[]):=by
 induction n with
 | zero=>exact fun {x}=>⟨0,(List.append_nil x).symm,id⟩
 | succ n ih =>
  intro x
  rw [gT]
  by_cases q:1 < x.length∧x.getLast? = some 48
  · rw [if_pos q]
    obtain ⟨k,e,h⟩:=ih (x:=x.dropLast)
    refine ⟨k+1,?_,fun _=>h fun z=>by have:=congrArg List.length z;rw [List.length_dropLast] at this;have:=q.1;rw [List.length_nil] at *;omega⟩
    have ex:x=x.dropLast++[48]:=by
     obtain ⟨ys,e⟩:=List.getLast?_eq_some_iff.mp q.2
     rw [e,List.dropLast_concat]
    rw [List.replicate_succ',← List.append_assoc,← e];exact ex
  · rw [if_neg q];exact ⟨0,(List.append_nil x).symm,id⟩
theorem A2(h:∀ c∈x,p c=false):aj p x=(x,none):=by
 induction x with
 | nil=>rfl
 | cons c x ih=>rw [aj,h c (.head _),ih fun c m=>h c (.tail _ m)]
theorem AO(h:∀ c∈x,p c=false)(hc:p c=true):aj p (x++c :: y)=(x,some y):=by
 induction x with
 | nil=>show aj p (c :: y)=_;rw [aj,hc]
 | cons a x ih=>rw [List.cons_append,aj,h a (.head _),ih fun c m=>h c (.tail _ m)]
theorem gH:∀ {k:Nat},val 10 (cf (List.replicate k 48))=0∧(cf (List.replicate k 48)).length=k
 | 0=>⟨rfl,rfl⟩
 | k+1=>by
  have ih:=gH (k:=k)
  exact ⟨by show 0 * _+val 10 (cf (List.replicate k 48))=0;rw [Nat.zero_mul,ih.1],congrArg (·+1) ih.2⟩
theorem uQ(hm:m.natAbs≤1000000000000000000000):bq (eX m) = .real m:=by
 have hr:m.natAbs % 1000000 < 1000000:=Nat.mod_lt _ (by decide)
 have hW:m.natAbs / 1000000 < 10 ^ 40:=Nat.lt_of_le_of_lt (Nat.div_le_self ..) (Nat.lt_of_le_of_lt hm (by decide))
 have eN:=Nat.div_add_mod m.natAbs 1000000
 have f:=mi hW
 have pv:=sP (k:=6) hr
 have hv:=wV hW
 have ne:=ng (n:=m.natAbs / 1000000)
 unfold eX
 rw [Hw hr]
 obtain ⟨z,e,hT⟩:=qv (n:=40) (x:=(rz 6 (m.natAbs % 1000000)).reverse)
 have hT:=hT fun w=>by have:=congrArg List.length w;rw [List.length_reverse,pv.2.2] at this;cases this
 generalize eS (m.natAbs / 1000000)=W at *
 generalize gT 40 _=T at *
 have e6:=congrArg List.length e
 rw [List.length_reverse,pv.2.2,List.length_append,List.length_replicate] at e6
 have g:∀ c∈T,bx 10 c=true:=fun c k=>pv.1 c (List.mem_reverse.mp (e▸List.mem_append_left _ k))
 have ev:val 10 (cf T) * 10 ^ z=m.natAbs % 1000000:=by
  have:=pv.2.1
  rw [e,jW,jz,gH.1,gH.2] at this
  exact this
 have all:∀ {Pr:UInt8→Prop},(∀ c,bx 10 c=true→Pr c)→Pr 46→∀ c∈W++46 :: T,Pr c:=fun h h4 c k=>(List.mem_append.mp k).elim (fun k=>h c (f c k)) fun k=>(List.mem_cons.mp k).elim (fun k=>k▸h4) fun k=>h c (g c k)
 rw [List.append_assoc,List.append_assoc]
 show bq (qT m++(W++46 :: T))=_
 rw [AY (all (fun c=>F8) (by decide)) (fun z=>nomatch (List.append_eq_nil_iff.mp z).2),xN (c:=46) (List.mem_append_right _ (.head _)) rfl]
 show cN _ _=_
 rw [cN,A2 (p:=gC) (all (fun c h=>(mu h).2.2.2.2.2) rfl),AO (p:=bg) (c:=46) (fun c k=>(mu (f c k)).2.2.2.2.1) rfl]
 show nW _ T.length (some 0) (aW (W++T) 10)=_
 rw [aW,if_pos ⟨fun w=>ne (List.append_eq_nil_iff.mp w).1,List.all_eq_true.mpr fun c k=>(List.mem_append.mp k).elim (f c) (g c)⟩,jW,jz,hv]
 show bG (dI _ _) (0 - T.length+6)=_
 have dl:(cf T).length=T.length:=List.length_map ..
 have ez:(0 - (T.length:Int)+6)=(z:Nat):=by omega
 have en:(m.natAbs / 1000000 * 10 ^ (cf T).length+val 10 (cf T)) * 10 ^ z=m.natAbs:=by
  rw [Nat.add_mul,ev,Nat.mul_assoc,← Nat.pow_add,dl,← e6,Nat.mul_comm];exact eN
 rw [ez,bG]
 have es:dI (decide (m < 0)) (m.natAbs / 1000000 * 10 ^ (cf T).length+val 10 (cf T)) * 10 ^ ((z:Nat):Int).toNat=m:=by
  rw [show ((10:Int) ^ ((z:Nat):Int).toNat)=((10 ^ z:Nat):Int) from (Int.natCast_pow 10 z).symm,xz,en,D4 rfl]
 by_cases q0:dI (decide (m < 0)) (m.natAbs / 1000000 * 10 ^ (cf T).length+val 10 (cf T))=0
 · rw [if_pos q0,← es,q0,Int.zero_mul]
 · rw [if_neg q0,if_pos (Int.natCast_nonneg z),if_neg (by omega),es,chk,if_pos hm]
end
noncomputable def ln:lR→Prop
 | .int k=>-2147483648≤k∧k≤2147483647
 | .real m=>m.natAbs≤1000000000000000000000
 | _=>True
section
variable{c:UInt8}{w k x r r':ae}{b pk:Bool}{n:Nat}{m t:Int}
theorem vT:ln (chk m):=by
 unfold chk
 by_cases q:m.natAbs≤1000000000000000000000
 · rw [if_pos q];exact q
 · rw [if_neg q];trivial
theorem yh:ln (bG m t):=by
 unfold bG
 by_cases q:m=0
 · rw [if_pos q];exact Nat.zero_le _
 rw [if_neg q]
 by_cases q:0≤t
 · rw [if_pos q]
   by_cases q:32 < t
   · rw [if_pos q];trivial
   · rw [if_neg q];exact vT
 · rw [if_neg q]
   by_cases q:(Builtin.Int.intBits m:Int) < -t
   · rw [if_pos q];exact Nat.zero_le _
   · rw [if_neg q];exact vT
theorem tW{k:Nat}:∀ {o:Option Int} {f:Option Nat},ln (nW b k o f)
 | none,_=>trivial
 | some _,none=>trivial
 | some _,some _=>yh
theorem AG:ln (cN x b):=by
 unfold cN
 cases (aj gC x).2 with
 | some y=>cases (aj bg (aj gC x).1).2<;>exact tW
 | none=>cases (aj bg (aj gC x).1).2 with
  | some y=>exact tW
  | none=>trivial
theorem x9:ln (bq x):=by
 unfold bq
 by_cases q:x.contains 35=true
 · rw [if_pos q,oK]
   cases aW (x.take (x.idxOf 35)) 10 with
   | none=>trivial
   | some b =>
    show ln (if x.idxOf 35≤2 then if 2≤b∧b≤36 then (match aW (x.drop (x.idxOf 35+1)) b with | none=>.no | some n=>if 4294967296≤n then .lim else .int (cQ n)) else .no else .no)
    by_cases q:x.idxOf 35≤2
    · rw [if_pos q]
      by_cases q:2≤b∧b≤36
      · rw [if_pos q]
        cases aW (x.drop (x.idxOf 35+1)) b with
        | none=>trivial
        | some n =>
         show ln (if 4294967296≤n then .lim else .int (cQ n))
         by_cases q:4294967296≤n
         · rw [if_pos q];trivial
         · rw [if_neg q]
           show -2147483648≤cQ n∧cQ n≤2147483647
           unfold cQ
           by_cases q2:n≤2147483647
           · rw [if_pos q2];omega
           · rw [if_neg q2];omega
      · rw [if_neg q];trivial
    · rw [if_neg q];trivial
 · rw [if_neg q]
   cases aW (aP x) 10 with
   | none=>exact AG
   | some n =>
    show ln (g6 _)
    unfold g6
    by_cases q:-2147483648≤dI (gi x) n∧dI (gi x) n≤2147483647
    · rw [if_pos q];exact q
    · rw [if_neg q];exact vT
theorem oh:∀ {x:ae},∀ c∈ax x,bo c=true
 | a :: x,c,h=>by
  rw [ax] at h
  cases e:bo a with
  | true=>rw [e] at h;exact (List.mem_cons.mp h).elim (fun z=>z▸e) (oh c)
  | false=>rw [e] at h;cases h
theorem wE{z:Option (ae×ae)}{t:Tok}(h:strR z = .ok t r):Gt pk n t:=by
 cases z with
 | none=>cases h
 | some y=>cases h;exact .str
theorem tH{t:Tok}(hc:uV c)(h1:c≠123)(h2:c≠125)(h:bQ c r = .ok t r'):Gt pk n t:=by
 unfold bQ at h
 by_cases q1:c=47
 · rw [if_pos q1,iM] at h
   by_cases q:r.head? = some 47
   · rw [if_pos q,qx] at h
     by_cases q:127 < (ax r.tail).length
     · rw [if_pos q] at h;cases h
     rw [if_neg q] at h
     by_cases q:ax r.tail=[97]
     · rw [if_pos q] at h;cases h;exact .int (by decide)
     · rw [if_neg q] at h;cases h
   · rw [if_neg q,qe] at h
     by_cases q:127 < (ax r).length
     · rw [if_pos q] at h;cases h
     · rw [if_neg q] at h;cases h;exact .name oh (Nat.not_lt.mp q)
 rw [if_neg q1] at h
 by_cases q2:c=40
 · rw [if_pos q2] at h;exact wE h
 rw [if_neg q2] at h
 by_cases q3:c=60
 · rw [if_pos q3,iV] at h
   by_cases q:r.head? = some 60
   · rw [if_pos q] at h;cases h;exact .run (.inl rfl)
   rw [if_neg q] at h
   by_cases q:r.head? = some 126
   · rw [if_pos q] at h;exact wE h
   · rw [if_neg q] at h;exact wE h
 rw [if_neg q3] at h
 by_cases q4:c=62
 · rw [if_pos q4,iN] at h
   by_cases q:r.head? = some 62
   · rw [if_pos q] at h;cases h;exact .run (.inr (.inl rfl))
   · rw [if_neg q] at h;cases h
 rw [if_neg q4] at h
 by_cases q5:c=91∨c=93
 · rw [if_pos q5] at h;cases h;exact .run (q5.elim (fun q=>q ▸ .inr (.inr (.inl rfl))) fun q=>q ▸ .inr (.inr (.inr (.inl rfl))))
 rw [if_neg q5] at h
 by_cases q6:c=41
 · rw [if_pos q6] at h;cases h
 rw [if_neg q6,lr] at h
 by_cases q:500 < (ax (c :: r)).length
 · rw [if_pos q] at h;cases h
 rw [if_neg q] at h
 have rg:=qI hc h1 h2 q1 q2 q3 q4 (fun z=>q5 (.inl z)) (fun z=>q5 (.inr z)) q6
 have ok:=x9 (x:=ax (c :: r))
 cases e:bq (ax (c :: r)) with
 | no =>
  rw [e,nh] at h
  by_cases q:127 < (ax (c :: r)).length
  · rw [if_pos q] at h;cases h
  · rw [if_neg q] at h;cases h
    exact .run (.inr (.inr (.inr (.inr ⟨by rw [ax,rg];exact nofun,oh,e,Nat.not_lt.mp q⟩))))
 | lim=>rw [e] at h;cases h
 | int n=>rw [e] at h ok;cases h;exact .int ok
 | real n=>rw [e] at h ok;cases h;exact .real ok
structure Bk(t:Tok)(x k:ae)(c:UInt8)(r r':ae):Prop where
 eq:x=c :: r
 fst:uV c
 no:c≠123∧c≠125
 tok:bQ c r = .ok t r'
 beg:an false r'=an false k
theorem Ag{t:Tok}(hw:∀ c∈w,bo c=true)(h0:w≠[])(hl:w.length≤500)(hk:Gu k)(h:∀ r,nh w r (bq w) = .ok t r):∃ c r r',Bk t (w++k) k c r r':=by
 cases w with
 | nil=>exact absurd rfl h0
 | cons c w =>
  have a:=sd hw hk
  have f:=qn (r:=w++k) (hw c (.head _))
  exact ⟨c,w++k,aD (c :: w++k),rfl,f.1,⟨f.2.1,f.2.2.1⟩,by rw [f.2.2.2,lr];show (if 500 < (ax (c :: w++k)).length then _ else nh (ax (c :: w++k)) _ (bq (ax (c :: w++k))))=_;rw [a.1,if_neg (Nat.not_lt.mpr hl)];exact h _,a.2⟩
end
section
variable{c:UInt8}{w k x r r':ae}{pk:Bool}{n:Nat}{m:Int}{t:Tok}{os:List (List Tok)}{acc:List Tok}
theorem mA{m:Int}:(qT m).length≤1:=by
 unfold qT
 by_cases q:m < 0
 · rw [if_pos q];exact Nat.le_refl 1
 · rw [if_neg q];exact Nat.zero_le _
theorem Ds:(cg m).length≤500:=by
 rw [cg,List.length_append]
 exact Nat.le_trans (Nat.add_le_add mA eF) (by decide:1+40≤500)
theorem BA:(eX m).length≤500:=by
 rw [eX,List.length_append,List.length_append,List.length_append]
 exact Nat.le_trans (Nat.add_le_add (Nat.add_le_add (Nat.add_le_add mA eF) (Nat.le_refl 1)) (Nat.le_trans pS (List.length_drop▸Nat.le_trans (Nat.sub_le ..) eF))) (by decide:1+40+1+40≤500)
theorem wN:∀ c∈qT m,bo c=true:=fun c h=>by
 unfold qT at h
 by_cases q:m < 0
 · rw [if_pos q] at h;rw [List.mem_singleton.mp h];rfl
 · rw [if_neg q] at h;cases h
theorem rS(h:n < 10 ^ 40):∀ c∈eS n,bo c=true:=fun c k=>(mu (mi h c k)).1
theorem Ar(h:m.natAbs≤1000000000000000000000):∀ c∈eX m,bo c=true:=fun c hc=>by
 unfold eX at hc
 have hr:m.natAbs % 1000000 < 1000000:=Nat.mod_lt _ (by decide)
 rcases List.mem_append.mp hc with hc | hc
 · rcases List.mem_append.mp hc with hc | hc
   · rcases List.mem_append.mp hc with hc | hc
     · exact wN c hc
     · exact rS (Nat.lt_of_le_of_lt (Nat.le_trans (Nat.div_le_self ..) h) (by decide)) c hc
   · rw [List.mem_singleton.mp hc];rfl
 · obtain ⟨z,e,-⟩:=qv (n:=40) (x:=(eS (1000000+m.natAbs % 1000000)).drop 1)
   exact rS (Nat.lt_of_lt_of_le (Nat.add_lt_add_left hr _) (by decide)) c (List.mem_of_mem_drop (e▸List.mem_append_left _ hc:c∈(eS (1000000+m.natAbs % 1000000)).drop 1))
noncomputable def th(pk:Bool)(os:List (List Tok))(x:ae):gZ:=aY pk (x.length+1) os x
theorem tZ(hf:∀ c r,x=c :: r→uV c)(h:x.length < n):aY pk n os x=th pk os x:=gG hf h (Nat.lt_succ_self _)
theorem rD(hc:uV c):th pk os (c :: r)=if c=123 then th pk ([] :: os) (an false r) else if c=125 then Eo pk (th pk) r os else FK (th pk) os (bQ c r):=by
 have ih:∀ {y:ae},y <:+ r→∀ os,aY pk (r.length+1) os (an false y)=th pk os (an false y):=fun hy os=>tZ (fun _ _=>aI _ _) (Nat.lt_succ_of_le (Nat.le_trans (az false _).length_le hy.length_le))
 show (if c=123 then _ else if c=125 then _ else _)=_
 by_cases q:c=123
 · rw [if_pos q,if_pos q];exact ih (List.suffix_refl _) _
 rw [if_neg q,if_neg q]
 by_cases q':c=125
 · rw [if_pos q',if_pos q']
   cases os with
   | nil=>rfl
   | cons o os=>exact mD (ih (List.suffix_refl _))
 rw [if_neg q',if_neg q']
 cases e:bQ c r with
 | err e=>rfl
 | ok t r'=>exact mD (ih (i6 hc q q' e).2)
theorem iW(h:uV c):an false (c :: r)=c :: r:=by rw [an,if_neg h.2,h.1];rfl
noncomputable def Hx(pk:Bool)(t:Tok):Prop:=∀ k,Gu k→an false (d5 t++k)=d5 t++k∧∃ r',an false r'=an false k∧∀ os,th pk os (d5 t++k)=oW (th pk) os t r'
theorem Bk.rt{x:ae}(b:Bk t x k c r r'):an false x=x∧∃ r',an false r'=an false k∧∀ os,th pk os x=oW (th pk) os t r':=by
 rw [b.eq]
 exact ⟨iW b.fst,r',b.beg,fun os=>by rw [rD b.fst,if_neg b.no.1,if_neg b.no.2,b.tok];rfl⟩
theorem wS:∀ {ts:List Tok},(∀ t∈ts,Hx pk t)→∀ {acc:List Tok} {os:List (List Tok)} {k:ae},Gu k→th pk (acc :: os) (an false (aA [32] (prts ts)++k))=th pk ((acc++ts) :: os) (an false k)
 | [],_,acc,os,k,_=>by rw [List.append_nil];rfl
 | [t],ht,acc,os,k,hk=>by
  obtain ⟨h1,r',e,h2⟩:=ht t (.head _) k hk
  show th pk (acc :: os) (an false (d5 t++k))=_
  rw [h1,h2]
  show th pk _ (an false r')=_
  rw [e]
 | t :: u :: ts,ht,acc,os,k,hk=>by
  have ih:=wS (ts:=u :: ts) (fun t m=>ht t (.tail _ m)) (acc:=acc++[t]) (os:=os) hk
  obtain ⟨h1,r',e,h2⟩:=ht t (.head _) (32 :: (aA [32] (prts (u :: ts))++k)) (.inl rfl)
  have ej:aA [32] (prts (t :: u :: ts))++k=d5 t++32 :: (aA [32] (prts (u :: ts))++k):=by
   show (d5 t++[32]++aA [32] (prts (u :: ts)))++k=_
   rw [List.append_assoc,List.append_assoc];rfl
  rw [ej,h1,h2]
  show th pk _ (an false r')=_
  rw [e]
  rw [List.append_assoc] at ih
  exact ih
theorem ET(g:Gt pk n t):Hx pk t:=by
 have rg:∀ {w k:ae} {t:Tok},(∀ c∈w,bo c=true)→w≠[]→w.length≤500→Gu k→(∀ r,nh w r (bq w) = .ok t r)→an false (w++k)=w++k∧∃ r',an false r'=an false k∧∀ os,th pk os (w++k)=oW (th pk) os t r':=fun hw h0 hl hk h=>by
  obtain ⟨c,r,r',b⟩:=Ag hw h0 hl hk h
  exact b.rt
 have f:∀ {c:UInt8},bE c=false→c≠37→uV c:=fun h h'=>⟨h,h'⟩
 induction g with
 | @int n m h =>
  have hn:m.natAbs < 10 ^ 40:=Nat.lt_of_le_of_lt (show m.natAbs≤2147483648 by omega) (by decide)
  exact fun k hk=>rg (w:=cg m) (fun c hc=>(List.mem_append.mp hc).elim (wN c) (rS hn c)) (fun z=>ng (List.append_eq_nil_iff.mp z).2) Ds hk fun r=>by rw [vt h];rfl
 | @real n m h =>
  exact fun k hk=>rg (w:=eX m) (Ar h) (fun z=>ng (List.append_eq_nil_iff.mp (List.append_eq_nil_iff.mp (List.append_eq_nil_iff.mp z).1).1).2) BA hk fun r=>by rw [uQ h];rfl
 | @name n w h hl =>
  intro k hk
  have a:=sd h hk
  refine Bk.rt (c:=47) (r:=w++k) (r':=aD (w++k)) ⟨rfl,f rfl (by decide),by decide,?_,a.2⟩
  rw [bQ,if_pos rfl,iM,if_neg,qe,a.1,if_neg (Nat.not_lt.mpr hl)]
  intro z
  cases w with
  | nil=>cases k with
   | nil=>cases z
   | cons b k=>have z:b=47:=Option.some.inj z;rcases hk with q | q<;>rw [q] at z<;>cases z
  | cons b w=>have z:b=47:=Option.some.inj z;have:=h b (.head _);rw [z] at this;cases this
 | @run n w h =>
  intro k hk
  rcases h with rfl | rfl | rfl | rfl | ⟨h1,h2,h3,h4⟩
  · exact Bk.rt (c:=60) (r:=60 :: k) (r':=k) ⟨rfl,f rfl (by decide),by decide,rfl,rfl⟩
  · exact Bk.rt (c:=62) (r:=62 :: k) (r':=k) ⟨rfl,f rfl (by decide),by decide,rfl,rfl⟩
  · exact Bk.rt (c:=91) (r:=k) (r':=k) ⟨rfl,f rfl (by decide),by decide,rfl,rfl⟩
  · exact Bk.rt (c:=93) (r:=k) (r':=k) ⟨rfl,f rfl (by decide),by decide,rfl,rfl⟩
  · exact rg (w:=w) h2 h1 (Nat.le_trans h4 (by decide)) hk fun r=>by rw [h3,nh,if_neg (Nat.not_lt.mpr h4)]
 | @str n w =>
  intro k hk
  refine Bk.rt (c:=40) (r:=(w.map gF).flatten++41 :: k) (r':=k) ⟨?_,f rfl (by decide),by decide,?_,rfl⟩
  · show 40 :: ((w.map gF).flatten++[41]++k)=_;rw [List.append_assoc];rfl
  · rw [bQ,if_neg (by decide),if_pos rfl,sZ];rfl
 | @proc n ts h ih =>
  intro k hk
  have e:d5 (.proc pk ts)++k=123 :: (aA [32] (prts ts)++125 :: k):=by show 123 :: (aA [32] (prts ts)++[125]++k)=_;rw [List.append_assoc];rfl
  rw [e]
  refine ⟨iW (f rfl (by decide)),k,rfl,fun os=>?_⟩
  rw [rD (f rfl (by decide)),if_pos rfl,wS ih (k:=125 :: k) (.inr rfl),iW (f rfl (by decide)),rD (f rfl (by decide)),if_neg (by decide),if_pos rfl];rfl
theorem qh:∀ {ts:List Tok},(∀ t∈ts,Hx pk t)→(th pk [] (an false (aA [32] (prts ts)))).1.map (·.1)=ts∧(th pk [] (an false (aA [32] (prts ts)))).2=none
 | [],_=>⟨rfl,rfl⟩
 | [t],ht=>by
  obtain ⟨h1,r',e,h2⟩:=ht t (.head _) [] trivial
  rw [List.append_nil] at h1 h2
  show (th pk [] (an false (d5 t))).1.map (·.1)=_∧(th pk [] (an false (d5 t))).2=_
  rw [h1,h2]
  show t :: (th pk [] (an false r')).1.map (·.1)=_∧(th pk [] (an false r')).2=_
  rw [e];exact ⟨rfl,rfl⟩
 | t :: u :: ts,ht=>by
  have ih:=qh (ts:=u :: ts) fun t m=>ht t (.tail _ m)
  obtain ⟨h1,r',e,h2⟩:=ht t (.head _) (32 :: aA [32] (prts (u :: ts))) (.inl rfl)
  have ej:aA [32] (prts (t :: u :: ts))=d5 t++32 :: aA [32] (prts (u :: ts)):=List.append_assoc ..
  rw [ej,h1,h2]
  show t :: (th pk [] (an false r')).1.map (·.1)=_∧(th pk [] (an false r')).2=_
  rw [e]
  exact ⟨congrArg (t :: ·) ih.1,ih.2⟩
end
noncomputable def c3(x:ae):Nat:=x.count 123
noncomputable def c5(x:ae):Nat:=x.count 125
noncomputable def Ah(pk:Bool)(m:Nat):List (List Tok)→Prop
 | []=>True
 | o :: os=>(∀ u∈o,Gt pk ((31 - (os.length+1+m)) / 2) u)∧Ah pk m os
noncomputable def DJ:List (List Tok)→Nat
 | []=>0
 | o :: os=>2+cq o+DJ os
section
variable{x y r r' all:ae}{c:UInt8}{pk:Bool}{n m m':Nat}{t:Tok}{os:List (List Tok)}{ts:List Tok}
theorem qG(h:x <:+ y):c3 x≤c3 y:=h.sublist.count_le _
theorem wv(h:x <:+ y):c5 x≤c5 y:=h.sublist.count_le _
theorem Gt.mono(g:Gt pk n t):∀ {m},n≤m→Gt pk m t:=by
 induction g with
 | int h=>exact fun _=>.int h
 | real h=>exact fun _=>.real h
 | name h hl=>exact fun _=>.name h hl
 | run h=>exact fun _=>.run h
 | str=>exact fun _=>.str
 | proc h ih =>
  intro m hm
  obtain ⟨m,rfl⟩:=Nat.exists_eq_add_of_le' (Nat.le_trans (Nat.le_add_left 1 _) hm)
  exact .proc fun t k=>ih t k (Nat.le_of_succ_le_succ hm)
theorem ku{k:Nat}(h:m'≤m):(31 - (k+m)) / 2≤(31 - (k+m')) / 2:=Nat.div_le_div_right (Nat.sub_le_sub_left (Nat.add_le_add_left h k) 31)
theorem Ah.mono(h:m'≤m):∀ {os:List (List Tok)},Ah pk m os→Ah pk m' os
 | [],_=>trivial
 | o :: os,k=>⟨fun u hu=>(k.1 u hu).mono (ku h),Ah.mono h k.2⟩
theorem tL:∀ {a b:List Tok},cq (a++b)=cq a+cq b
 | [],b=>(Nat.zero_add _).symm
 | t :: a,b=>by show _+1+cq (a++b)=_+1+cq a+_;rw [tL,Nat.add_assoc _ (cq a)]
theorem kQ:∀ {ts:List Tok},(aA [32] (prts ts)).length≤cq ts
 | []=>Nat.le_refl _
 | [t]=>Nat.le_succ _
 | t :: u :: ts=>by
  have:=kQ (ts:=u :: ts)
  show (d5 t++[32]++aA [32] (prts (u :: ts))).length≤_+1+cq (u :: ts)
  rw [List.length_append,List.length_append,List.length_singleton];omega
theorem A0(g:Gt pk 0 t):(d5 t).length≤4 * jx t+90:=by
 cases g with
 | @int _ k h =>
  show (cg k).length≤90
  rw [cg,List.length_append]
  exact Nat.le_trans (Nat.add_le_add mA eF) (by decide:1+40≤90)
 | @real _ k h =>
  show (eX k).length≤90
  rw [eX,List.length_append,List.length_append,List.length_append]
  exact Nat.le_trans (Nat.add_le_add (Nat.add_le_add (Nat.add_le_add mA eF) (Nat.le_refl 1)) (Nat.le_trans pS (List.length_drop▸Nat.le_trans (Nat.sub_le ..) eF))) (by decide:1+40+1+40≤90)
 | @name _ w h hl=>show w.length+1≤4 * w.length+90;omega
 | @run _ w h=>show w.length≤4 * w.length+90;omega
 | @str _ w =>
  have:=(mF (w:=w)).2
  show (40 :: ((w.map gF).flatten++[41])).length≤4 * w.length+90
  rw [List.length_cons,List.length_append,List.length_singleton];omega
structure Bd(pk:Bool)(y:gZ)(C:Nat):Prop where
 gt:∀ x∈y.1,Gt pk 15 x.1
 len:cq (y.1.map (·.1))≤C
theorem Bd.mono{y:gZ}{C D:Nat}(b:Bd pk y C)(h:C≤D):Bd pk y D:=⟨b.gt,Nat.le_trans b.len h⟩
theorem IA{a b d e:Nat}(h2:a+(b+1)≤31+d)(h3:e+1+d≤a):2+(e+b)≤31:=by
 refine Nat.le_of_add_le_add_right (b:=d) (Nat.le_trans ?_ h2)
 refine Nat.le_trans (Nat.le_of_eq ?_) (Nat.add_le_add_right h3 (b+1))
 rw [Nat.add_comm 2,Nat.add_right_comm (e+1) d,← Nat.add_assoc (e+1),Nat.add_right_comm e 1 b]
theorem yk{a b:Nat}(h:2+(a+b)≤31):(31 - (a+1+(b+1))) / 2+1≤(31 - (a+b)) / 2:=by
 rw [show a+1+(b+1)=a+b+2 from congrArg (·+1) (Nat.add_right_comm a 1 b),Nat.sub_add_eq,← Nat.add_div_right _ (by decide:0 < 2),Nat.sub_add_cancel (Nat.le_sub_of_add_le h)]
 exact Nat.le_refl _
theorem hU(hB:∀ x,x <:+ all→c3 all+c5 x≤31+c3 x):∀ {n:Nat} {os:List (List Tok)} {x:ae},x.length < n→(∀ c r,x=c :: r→uV c)→x <:+ all→os.length+c3 x≤c3 all→Ah pk (c5 x) os→Bd pk (aY pk n os x) (DJ os+120 * x.length)
 | 0,_,_,h,_,_,_,_=>absurd h (Nat.not_lt_zero _)
 | n+1,os,[],_,_,_,_,_=>by
  have e:(aY pk (n+1) os []).1=[]:=by cases os<;>rfl
  exact ⟨fun x m=>(by rw [e] at m;cases m),by rw [e];exact Nat.zero_le _⟩
 | n+1,os,c :: r,h,hf,hs,hc,ho=>by
  have hn:=Nat.lt_of_succ_lt_succ h
  have hr:=a8 hs
  have put:∀ {os:List (List Tok)} {t:Tok} {r':ae},r' <:+ r→os.length+c3 r'≤c3 all→Ah pk (c5 r') os→Gt pk ((31 - (os.length+c5 r')) / 2) t→Bd pk (oW (aY pk n) os t r') (DJ os+((d5 t).length+1)+120 * r'.length):=fun {os t r'} h1 h2 h3 h4=>by
   have b:=az false r'
   have bl:=b.length_le
   have b3:=qG b
   have b5:=wv b
   have hn:=Nat.lt_of_le_of_lt (Nat.le_trans bl h1.length_le) hn
   cases os with
   | nil =>
    have ih:=hU hB (os:=[]) hn (fun _ _=>aI _ _) (b.trans (h1.trans hr)) (Nat.le_trans (Nat.add_le_add_left b3 _) h2) trivial
    refine ⟨fun x m=>(List.mem_cons.mp m).elim (fun e=>e▸h4.mono (Nat.le_trans (Nat.div_le_div_right (Nat.sub_le ..)) (by decide:31 / 2≤15))) (ih.gt x),?_⟩
    show (d5 t).length+1+cq _≤0+_+_
    rw [Nat.zero_add]
    exact Nat.add_le_add_left (Nat.le_trans (Nat.le_trans ih.len (Nat.le_of_eq (Nat.zero_add _))) (Nat.mul_le_mul_left 120 bl)) _
   | cons o os =>
    have ih:=hU hB (os:=(o++[t]) :: os) hn (fun _ _=>aI _ _) (b.trans (h1.trans hr)) (Nat.le_trans (Nat.add_le_add_left b3 _) h2) ⟨fun u m=>(List.mem_append.mp m).elim (fun m=>(h3.1 u m).mono (ku b5)) fun m=>List.mem_singleton.mp m▸h4.mono (ku b5),Ah.mono b5 h3.2⟩
    refine ih.mono ?_
    show 2+cq (o++[t])+DJ os+_≤2+cq o+DJ os+_+_
    rw [tL,show cq [t]=(d5 t).length+1 from rfl,← Nat.add_assoc 2,Nat.add_right_comm (2+cq o)]
    exact Nat.add_le_add_left (Nat.mul_le_mul_left 120 bl) _
  have e3:c3 (c :: r)=c3 r+if c==123 then 1 else 0:=List.count_cons
  have e5:c5 (c :: r)=c5 r+if c==125 then 1 else 0:=List.count_cons
  have hb:=hB _ hs
  rw [aY]
  show Bd pk (if c=123 then _ else if c=125 then _ else _) _
  rw [List.length_cons]
  by_cases q:c=123
  · rw [if_pos q]
    rw [if_pos (beq_iff_eq.mpr q)] at e3
    have b:=az false r
    have bl:=b.length_le
    have b3:=qG b
    refine (hU hB (os:=[] :: os) (Nat.lt_of_le_of_lt bl hn) (fun _ _=>aI _ _) (b.trans hr) (by rw [e3] at hc;exact Nat.le_trans (Nat.le_trans (Nat.le_of_eq (Nat.add_right_comm ..)) (Nat.succ_le_succ (Nat.add_le_add_left b3 _))) hc) ⟨fun _ m=>(nomatch m),Ah.mono (Nat.le_trans (wv b) (e5▸Nat.le_add_right ..)) ho⟩).mono ?_
    show 2+0+DJ os+_≤_
    rw [Nat.add_right_comm,Nat.add_comm]
    exact Nat.add_le_add_left (Nat.le_trans (Nat.add_le_add (by decide:2+0≤120) (Nat.mul_le_mul_left 120 bl)) (Nat.le_of_eq (Nat.add_comm ..))) _
  rw [if_neg q]
  by_cases q':c=125
  · rw [if_pos q']
    rw [if_pos (beq_iff_eq.mpr q')] at e5
    cases os with
    | nil=>exact ⟨fun _ m=>(nomatch m),Nat.zero_le _⟩
    | cons o os =>
     rw [List.length_cons] at hc
     have jp:=kQ (ts:=o)
     have pe:(d5 (.proc pk o)).length=(aA [32] (prts o)).length+2:=by show _+1=_;rw [List.length_append];rfl
     refine (put (t:=.proc pk o) (List.suffix_refl r) (by omega) (Ah.mono (e5▸Nat.le_succ _) ho.2) (Gt.mono (.proc ho.1) (e5▸yk (IA (e5▸hb) hc)))).mono ?_
     show DJ os+_+_≤2+cq o+DJ os+_;omega
  rw [if_neg q']
  cases e:bQ c r with
  | err e=>exact ⟨fun _ m=>(nomatch m),Nat.zero_le _⟩
  | ok t r' =>
   have tl:=i6 (hf c r rfl) q q' e
   have l5:=wv tl.2
   have l3:=qG tl.2
   have fp:=A0 (tH (pk:=pk) (hf c r rfl) q q' e)
   have ll:=tl.2.length_le
   exact (put tl.2 (by omega) (Ah.mono (by omega) ho) (tH (hf c r rfl) q q' e)).mono (by omega)
end
structure uR(σ:List O)(D C:Nat)(z:Int)(cs:List Int):Prop where
 d:σ[D]? = some (.sdict [(mj,.ref C),(x8,.int z)])
 c:σ[C]? = some (.list (cs.map .int))
section
variable{d c i j D C:Nat}{σ σ':List O}{Q:ag}{X:ak}{z b:Int}{cs:List Int}{es es':List (Nat×V)}{all:ae}
theorem uR.go(h:uR σ D C z cs)(g:Ge σ σ'):uR σ' D C z cs:=⟨g _ _ h.d,g _ _ h.c⟩
theorem iU(h:uR σ D C z cs)(hb:0 < b)(h0:0≤z)(h1:z≤1000)(hc:cs.length≤63)(hq:∀ (n:Nat) σ',(n:Int) < b→aS [D] σ σ'→uR σ' D C (z+1) cs→Q (.int n) σ'):Call (d+1) vQ [.ref D,.int b] σ Q X:=by
 have d2:uR (σ.set D (.sdict [(mj,.ref C),(x8,.int (z+1))])) D C (z+1) cs:=⟨bk h.d,aN h.c (a7 h.d h.c nofun)⟩
 have k2:aS [D] σ (σ.set D (.sdict [(mj,.ref C),(x8,.int (z+1))])):=aS.refl.put (.head _)
 have cl:(cs.map V.int).length≤1000000:=(List.length_map ..).symm▸Nat.le_trans hc (by decide)
 have fin:∀ y:Int,Q (.int (y % b)) (σ.set D (.sdict [(mj,.ref C),(x8,.int (z+1))])):=fun y=>by
  have e2:=Int.emod_lt_of_pos y hb
  obtain ⟨n,hn⟩:=Int.eq_ofNat_of_zero_le (Int.emod_nonneg y (Int.ne_of_gt hb))
  rw [hn] at e2 ⊢
  exact hq n _ e2 k2 d2
 refine .go lA rfl rfl rfl rfl <| .sdict h.d rfl <| .add rfl <| .sdict h.d rfl rfl <| .sdict d2.d rfl <| .lenL d2.c cl <| .lt (fun q=>?_) fun q=>.mul (kB (by decide)) (kB (by omega)) rfl <| .add rfl <| .mod hb rfl (fin _)
 rw [List.length_map] at q
 obtain ⟨n,rfl⟩:=Int.eq_ofNat_of_zero_le h0
 have hl:n < cs.length:=Int.ofNat_lt.mp q
 exact .sdict d2.d rfl <| .list d2.c rfl (by rw [List.getElem?_map,List.getElem?_eq_getElem hl];rfl) cl <| .mod hb rfl (fin _)
theorem Nw.set{K:bn}{a:Nat}{v:V}(m:Nw σ σ' i j c es)(e:putL a v es=es')(hp:gL c a=none)(hm:fZ c a=none)(hl:Nat.ble es.length 30=true)(h:∀ τ:List O,Nw σ τ i j c es'→(∀ {k:Nat} {o:O},σ'[k]? = some o→(∀ es,O.attrs es≠o)→τ[k]? = some o)→K τ):Sa σ' K (.ref i) a v :=
 .mk m.inst m.dat e hp hm hl (h _ m.put fun e n=>mI e m.dat n)
theorem wx(h:∀ i j σ',Nw σ σ' i j 7 B7→Q (.ref i) σ'):t9 (Call (d+1)) 7 [] σ Q:=by
 have n0:Nw σ _ (σ.length+1) σ.length 7 []:=Nw.start
 exact Call.go fY rfl rfl rfl rfl <| n0.set rfl rfl rfl rfl fun _ n _=>n.set rfl rfl rfl rfl fun _ n _=>n.set rfl rfl rfl rfl fun _ n _=>n.set rfl rfl rfl rfl fun _ n _=>n.set rfl rfl rfl rfl fun _ n _=>n.set rfl rfl rfl rfl fun _ n _=>n.set rfl rfl rfl rfl fun _ n _=>n.set rfl rfl rfl rfl fun _ n _=>n.set rfl rfl rfl rfl fun _ n _=>n.set rfl rfl rfl rfl fun _ n _=>n.set rfl rfl rfl rfl fun _ n _=>n.set rfl rfl rfl rfl fun _ n _=>n.set rfl rfl rfl rfl fun _ n _=>n.set rfl rfl rfl rfl fun _ n _=>⟨rfl,h _ _ _ n⟩
theorem sW{m:Nat}(h:∀ i j σ',Nw σ σ' i j 6 [(to,.ref m)]→Q (.ref i) σ'):t9 (Call (d+1)) 6 [.ref m] σ Q:=by
 have n0:Nw σ _ (σ.length+1) σ.length 6 []:=Nw.start
 exact Call.go ft rfl rfl rfl rfl <| n0.set rfl rfl rfl rfl fun _ n _=>⟨rfl,h _ _ _ n⟩
theorem vz(h:∀ i j σ',Nw σ σ' i j 5 [(gO,.bytes all),(x8,.int (pos all all)),(qz,.bool false)]→Q (.ref i) σ'):t9 (Call (d+1)) 5 [.bytes all] σ Q:=by
 have n0:Nw σ _ (σ.length+1) σ.length 5 []:=Nw.start
 have e:((pos all all:Nat):Int)=0:=congrArg Int.ofNat (Nat.sub_self _)
 rw [e] at h
 exact Call.go dc rfl rfl rfl rfl <| n0.set rfl rfl rfl rfl fun _ n _=>n.set rfl rfl rfl rfl fun _ n _=>n.set rfl rfl rfl rfl fun _ n _=>⟨rfl,h _ _ _ n⟩
theorem pi{li lj:Nat}(h:∀ (M:FN) σ',M.li=li→M.lj=lj→Nw σ σ' M.i M.j 8 (vh M 0 0)→σ'[M.sv]? = some (.list [])→σ'[M.md]? = some (.idict [])→Q (.ref M.i) σ'):t9 (Call (d+1)) 8 [.ref li] σ Q:=by
 have n0:Nw σ _ (σ.length+1) σ.length 8 []:=Nw.start
 exact Call.go d0 rfl rfl rfl rfl <| n0.set rfl rfl rfl rfl fun _ n _=>n.set rfl rfl rfl rfl fun s1 n _=>(n.go (.a1 (τ:=[.list []]))).set rfl rfl rfl rfl fun s2 n k2=>(n.go (.a1 (τ:=[.list []]))).set rfl rfl rfl rfl fun s3 n k3=>.int [] rfl .nil (Nat.zero_le _) rfl rfl <| (n.go (.a1 (τ:=[.idict []]))).set rfl rfl rfl rfl fun s4 n k4=>(n.go (.a1 (τ:=[.list []]))).set rfl rfl rfl rfl fun s5 n k5=>n.set rfl rfl rfl rfl fun s6 n k6=>n.set rfl rfl rfl rfl fun s7 n k7=>n.set rfl rfl rfl rfl fun s8 n k8=>n.set rfl rfl rfl rfl fun s9 n k9 =>
  ⟨rfl,h ⟨σ.length+1,σ.length,li,lj,s1.length,s2.length,s3.length,s4.length⟩ s9 rfl rfl n (k9 (k8 (k7 (k6 (k5 (ac (k4 (ac (k3 (ac (k2 aa nofun)) nofun)) nofun)) nofun) nofun) nofun) nofun) nofun) (k9 (k8 (k7 (k6 (k5 (ac (k4 aa nofun)) nofun) nofun) nofun) nofun) nofun)⟩
end
theorem uj:∀ {ts:List Tok},prts ts=ts.map d5
 | []=>rfl
 | t :: ts=>congrArg (d5 t :: ·) uj
theorem nD{t:Tok}:∀ {ts:List Tok},t∈ts→(d5 t).length≤cq ts
 | a :: ts,h=>by
  show _≤_+1+cq ts
  rcases List.mem_cons.mp h with rfl | h
  · omega
  · have:=nD h;omega
section
variable{call:aw}{d T i j:Nat}{σ:List O}{Q:ag}{X:ak}{Z:Fr}{pk:Bool}{vs:List Nat}{dn:List Tok}{xs:List V}
theorem xv{QL:aL}{g:Tok→V}{m:Nat}{L:List V}{elt:Ev}{env:au}{ts:List Tok}(hi:σ[i]? = some (.list L))(f:Fz Z σ)(ih:∀ t∈ts,∀ {v:Nat} {σ:List O} {Q:ag},Th Z v t→Fz Z σ→(∀ σ',Ge σ σ'→Q (g t) σ')→elt (env.set m (some (.ref v))) σ Q fun _ _=>False) :
 ∀ (xs:List Nat) (us:List Tok) (acc:List V) (σ':List O),(∀ u∈us,u∈ts)→tS Z xs us→Ge σ σ'→acc.length+xs.length≤1000000→(∀ σ',Ge σ σ'→QL (acc++us.map g) σ') →
  cF (aR false [m]) (vcBt call true []) elt (fun σ'=>σ'[i]? = some (.list L)) env QL (xs.map .ref) acc σ':=by
 intro xs
 induction xs with
 | nil =>
  intro us acc σ' _ ht k _ h
  cases List.eq_nil_of_length_eq_zero ht.1.symm
  exact ⟨k _ _ hi,(List.append_nil acc)▸(show QL (acc++[]) _ from h _ k)⟩
 | cons x xs ih2 =>
  intro us acc σ' hu ht k hl h
  cases us with
  | nil=>exact nomatch ht.1
  | cons u us =>
   exact ⟨k _ _ hi,_,rfl,ih u (hu u (.head _)) (ht.2 0 x u rfl rfl) (fun i o e=>k _ _ (f i o e)) fun σ2 g2=>⟨Nat.le_trans (Nat.le_add_right ..) hl,ih2 us _ _ (fun y m=>hu y (.tail _ m)) ⟨Nat.succ.inj ht.1,fun i x t e e'=>ht.2 (i+1) x t e e'⟩ (k.trans g2) (by rw [List.length_append];exact Nat.add_right_comm ..▸hl) fun σ3 g3=>by rw [List.append_assoc];exact h σ3 g3⟩⟩
theorem l4.noneR{n:Nat}:l4 n .none .none true:=.none
theorem EqVs.snoc{n:Nat}{v:V}(hv:l4 n v v true):∀ {l:List V},(∀ x∈l,l4 n x x true)→EqVs n (l++[v]) (l++[v]) true
 | [],_=>.cons hv .nil
 | x :: l,h=>.cons (h x (.head _)) (EqVs.snoc hv fun y m=>h y (.tail _ m))
theorem AC{QL:aL}{live:bn}{e0 e1 e2 e3 e4 e5 e6 e7 e8 e9 e10 e11 e12 e13 e14 e15 e16 e17 e18:Option V}(hl:live σ):∀ (ps:List (V×V)) (acc:List V),acc.length+ps.length≤1000000→QL (acc++ps.map (·.1)) σ →
 cF (aR true [16,17]) (vcBt call true []) (fun env σ Q _=>CI env[16]? σ Q) live ([e0,e1,e2,e3,e4,e5,e6,e7,e8,e9,e10,e11,e12,e13,e14,e15,e16,e17,e18]:au) QL (ps.map fun p=>.tup [p.1,p.2]) acc σ:=by
 intro ps
 induction ps with
 | nil=>exact fun acc _ h=>⟨hl,(List.append_nil acc)▸h⟩
 | cons p ps ih=>exact fun acc hn h=>⟨hl,_,rfl,Nat.le_trans (Nat.le_add_right ..) hn,ih _ (by rw [List.length_append];exact Nat.add_right_comm ..▸hn) (by rw [List.append_assoc];exact h)⟩
theorem A9{e0 e1 e2 e4 e5 e6 e8 e9 e10 e11 e12:Option V}(hT:σ[T]? = some (.list (vs.map .ref)))(ht:tS Z vs dn)(f:Fz Z σ)(hg:∀ t∈dn,Gt pk 15 t)(hp:cq dn≤60000)(h:∀ σ',Q (.bool true) σ') :
 vcSs (Call 100) (Aq.drop 6) [e0,e1,e2,some (.bool pk),e4,e5,e6,some (.ref T),e8,e9,e10,e11,e12,none,none,none,none,none,none] σ (eO Q) X:=by
 have pl:=fe (ts:=dn)
 have vl:vs.length≤60000:=ht.1▸Nat.le_trans pl hp
 have vl':(vs.map V.ref).length≤1000000:=(List.length_map ..).symm▸Nat.le_trans vl (by decide)
 have vl2:([]:List V).length+vs.length≤1000000:=(Nat.zero_add _).symm▸Nat.le_trans vl (by decide)
 have p1:∀ t∈dn,(d5 t).length≤100000:=fun t m=>Nat.le_trans (nD m) (Nat.le_trans hp (by decide))
 have jl:=Nat.le_trans (kQ (ts:=dn)) hp
 refine .join <| .plainL hT vl' <| xv (g:=fun t=>.bytes (d5 t)) hT f (fun t m {v σ Q} ht f h=>x6 (d:=66) (hg t m) (by decide) (p1 t m) ht f h) vs dn [] _ (fun _ m=>m) ht .rfl vl2 fun σ1 g1=>.join aa (bs:=prts dn) (by rw [uj,List.map_map];rfl) (by rw [jL];omega) rfl (Nat.le_trans jl (by decide)) ?_
 have BC:=qh (pk:=pk) fun t m=>ET (hg t m)
 generalize aA [32] (prts dn)=all at *
 have acc:oS all ((th pk [] (an false all)).1.map (Dl all)) none [] (aY pk (all.length+1) [] (an false all)):=by
  rw [tZ (fun _ _=>aI _ _) (Nat.lt_succ_of_le (az _ _).length_le)]
  exact ⟨rfl,BC.2⟩
 refine jS (d:=94) (Nat.le_trans jl (by decide)) acc (.inr rfl) fun σ3 k n g3 _ hk _=>?_
 have g3:Ge σ σ3:=(g1.trans .a1).trans g3
 generalize (th pk [] (an false all)).1=l at *
 have ll:(l.map (Dl all)).length≤60000:=by rw [List.length_map,← List.length_map (f:=(·.1)),BC.1];exact ht.1▸vl
 have em:(l.map (fun x=>(dH x.1,V.int (pos all x.2)))++[(V.none,V.int n)]).map (fun p:V×V=>V.tup [p.1,p.2])=l.map (Dl all)++[.tup [xW none,.int n]]:=by rw [List.map_append,List.map_map];rfl
 have e1:(l.map (fun x=>(dH x.1,V.int (pos all x.2)))++[(V.none,V.int n)]).map (·.1)=dn.map dH++[.none]:=by rw [List.map_append,List.map_map,← BC.1,List.map_map];rfl
 have lw:(l.map (Dl all)++[V.tup [xW none,.int n]]).length≤1000000:=by rw [List.length_append];exact Nat.succ_le_succ (Nat.le_trans ll (by decide))
 refine .plainL hk lw ?_
 rw [← em] at lw hk ⊢
 refine AC hk _ [] (by rw [List.length_map] at lw;exact (Nat.zero_add _).symm▸lw) ?_
 rw [e1]
 have g4:Ge σ (σ3++[.list ([]++(dn.map dH++[.none]))]):=g3.trans .a1
 have hA:(σ3++[O.list ([]++(dn.map dH++[.none]))])[σ3.length]? = some (.list (dn.map dH++[.none])):=aa
 refine .plainL (g4 _ _ hT) vl' <| xv (g:=dH) (g4 _ _ hT) (fun i o e=>g4 _ _ (f i o e)) (fun t m {v σ Q} ht f h=>mG (d:=83) (hg t m) (p1 t m) ht f h) vs dn [] _ (fun _ m=>m) ht .rfl vl2 fun σ5 g5=>.lcat (ac aa) aa (by rw [List.nil_append,List.length_map];show _+1≤_;omega) rfl <| .eq (.list (ac (ac (ac (g5 _ _ hA)))) aa (.snoc .noneR fun x m=>?_)) (h _)
 obtain ⟨t,k,rfl⟩:=List.mem_map.mp m
 exact zm (m:=69) (hg t k)
end
section
variable{σ:List O}{Q:ag}{QF:aF}{X:ak}{P:y7}{all:ae}{pk:Bool}{T k:Nat}{W:List V}{D:List Tok}{e0 e1 e2 e12:Option V}
theorem yT{t:Tok}:cI (dH t)=false:=by cases t<;>rfl
theorem yl{σ0:List O}(W0:Wd P all σ0 all false 0 0)(T0:σ0.length≤T)(h5:all.length≤500)(hD:∀ t∈D,Gt pk 15 t∧(d5 t).length≤100000)(hd:D.length≤60000)(nT:T∉P.k)(nk:k∉P.k)(kT:T≠k)
 (hq:∀ {σ' Z vs e8 e9 e10},σ'[T]? = some (.list (vs.map .ref))→tS Z vs D→Fz Z σ'→QF .next [e0,e1,e2,some (.bool pk),some (.bytes all),some (.ref P.si),some (.ref P.i),some (.ref T),e8,e9,e10,none,e12,none,none,none,none,none,none] σ') :
 ∀ (m:Nat) (rest:ae) (n:Int) (dn:List Tok) (vs:List Nat) (Z:Fr) (b:Bool) (u l:Nat) (e8 e9 e10:Option V) (σ:List O),(th pk [] (an false rest)).1.length < m→Wd P all σ rest b u l→u+12 * rest.length≤1000000→l+rest.length≤1000→dn++(th pk [] (an false rest)).1.map (·.1)=D→((th pk [] (an false rest)).2=none→n=pos all []) →
  σ[T]? = some (.list (vs.map .ref))→tS Z vs dn→Fz Z σ→Z T=none→(∀ s∈P.k,Z s=none)→σ[k]? = some (.list W) →
  lf (aR true [8,9]) (vcSs (Call 100) (qA (at_ Aq 5))) (fun σ'=>σ'[k]? = some (.list W)) QF X ((th pk [] (an false rest)).1.map (Dl all)++[.tup [xW (th pk [] (an false rest)).2,.int n]]) [e0,e1,e2,some (.bool pk),some (.bytes all),some (.ref P.si),some (.ref P.i),some (.ref T),e8,e9,e10,none,e12,none,none,none,none,none,none] σ:=by
 intro m
 induction m with
 | zero=>intro rest n dn vs Z b u l e8 e9 e10 σ hm;exact absurd hm (Nat.not_lt_zero _)
 | succ m ih =>
  intro rest n dn vs Z b u l e8 e9 e10 σ hm w hu hl hdn hn hT ht f zT zP hk
  have hth:th pk [] (an false rest)=AK pk (r8 pk (rest.length+1) [] (an false rest)):=by
   have lt:=Nat.lt_succ_of_le (az false rest).length_le
   rw [← tZ (fun _ _=>aI _ _) lt,iS (fun _ _=>aI _ _) lt]
  rw [hth] at hdn hn hm ⊢
  have tok:∀ {K:ag} {K2:ak},(∀ e,r8 pk (rest.length+1) [] (an false rest) = .err e→∀ σ',aS P.k σ σ'→K2 e σ')→(r8 pk (rest.length+1) [] (an false rest) = .done→∀ σ' b u l,Wd P all σ' [] b u l→aS P.k σ σ'→K .none σ') →
   (∀ t r,r8 pk (rest.length+1) [] (an false rest) = .one t r→∀ v σ' u' l',Tk P all σ σ' r u' l' v t→u'+12 * r.length≤u+12 * rest.length→l'+r.length≤l+rest.length→K (.ref v) σ')→Call 100 fX [.ref P.si,.ref P.i,.bool pk,.fn bc] σ K K2:=fun a b c=>BO (d:=87) w h5 hu hl rfl a b c
  cases et:r8 pk (rest.length+1) [] (an false rest) with
  | done =>
   rw [et] at tok hdn hn
   refine ⟨hk,_,rfl,rfl,.own w.si w.sj rfl rfl <| tok nofun (fun _ σ2 b2 u2 l2 w2 k2=>.isN (r:=true) rfl <| .notN (r:=true) rfl rfl <| .notN (r:=true) rfl rfl <| .prop w2.src.inst w2.src.dat rfl rfl <| wQ w2.src <| .neI (fun _=>?_) fun z=>absurd (hn rfl).symm z) nofun⟩
   exact hq (k2 _ _ hT nT) (((List.append_nil dn).symm.trans hdn)▸ht) (f.keep k2 zP)
  | err e =>
   rw [et] at tok hdn
   refine ⟨hk,_,rfl,rfl,.own w.si w.sj rfl rfl <| tok (fun e' he σ2 k2=>⟨fun _=>?_,fun z=>absurd (by cases he;rfl) z⟩) nofun nofun⟩
   exact hq (k2 _ _ hT nT) (((List.append_nil dn).symm.trans hdn)▸ht) (f.keep k2 zP)
  | one t r =>
   have er:AK pk (.one t r)=mY (t,r) (th pk [] (an false r)):=congrArg (mY (t,r)) (tZ (fun _ _=>aI _ _) (Nat.lt_succ_of_le (az _ _).length_le))
   rw [et] at tok hdn hn hm
   rw [er] at hdn hn hm ⊢
   have hdn:dn++t :: (th pk [] (an false r)).1.map (·.1)=D:=hdn
   have hg:=hD t (hdn▸List.mem_append_right _ (.head _))
   have dl:vs.length < 1000000:=by have:=congrArg List.length hdn;rw [List.length_append,List.length_cons] at this;rw [ht.1];omega
   refine ⟨hk,_,rfl,rfl,.own w.si w.sj rfl rfl <| tok nofun nofun fun t' r' he v σ2 u2 l2 tk hu2 hl2=>?_⟩
   cases he
   obtain ⟨b2,w2⟩:=tk.wd
   have fk:=f.keep tk.keep zP
   have f':Fz (Z.ext σ.length σ2) σ2:=Fr.fz fk
   have zo:∀ {s:Nat},s < σ.length→Z s=none→Z.ext σ.length σ2 s=none:=fun h z=>(if_neg (Nat.not_le.mpr h)).trans z
   refine .isN (r:=false) rfl <| .isN yT <| mG (d:=83) hg.1 hg.2 (tk.th Z σ.length (Nat.le_refl _)) f' fun σ3 g3=>.ne (.val (zm (m:=69) hg.1)) <| .prop (w2.ge g3).src.inst (w2.ge g3).src.dat rfl rfl <| wQ (w2.ge g3).src <| .neI (fun _=>?_) fun z=>absurd rfl z
   have hT3:=g3 _ _ (tk.keep _ _ hT nT)
   exact .lApp hT3 <| .lApp hT3 ((List.length_map ..).symm▸Nat.le_of_lt dl) rfl <| ih r n (dn++[t]) (vs++[v]) (Z.ext σ.length σ2) b2 u2 l2 _ _ _ _ (Nat.lt_of_succ_lt_succ hm) ((w2.ge g3).put W0 T0) (Nat.le_trans hu2 hu) (Nat.le_trans hl2 hl) ((List.append_assoc ..).trans hdn) hn ((bk hT3).trans (by rw [List.map_append];rfl)) ((ht.mono (Fr.le fk)).snoc (tk.th Z σ.length (Nat.le_refl _))) (rK (fun i o e=>g3 _ _ (f' i o e)) (zo (bm hT) zT)) (zo (bm hT) zT) (fun s m=>zo (w.lt s m) (zP s m)) (aN (g3 _ _ (tk.keep _ _ hk nk)) kT)
end
noncomputable def CX:List ae:=[[32],[10],[13],[0],[4],[12],[9],[48],[49],[55],[56],[45],[43],[46],[101],[69],[35],[49,54,35,102],[50,49,52,55,52,56,51,54,52,56],[97],[70],[122],[110],[113,255],[47],[47,47,97],[47,47,113],[40],[41],[92],[60],[62],[91],[93],[123],[125],[37],[126],[33],[60,126],[126,62],[60,60],[62,62],[40,97,40,98,41,92],[92,48,53,51],[92,13,10],[13,10],[60,52,32,49,102,62],[60,126,56,55,99,85,126,62],[123,49,32],[47,98,32],[123,125],[40,120,41],[49,46,53],[45,46,53,101,45,55]]
theorem EU:∀ p∈CX,p.length≤10∧c3 p≤1∧c5 p≤1:=by decide
theorem qm:∀ {ps:List ae},(∀ p∈ps,p∈CX)→ps.flatten.length≤10 * ps.length∧c5 ps.flatten≤ps.length∧∀ y x,ps.flatten=y++x→c3 y+c5 x≤ps.length+1
 | [],_=>⟨Nat.le_refl _,Nat.le_refl _,fun y x e=>by
  obtain ⟨rfl,rfl⟩:=List.append_eq_nil_iff.mp (Eq.symm e)
  exact Nat.zero_le _⟩
 | p :: ps,h=>by
  have ih:=qm (ps:=ps) fun q m=>h q (.tail _ m)
  have g:=EU p (h p (.head _))
  have a5:∀ a b:ae,c5 (a++b)=c5 a+c5 b:=fun a b=>List.count_append
  have a3:∀ a b:ae,c3 (a++b)=c3 a+c3 b:=fun a b=>List.count_append
  rw [List.flatten_cons,List.length_append,List.length_cons,a5]
  refine ⟨by omega,by omega,fun y x e=>?_⟩
  rcases List.append_eq_append_iff.mp e with ⟨z,hy,hz⟩ | ⟨z,hp,hx⟩
  · have:=ih.2.2 z x hz
    rw [hy,a3];omega
  · rw [hx,a5]
    rw [hp,a3,a5] at g
    omega
section
variable{call:aw}{d D C:Nat}{σ:List O}{Q:ag}{X:ak}{cs:List Int}{QL:aL}{e0 e2 e3 e4 e5 e6 e7 e8 e9 e10 e11 e12 e13 e15 e16 e17 e18:Option V}
theorem EH(hc:cs.length≤63)(h:∀ (ps:List ae) σ',(∀ p∈ps,p∈CX)→ps.length≤30→QL (ps.map .bytes) σ'):∀ (k:Nat) (a z:Int) (ps:List ae) (σ:List O),uR σ D C z cs→0≤z→z+k≤1000→(∀ p∈ps,p∈CX)→ps.length+k≤30 →
 cF (aR false [14]) (vcBt (Call (d+1)) true []) (bW (Call (d+1)) (.sub (.var 1) (.call (.cst (.fn 89)) [.var 2,.cst (.int 55)]))) (fun _=>True) [e0,some (.tup (CX.map .bytes)),some (.ref D),e3,e4,e5,e6,e7,e8,e9,e10,e11,e12,e13,none,e15,e16,e17,e18] QL (cT a 1 k) (ps.map .bytes) σ:=by
 intro k
 induction k with
 | zero=>exact fun a z ps σ _ _ _ hp hl=>⟨trivial,h ps σ hp hl⟩
 | succ k ih =>
  intro a z ps σ dk h0 hz hp hl
  refine ⟨trivial,_,rfl,iU dk (by decide) h0 (by omega) hc fun n σ2 hn k2 d2=>?_⟩
  have hn:n < CX.length:=Int.ofNat_lt.mp hn
  have hg:(CX.map V.bytes)[n]? = some (.bytes CX[n]):=by rw [List.getElem?_map,List.getElem?_eq_getElem hn];rfl
  refine .tup rfl hg (Nat.le_of_ble_eq_true rfl) ⟨by rw [List.length_map];omega,?_⟩
  have:=ih (a+1) (z+1) (ps++[CX[n]]) σ2 d2 (by omega) (by omega) (fun p m=>(List.mem_append.mp m).elim (hp p) fun m=>List.mem_singleton.mp m▸List.getElem_mem _) (by rw [List.length_append];show _+1+_≤_;omega)
  rw [List.map_append] at this
  exact this
theorem GH:Call 101 zO [.fn 200] [] (fun v _=>v = .bool true) X:=by
 refine ⟨⟨z0,rfl,Nat.le_of_ble_eq_true rfl,Nat.le_of_ble_eq_true rfl,fun _=>rfl,?_⟩⟩
 refine .scr .nil (.int (n:=63) rfl (by decide)) fun zs hz=>?_
 have ez:cP (zs.map V.int) 0 (some 63)=zs.map V.int:=List.take_of_length_le ((List.length_map ..).symm▸hz)
 rw [ez]
 have zl:(zs.map V.int).length≤1000000:=(List.length_map ..).symm▸Nat.le_trans hz (by decide)
 refine .plainL aa zl <| xj V.int V.int aa zs (fun _ _ _ h=>.intI h) (Nat.le_trans hz (by decide)) <| .str [71,30] nofun rfl (by decide) (by decide) rfl rfl ?_
 have hd:uR ([O.list (zs.map .int)]++[O.list (zs.map .int)]++[.sdict [(71,.ref 1),(30,.int 0)]]) 2 1 0 zs:=⟨rfl,rfl⟩
 refine iU (d:=99) (D:=2) (C:=1) hd (by decide) (by decide) (by decide) hz fun n σ2 hn k2 d2=>.eq (.val .int) ?_
 generalize decide ((n:Int)=1)=pk
 refine .join <| iU (d:=99) d2 (by decide) (by decide) (by decide) hz fun m σ3 hm k3 d3=>.add (n:=(m+1:Nat)) (Int.add_comm ..) <| .rng (k:=m+1) rfl (by omega) (by omega) <| EH (d:=99) hz (fun ps σ4 hp hl=>?_) (m+1) 0 _ [] σ3 d3 (by decide) (by omega) nofun (by show 0+_≤_;omega)
 have b:=qm hp
 have h5:ps.flatten.length≤300:=Nat.le_trans b.1 (Nat.mul_le_mul_left 10 hl)
 refine .join aa rfl (Nat.le_trans hl (by decide)) (kj ps) (Nat.le_trans h5 (by decide)) ?_
 have hB:∀ x,x <:+ ps.flatten→c3 ps.flatten+c5 x≤31+c3 x:=fun x hx=>by
  obtain ⟨y,hy⟩:=hx
  have:=b.2.2 y x hy.symm
  have e3:c3 ps.flatten=c3 y+c3 x:=hy▸List.count_append
  omega
 generalize ps.flatten=all at *
 have bd:=hU (pk:=pk) hB (n:=(an false all).length+1) (os:=[]) (Nat.lt_succ_self _) (fun _ _=>aI _ _) (az _ _) (by rw [List.length_nil,Nat.zero_add];exact qG (az _ _)) trivial
 have bl:=(az false all).length_le
 have bp:cq ((th pk [] (an false all)).1.map (·.1))≤60000:=Nat.le_trans bd.len (by show 0+_≤_;omega)
 have hg:∀ t∈(th pk [] (an false all)).1.map (·.1),Gt pk 15 t:=fun t m=>by
  obtain ⟨x,k,rfl⟩:=List.mem_map.mp m
  exact bd.gt x k
 refine wx (d:=99) fun li lj s1 n1=>pi (d:=99) (lj:=lj) fun M s2 eli elj nM hsv hmd=>sW (d:=99) fun si sj s3 nS=>vz (d:=99) fun i j s4 nO=>?_
 have g:=nS.ge.trans nO.ge
 have W0:Wd ⟨i,j,si,sj,M⟩ all s4 all false 0 0:=⟨⟨nO.inst,nO.dat,List.suffix_refl _,Nat.le_trans h5 (by decide)⟩,nO.ge _ _ nS.inst,nO.ge _ _ nS.dat,⟨g _ _ nM.inst,g _ _ nM.dat,eli▸elj▸g _ _ (nM.ge _ _ n1.inst),elj▸g _ _ (nM.ge _ _ n1.dat),g _ _ hsv,[],g _ _ hmd,Nat.le_refl 0⟩⟩
 have acc:oS all ((th pk [] (an false all)).1.map (Dl all)) (th pk [] (an false all)).2 [] (aY pk (all.length+1) [] (an false all)):=by
  rw [tZ (fun _ _=>aI _ _) (Nat.lt_succ_of_le bl)]
  exact ⟨rfl,rfl⟩
 have s5:(s4++[O.list []]).length=s4.length+1:=List.length_append
 refine jS (d:=94) (Nat.le_trans h5 (by decide)) acc (.inl (Nat.le_trans h5 (by decide))) fun σ7 k n g7 hk0 hk hn=>.plainL hk ?_ ?_
 · have:=fe (ts:=(th pk [] (an false all)).1.map (·.1))
   rw [List.length_map] at this
   rw [List.length_append,List.length_map];show _+1≤_;omega
 rw [s5] at hk0
 refine yl (P:=⟨i,j,si,sj,M⟩) (T:=s4.length) (D:=(th pk [] (an false all)).1.map (·.1)) W0 (Nat.le_refl _) (Nat.le_trans h5 (by decide)) (fun t m=>⟨hg t m,Nat.le_trans (nD m) (Nat.le_trans bp (by decide))⟩) (Nat.le_trans fe bp) (fun m=>Nat.lt_irrefl _ (W0.lt _ m)) (fun m=>Nat.lt_irrefl _ (Nat.lt_trans (W0.lt _ m) hk0)) (Nat.ne_of_lt hk0) (fun hT hx f=>A9 hT hx f hg bp fun _=>rfl) _ all n [] [] (fun _=>none) false 0 0 _ _ _ σ7 (Nat.lt_succ_self _) ((W0.ge .a1).ge g7) (by omega) (by omega) rfl hn (g7 _ _ aa) ⟨rfl,fun i x t e=>nomatch e⟩ nofun rfl (fun _ _=>rfl) hk
end
end
end Mine
section
open PySem Builtin PySem.Calls PyProof.Rows PySem.W PySem.SeqAt Builtin.ObjectAttr
namespace Mine
noncomputable abbrev rt(K:Params→Frag)(p:Program)(w:World)(h₀:Heap)(mg mb:Str→Option Value)(la:Addr):Rt :=
 ⟨p,w,K w.params,h₀,mg,mb,fun i=>Iv.getD i la,fun i=>Ih.getD i 0,fun i=>DM.getD i "",DM.length,Ih.length⟩
noncomputable def Gh(q:(Nat×Nat)×Nat):Nat:=cond (q.1.1==5) 423 687
theorem nq{p:Prop}(h:Nonempty p):p:=h.elim id
noncomputable abbrev ik(R:Rt)(l:List (Fn×Nat)):Prop:=(l.all fun q=>Im R q.1 q.2)=true
noncomputable abbrev Cw(R:Rt):Prop:=(oQ.map fun q=>R.K.lookup (R.fa q.2))=oQ.map fun q=>some ⟨(E3 R q.2).cls,(E3 R q.2).dict,.func (Eu R q.1 q.2),(E3 R q.2).slots⟩
noncomputable abbrev Dz(R:Rt)(S:Setting)(g:Nat→Value):Prop:=(oQ.map fun q=>(List.range (q.1.dv.length+1)).map fun j=>peek R.K S (bindArgs (Eu R q.1 q.2) ⟨(List.range (q.1.np - j)).map g,[]⟩))=oQ.map fun q=>(List.range (q.1.dv.length+1)).map fun j=>some ((y8 R q.2).zip ((List.range (q.1.np - j)).map g++GE R q.1 q.2 (q.1.np - j)))
noncomputable abbrev BY(R:Rt):Prop:=((List.range' 1 9).map fun c=>(R.K.lookup (R.ca c),findIn R.K (.ref (R.ca c)) "__getattribute__",findIn R.K (.ref (R.ca c)) "__getattr__",findIn R.K (.ref (R.ca c)) "__setattr__",plainOver R.K (R.ca c),makesIn R.K (R.ca c),keepIn R.K (.ref (R.ca c)),(List.range R.nn).all (Hn R c))) =
 (List.range' 1 9).map fun c=>(GB ((R.K.lookup (R.ca c)).getD default),some (some (.builtin "object.__getattribute__")),some none,some (some (.builtin "object.__setattr__")),true,true,true,true)
noncomputable abbrev CC(R:Rt):Prop:=(AD.map fun q=>(findIn R.K (.ref (R.ca q.1)) "__init__",typeIn R.K (.ref (R.fa q.2)),Nat.ble 1 q.1&&Nat.blt q.1 R.nc))=AD.map fun q=>(some (some (.ref (R.fa q.2))),some (.type "function"),true)
noncomputable abbrev Dw(R:Rt):Prop:=(zi.map fun q=>(findIn R.K (.ref (R.ca q.1.1)) (R.nm q.1.2),specialIn R.K (.ref (Gh q)) "__get__",takesIn R.K (.ref (Gh q)),recIn R.K (Gh q) "property")) =
 zi.map fun q=>(some (some (.ref (Gh q))),some (some (.builtin "property.__get__")),some true,some (.ref (R.fa q.2) :: ((recIn R.K (Gh q) "property").getD []).tail))
noncomputable abbrev B9(R:Rt):Prop:=R.K.lookup (R.ca aQ)=some (Dx ((R.K.lookup (R.ca aQ)).getD default) (R.ca aQ) 39)
noncomputable abbrev CP(R:Rt):Prop:=(specialIn R.K (.ref (R.ca aQ)) "__call__",instIn R.K (.ref (R.ca aQ)) (.type "type"),keepIn R.K (.ref (R.ca aQ)),findIn R.K (.ref (R.ca aQ)) "__setattr__",findIn R.K (.ref (R.ca aQ)) (R.nm cO),findIn R.K (.ref (R.ca aQ)) "__getattribute__",findIn R.K (.ref (R.ca aQ)) "__getattr__",findIn R.K (.ref (R.ca aQ)) "__init__",typeIn R.K (.ref (R.fa 104))) =
 (some (some (.builtin "type.__call__")),some true,true,some (some (.builtin "object.__setattr__")),some none,some (some (.builtin "BaseException.__getattribute__")),some none,some (some (.ref (R.fa 104))),some (.type "function"))
noncomputable abbrev Do(R:Rt):Prop:=(Ez R DQ 104,Hh R DQ 104,y8 R 104)=((⟨[("self",.local),("told",.local)],[some "self",some "told"]⟩:bN),mN "self" "told" (R.nm cO) ⟨15,8,15,12⟩ ⟨15,8,15,17⟩ ⟨15,20,15,24⟩ ⟨15,8,15,24⟩,(["self", "told"]:List Str))
noncomputable abbrev Dc(R:Rt):Prop:=nsIn R.K mainGlobals "law" = some (some (.ref 925))
structure KR(R:Rt):Prop where
 c0:ik R (oQ.take 27)
 c1:ik R ((oQ.drop 27).take 27)
 c2:ik R (((oQ.drop 27).drop 27).take 27)
 c3:ik R (((oQ.drop 27).drop 27).drop 27)
 obj:Cw R
 bnd:∀ S g,Dz R S g
 cls:BY R
 ini:CC R
 prp:Dw R
 psc:B9 R
 psr:CP R
 psi:Do R
 law:Dc R
 nc:R.nc=10
theorem wr{α:Type}{f:α→Bool}{n:Nat}{l:List α}(h1:(l.take n).all f=true)(h2:(l.drop n).all f=true):l.all f=true:=by
 rw [← List.take_append_drop n l,List.all_append,h1,h2];rfl
section
variable{R:Rt}(k:KR R)
include k
theorem xk:∀ q∈oQ,Hp R q:=fun q m=>⟨List.map_inj_left.mp k.obj q m,List.all_eq_true.mp (wr k.c0 (wr k.c1 (wr k.c2 k.c3))) q m,fun {j} hj S g=>List.map_inj_left.mp (List.map_inj_left.mp (k.bnd S g) q m) j (List.mem_range.mpr (Nat.lt_succ_of_le hj))⟩
theorem HD:yt R:=by
 refine ⟨fun c h0 h1=>?_,fun c f h=>?_,fun c a f h=>?_⟩
 · have e:=List.map_inj_left.mp k.cls c (List.mem_range'_1.mpr ⟨h0,Nat.lt_of_lt_of_eq h1 k.nc⟩)
   exact ⟨congrArg (·.1) e,congrArg (·.2.1) e,congrArg (·.2.2.1) e,congrArg (·.2.2.2.1) e,congrArg (·.2.2.2.2.1) e,congrArg (·.2.2.2.2.2.1) e,congrArg (·.2.2.2.2.2.2.1) e,fun f h=>have e:=List.map_inj_left.mp k.ini (c,f) (a6 h);⟨congrArg (·.1) e,congrArg (·.2.1) e⟩,congrArg (·.2.2.2.2.2.2.2) e⟩
 · exact ar (congrArg (·.2.2) (List.map_inj_left.mp k.ini (c,f) (a6 h))) fun h1 h2=>⟨Nat.le_of_ble_eq_true h1,Nat.blt_eq▸h2⟩
 · have e:=List.map_inj_left.mp k.prp ((c,a),f) (a6 h)
   exact .mk (congrArg (·.1) e) (congrArg (·.2.1) e) (congrArg (·.2.2.1) e) (congrArg (·.2.2.2) e)
theorem GC:u4 R:=by
 have e:=k.psr
 have K:=xk k (DQ,104) (.head _)
 have F:=DK K
 have B:uv R (Eu R DQ 104) (y8 R 104) 2 (DQ.defs 2):=uH K (Nat.le_refl 2) (Nat.le_add_right 2 1)
 rw [show Ez R DQ 104=_ from congrArg (·.1) k.psi,show Hh R DQ 104=_ from congrArg (·.2.1) k.psi,show y8 R 104=_ from congrArg (·.2.2) k.psi] at F
 rw [show y8 R 104=_ from congrArg (·.2.2) k.psi] at B
 exact ⟨⟨_,_,k.psc⟩,congrArg (·.1) e,congrArg (·.2.1) e,congrArg (·.2.2.1) e,congrArg (·.2.2.2.1) e,congrArg (·.2.2.2.2.1) e,congrArg (·.2.2.2.2.2.1) e,congrArg (·.2.2.2.2.2.2.1) e,.mk F B rfl rfl rfl rfl (congrArg (·.2.2.2.2.2.2.2.1) e) (congrArg (·.2.2.2.2.2.2.2.2) e)⟩
end
end Mine
end
section
open PySem PySem.Calls PyProof.Rows PySem.W Builtin
namespace Mine
theorem nQ{M:Model}{A:Around}{Γ:Ctx}{t:Sem Fin}{R:Result→Shared→Prop}{s:Shared}(hin:Γ.In A)(hc:t5 Γ)
 (h:aT M A t (fun fin s'=>∃ f,fin = .done f∧R (.ok f) s') (fun e s'=>R (.error e) s') s) (p:Pos) :
 Sem.wp M Γ t (Sem.finPost M Γ R) (fun e _ s'=>R (.error e) s') p s:=by
 refine Sem.wp_mono M Γ t (fun fin p' s' h'=>?_) (fun _ _ _ h'=>h') p s (h Γ p hin hc)
 obtain ⟨f,rfl,hf⟩:=h'
 exact hf
theorem rC:t5 (⟨.builtin "claim.caller" {},none,none,[],none⟩:Ctx):=⟨by decide +kernel,fun x hx=>nomatch hx⟩
theorem rF{prog:Program}{w:World}{t:Sem Fin}{s:Shared}{R:Result→Shared→Prop}(hreg:s.asleep)
 (h:aT (model prog w) callerA t (fun fin s'=>∃ f,fin = .done f∧(R (.ok f) s'∧leftWithCleanup s'.gens=false)) (fun e s'=>R (.error e) s'∧leftWithCleanup s'.gens=false) s) :
 ∃ n r s' s'',runN (denote table) prog w n s ⟨t,.builtin "claim.caller" {},default,[]⟩ = .halted (outcomeOf r) s' ∧
  schedN (denote table) prog w n (.single s ⟨t,.builtin "claim.caller" {},default,[]⟩) = .halted (outcomeOf r) s'∧s'.forget=s''.forget∧R r s'':=by
 obtain ⟨n,r,s₁,s₂,hs,hn,hfo,hR⟩:=wp_halts_full (M:=model prog w) (R:=R) hreg (nQ (R:=fun r s'=>R r s'∧leftWithCleanup s'.gens=false) caller_in rC h default)
 exact ⟨n,r,s₂,s₁,hn,hs,hfo,hR⟩
theorem ji{c:ClaimW}{tree:List Value→Sem Fin}{w:World}{s:Shared}{free:Addr→Prop}{gens:Prop}{kept:Heap→Prop}(hz:s.asleep)(hgens:s.gens=#[])
 (hspec:∀ args,c.pre args=true→WData.layableAll args=true →
  ∀ ord:List DictEntry→List DictEntry,(∀ l,(ord l).Perm l) →
  ∃ vs s₁,layAllW c.records (classAt s.heap) w.params ord args s=some (vs,s₁) ∧
   aT (model c.prog w) callerA (tree vs) (fun fin s'=>∃ f,fin = .done f∧(c.Ends s args vs s₁ (.ok f) s'∧s'.os=s.os∧AllBare s'.gens∧kept s'.heap))
    (fun e s'=>c.Ends s args vs s₁ (.error e) s'∧s'.os=s.os∧AllBare s'.gens∧kept s'.heap) s₁) :
 c.CallFrom (fun vs=>⟨tree vs,.builtin "claim.caller" {},default,[]⟩) w free gens kept s:=by
 intro args hpre hlay ord hord
 refine (hspec args hpre hlay ord hord).elim fun vs w1=>w1.elim fun s₁ hh=>?_
 have hal:=layAllW_rest _ _ _ hh.1
 refine (rF (prog:=c.prog) (w:=w) (t:=tree vs) (s:=s₁) (R:=fun r s'=>c.Ends s args vs s₁ r s'∧s'.os=s.os∧kept s'.heap) (Shared.asleep_of_life hal.2.2.2 hz)
  (bz hh.2 (fun fin s' x=>x.imp fun f x=>⟨x.1,⟨x.2.1,x.2.2.1,x.2.2.2.2⟩,leftWithCleanup_false_of_bare x.2.2.2.1⟩) fun e s' x=>⟨⟨x.1,x.2.1,x.2.2.2⟩,leftWithCleanup_false_of_bare x.2.2.1⟩)).elim fun k y=>y.elim fun r y=>y.elim fun s' y=>y.elim fun s'' y=>?_
 have eq:=Shared.forget_eq y.2.2.1
 have hcase:=y.2.2.2.1.congr eq.1
 exact ⟨vs,s₁,hh.1,k,_,s',y.2.1,hcase.imp (fun x=>x.imp fun v x=>⟨congrArg outcomeOf x.1,x.2.1,x.2.2.1,x.2.2.2.1,fun b o q _=>x.2.2.2.2.1 b o q,x.2.2.2.2.2⟩) (fun x=>x.imp fun e x=>x.imp fun ob x=>x.imp fun cls x=>⟨congrArg outcomeOf x.1,x.2.1,x.2.2.1,x.2.2.2.1,x.2.2.2.2.1,fun b o q _=>x.2.2.2.2.2 b o q⟩),
  (fun _ i x hx=>by rw [hgens] at hx;simp at hx),eq.1▸y.2.2.2.2.2,by rw [(runN_life _ _ _ y.1).trans hal.2.2.2],Shared.rest_eq (eq.2.2.2.1▸y.2.2.2.2.1)⟩
abbrev D3(q:Program)(loose:List Str)(XP:(Str→Option Value)→Heap→Prop)(YP:World→Heap→Prop)(r:RowW)(d:DefRec)(kwd:List (Str×Expr))(run:Value→List Value→Sem Value):Prop :=
 ∀ (w:World) (s₀ s₁:Shared) (mg mb:Str→Option Value),Ground q loose r.records XP w s₀ mg mb s₀.heap→YP w s₀.heap→∀ (a:Addr),mg d.name=some (.ref a) →
  ∀ (args:List WData) (vals:List Value) (as:List Addr),r.claim.pre args=true→Laid r.records w s₀ s₁ args vals as →
   aT (model r.prog w) callerA (run (.ref a) vals) (fun v s'=>GoodWG r.claim (classAt s₀.heap) (ExcName.means s₀.heap) args s₁ (.ok (.ret v)) s')
    (fun e s'=>GoodWG r.claim (classAt s₀.heap) (ExcName.means s₀.heap) args s₁ (.error e) s') s₁
namespace PySem.W
theorem holds_open{r:OpenRow}{q:Program}{loose:List Str}{Xt:Shared→Bool}{XP:(Str→Option Value)→Heap→Prop}{α:Type}{Yf:Shared→α}{Ya:World→α}{YP:World→Heap→Prop}{d:DefRec}{kwd:List (Str×Expr)}{N:Nat}
 (left:LeftO r.prog q loose Xt Yf Ya N) (hY:∀ w s,Yf s=Ya w→YP w s.heap) (hYk:∀ w h h',YP w h→(∀ b o,h.get? b=some o→h'.get? b=some o)→YP w h')
 (hX:∀ s,Xt s=true→XP (s.heap.nsMap mainGlobals) s.heap) (hXk:∀ mg h h',XP mg h→(∀ b o,h.get? b=some o→h'.get? b=some o)→XP mg h')
 (hdef:defOf q r.name=some (d,kwd)) (hp:r.prog.theDef r.name=some (d.params,d.body,d.scope)) (hk:kwWritten? d.params.kwonlyargs d.params.kw_defaults=some kwd) (hRf:∀ s,Xt s=true→RecFacts r.records s.heap) (hwr:(!r.writes||r.records.isEmpty)=true)
 (k1:r.wellSaid=true) (ok:(chainsOk q&&opensWell r.prog&&(frees r.toRowW&&r.within.isEmpty))=true) (hb:r.prog.bare) (hw:r.toRowW.promised)
 (call:D3 q loose XP YP r.toRowW d kwd fun f vs=>PySem.call f vs):r.Holds:=by
 have ok:=(Bool.and_eq_true _ _).mp ok
 have ok1:=(Bool.and_eq_true _ _).mp ok.1
 have ok2:=(Bool.and_eq_true _ _).mp ok.2
 have fp:=frees_parts ok2.1
 have behind:=left.behind (XP:=fun mg h=>XP mg h∧RecFacts r.records h) (fun s hs=>⟨hX s hs,hRf s hs⟩) ok1.1
 refine ⟨k1,hw,⟨hb,ok1.2,by show r.makers.map _=[];rw [fp.2.2.2.2];rfl⟩,hw.witness,fun w=>⟨(left.behind hX ok1.1 w).1,fun s' hs'=>?_⟩⟩
 refine ((behind w).2 s' hs').elim fun s₀ y=>y.2.2.elim fun s z=>?_
 have G00:=z.2.2.2.2.1
 have G0:Ground q loose [] XP w s (s.heap.nsMap mainGlobals) (s.heap.nsMap builtinsNs) s.heap:=⟨G00.T,G00.B,G00.D,G00.TE,G00.TD,G00.W,G00.X.1,G00.cls,G00.has,G00.apart,G00.once,G00.K⟩
 have RF:=G00.X.2
 have hg:=z.2.2.2.1
 have hgens:s.gens=#[]:=Array.eq_empty_of_size_eq_zero (beq_iff_eq.mp z.2.2.1)
 have pin:isTheDefsW r.prog s.heap r.name:=pinned_of_view hg G0 hdef hp hk
 have G:Ground q loose r.records XP w s _ _ s.heap:=RF.ground G0
 refine ⟨s₀,y.1,y.2.1,s,z.1,fun n hn=>?_,RF.1,RF.2.1,ji (c:=r.toRowW.claim) z.2.1 hgens fun args hpre hlay ord hord=>?_⟩
 · cases e:r.pinned with
   | true=>rw [e] at hn;exact List.mem_singleton.mp hn▸pin
   | false=>rw [e] at hn;exact absurd hn List.not_mem_nil
 · refine (Option.isSome_iff_exists.mp (layAllW_isSome (P:=w.params) (ord:=ord) G.has args r.args s (pre_splitW hpre).1)).elim fun vl hlaid=>?_
   have keeps:=layAllW_keeps _ _ _ hlaid
   have hal:=layAllW_rest _ _ _ hlaid
   refine (reads_layAllW hord _ _ _ hlaid hlay vl.2.heap (fun _ _ e=>e)).elim fun as rd=>?_
   have L:Laid r.records w s vl.2 args vl.1 as:=⟨⟨ord,hord,hlaid⟩,rd.1,rd.2.1,rd.2.2,keeps,hal.1.trans hgens,hal.2.2.1⟩
   have G₁:=G.keeps hXk keeps
   refine (G₁.fn hdef).elim fun a x=>x.elim fun _ x=>x.elim fun _ x=>x.elim fun _ x=>x.elim fun _ x=>x.elim fun _ x=>x.elim fun _ x=>?_
   have fin:∀ {res:Result} {s':Shared},GoodWG r.toRowW.claim (classAt s.heap) (ExcName.means s.heap) args vl.2 res s'→r.toRowW.claim.Ends s args vl.1 vl.2 res s'∧s'.os=s.os∧AllBare s'.gens∧(r.writes=true→namesKept r.prog r.keeps s.heap s'.heap∧∀ x∈r.records,∀ a,classAt s.heap x.1=some a→recordClass s'.heap a x.1 (x.2.map (·.1))=true):=fun g=>have l:=g.laid (c:=r.toRowW.claim) fp.1 (List.isEmpty_iff.mp ok2.2) (ident_freeW fp.2.1 fp.2.2.1 fp.2.2.2.1) L;⟨l.1,l.2.1,l.2.2,fun q=>⟨namesKept_of z.1 hg _ keeps g.2.1.old,noTable hwr q⟩⟩
   exact ⟨vl.1,vl.2,hlaid,ai (wpAny_nsGet G₁.T.g (by rw [x.1];exact ab (bz (call w s vl.2 _ _ G (hY w s z.2.2.2.2.2) a (defOf_name hdef▸x.1) args vl.1 as hpre L) (fun v s' g=>af ⟨_,rfl,fin g⟩) fun e s' g=>fin g)))⟩
end PySem.W
end Mine
end
section
open PySem Builtin PySem.Calls PyProof.Rows PySem.W PySem.SeqAt Builtin.ObjectAttr
namespace Mine
theorem E2:∀ i < DM.length,∀ j < DM.length,DM.getD i "" = DM.getD j "" → i=j:=by decide +kernel
theorem E8:∀ i < 9,BB[i]? = some (DM.getD i "")∧i < DM.length:=by decide +kernel
theorem F7{K:Params→Frag}{p:Program}{w:World}{h₀:Heap}{mg mb:Str→Option Value}{la:Addr}{h₁:Heap}{R:WRecords}{XP}{q}{lo}{s₀:Shared}(KX:(K w.params).In h₀)(G:Ground q lo R XP w s₀ mg mb h₀)(k:∀ b o,h₀.get? b=some o→h₁.get? b=some o)
 (sc:∃ (zs:List Int) (xs:Array Value) (n:Nat),zs.length≤63∧h₁.get? la=some (bb xs n)∧∀ h ρ,VRels (rt K p w h₁ mg mb la) h ρ (zs.map .int) xs.toList) (hi:importsNone q=true):aZ (rt K p w h₁ mg mb la):=by
 refine ⟨KX.keeps k,G.T.g.keeps k,G.T.b.keeps k,G.T.nolimit.keeps k,G.T.builtins,(G.T.seer hi).mods.elim fun _ w=>w.1.elim fun o w=>w.elim fun _ w=>w.elim fun _ w=>⟨o,k _ _ w.1⟩,fun i x h=>?_,fun i j hi hj e=>E2 i hi j hj e,sc⟩
 have z:=E8 i (List.getElem?_eq_some_iff.mp h).1
 exact ⟨Option.some.inj (z.1.symm.trans h),z.2⟩
theorem wk{R:WRecords}:∀ {xs:List WData},WShape.hasItems R xs .int=true→∃ zs:List Int,xs=zs.map .int:=by
 intro xs
 induction xs with
 | nil=>exact fun _=>⟨[],rfl⟩
 | cons x xs ih =>
  intro h
  rw [WShape.hasItems,Bool.and_eq_true] at h
  obtain ⟨i,rfl⟩:=hasW_int h.1
  obtain ⟨zs,rfl⟩:=ih h.2
  exact ⟨i :: zs,rfl⟩
theorem zX{W:WRecords}{cl:Str→Option Addr}{P:Params}{ord:List DictEntry→List DictEntry}(zs:List Int):∀ (s:Shared),∃ (vs:List Value) (t:Nat),layAllW W cl P ord (zs.map .int) s=some (vs,{ s with toks:=t }) ∧
 ∀ (R:Rt) (h:Heap) (ρ:List Addr),VRels R h ρ (zs.map .int) vs:=by
 induction zs with
 | nil=>exact fun s=>⟨[],s.toks,rfl,fun _ _ _=>.nil⟩
 | cons z zs ih =>
  intro s
  refine (ih { s with toks:=s.toks+1 }).elim fun vs w=>w.elim fun t w=>⟨.int z s.toks :: vs,t,?_,fun R h ρ=>.cons (.int z _) (w.2 R h ρ)⟩
  rw [List.map_cons,layAllW,layW]
  dsimp only
  rw [w.1]
theorem Ct{zs:List Int}{R:WRecords}{l:OpenLaw}(hm:l.most=some 63)(hb:l.bound=none)(h:WTm.holds R l.pre { args:=[.list (zs.map .int)] }=true):zs.length≤63:=by
 unfold OpenLaw.pre WTm.holds at h
 rw [hm,hb] at h
 simp [WTm.value] at h
 have e:less? (WData.int 63) (WData.int zs.length)=some (decide ((63:Int) < zs.length)):=rfl
 rw [e] at h
 by_cases q:(63:Int) < zs.length
 · rw [decide_eq_true q] at h;cases h
 · exact Int.ofNat_le.mp (Int.not_lt.mp q)
theorem CW{args:List WData}(h:PySem.Challenge.rw_xw0255_01.row.toRowW.claim.pre args=true):∃ zs:List Int,zs.length≤63∧args=[.list (zs.map .int)]:=by
 have h:=pre_splitW h
 refine (hasAllW_cons h.1).elim fun d w=>w.elim fun r w=>(hasW_list w.2.1).elim fun xs x=>(wk x.2).elim fun zs e=>?_
 have e:args=[.list (zs.map .int)]:=by rw [w.1,x.1,e,hasAllW_nil w.2.2]
 exact ⟨zs,Ct (l:=PySem.Challenge.rw_xw0255_01) rfl rfl (e▸h.2),e⟩
theorem B3{K:Params→Frag}{w:World}{s₀:Shared}{mg mb:Str→Option Value}{XP}{q}{lo}{WR:WRecords}{a:Addr}{zs:List Int}{vs:List Value}{t:Nat}{Qr:Value→Shared→Prop}{Er:Value→Shared→Prop}(k:∀ p w h₀ mg mb la,KR (rt K p w h₀ mg mb la))(KX:(K w.params).In s₀.heap)(G:Ground q lo WR XP w s₀ mg mb s₀.heap)(hi:importsNone q=true)(hmg:mg "law" = some (.ref a))(hz:zs.length≤63)(hr:∀ (R:Rt) (h:Heap) (ρ:List Addr),VRels R h ρ (zs.map .int) vs)
 (kq:∀ s',(∀ b x,(s₀.heap.push (bb vs.toArray 0)).get? b=some x→s'.heap.get? b=some x)→s'.os=s₀.os→s'.gens=s₀.gens→Qr (.bool true) s'):aT (model PySem.Challenge.rw_xw0255_01.prog w) callerA (PySem.call (.ref a) [.ref s₀.heap.objs.size]) Qr Er { s₀ with toks:=t,heap:=s₀.heap.push (bb vs.toArray 0) }:=by
 have k:=k PySem.Challenge.rw_xw0255_01.prog w (s₀.heap.push (bb vs.toArray 0)) mg mb s₀.heap.objs.size
 have ok:aZ (rt K PySem.Challenge.rw_xw0255_01.prog w (s₀.heap.push (bb vs.toArray 0)) mg mb s₀.heap.objs.size) :=
  F7 KX G (fun b o e=>Heap.get?_push_of_some _ e) ⟨zs,vs.toArray,0,hz,Heap.get?_push_size _ rfl,fun h ρ=>hr _ h ρ⟩ hi
 have C:=Cg ok (HD k) (GC k) (xk k) 101 (GH (X:=fun _ _=>False))
 have e:=Value.ref.inj (Option.some.inj (hmg.symm.trans (mg_of (n := "law") ok.X ok.g k.law)))
 rw [e]
 refine dh (C.2 (A:=callerA) (l:=[]) ⟨by decide,by decide,rfl,rfl,rfl,fun _=>by decide⟩ ⟨⟨rfl,.nil,fun _ _ e=>e,fun _ m=>absurd m List.not_mem_nil,fun i a o e _=>absurd e (by simp)⟩,trivial,fun _ m=>absurd m List.not_mem_nil⟩ (.cons (.fn 200) .nil) (fun v σ' ρ' rv s' o r q=>?_) fun told σ' ρ' e s' t x=>x.elim)
 cases q
 cases r
 exact kq _ o.st.base o.os o.gens
theorem CY{K:Params→Frag}{as:List Addr}{e:∀ P,as=(K P).map (·.1)}{q:Program}{lo:List Str}{XP}{d:DefRec}{kwd:List (Str×PySem.Expr)}(k:∀ p w h₀ mg mb la,KR (rt K p w h₀ mg mb la))(hi:importsNone q=true)(hd:d.name = "law"):D3 q lo XP (fun w h=>(kHook K as e).says w h) PySem.Challenge.rw_xw0255_01.row.toRowW d kwd fun f vs=>PySem.call f vs:=by
 intro w s₀ s₁ mg mb G Y a hmg args vals as hpre L
 rw [hd] at hmg
 refine (CW hpre).elim fun zs z=>L.laid.elim fun ord l=>(zX (W:=[]) (cl:=classAt s₀.heap) (P:=w.params) (ord:=ord) zs s₀).elim fun vs y=>y.elim fun t y=>?_
 have ea:=z.2
 have hl':layAllW [] (classAt s₀.heap) w.params ord [.list (zs.map .int)] s₀=some ([.ref s₀.heap.objs.size],{ s₀ with toks:=t,heap:=s₀.heap.push (bb vs.toArray 0) }):=by
  rw [layAllW,layW,y.1];rfl
 have hl:=Option.some.inj ((ea▸l.2).symm.trans hl')
 have e1:vals=_:=congrArg (·.1) hl
 have e2:s₁=_:=congrArg (·.2) hl
 subst e1 e2
 exact B3 k (kIn_of Y) G hi hmg z.1 y.2 fun s' h1 h2 h3=>⟨.inl ⟨_,.bool true,[],rfl,fun _=>rfl,.bool _,by kernel_rfl,fun _=>⟨.nil,fun _ m=>absurd m List.not_mem_nil⟩⟩,.of_keep fun b x e=>h1 b x e,h2,.of_eq (h3.trans L.gens)⟩
end Mine
end
section
set_option Elab.async true
open PySem PySem.W PyProof.Rows
namespace Mine
abbrev T1:Prop:=True
theorem t1:T1:=trivial
theorem hd.tw2867327485932766208:T1:=t1
theorem hd.tw4971549296188076032:T1:=t1
theorem hd.tw15919588324698730496:T1:=t1
theorem hd.tw8735263284916673568:T1:=t1
theorem hd.tw1800889605409440832:T1:=t1
theorem hd.tw4523669819894539328:T1:=t1
theorem hd.tw6276725880618359904:T1:=t1
theorem hd.tw17470177872615007328:T1:=t1
theorem hd.tw16412773359747925120:T1:=t1
theorem hd.tw4706079058837389440:T1:=t1
theorem hd.tw5292301768408028288:T1:=t1
theorem hd.tw6830512106363814048:T1:=t1
theorem hd.tw17950676927832955104:T1:=t1
theorem hd.tw10458740792067480800:T1:=t1
theorem hd.tw2739504486584576224:T1:=t1
theorem hd.tw17956543221229664512:T1:=t1
theorem hd.tw17387473266821786944:T1:=t1
theorem hd.tw8381844023166312768:T1:=t1
theorem hd.tw7023726343779634624:T1:=t1
theorem hd.tw8134915037123179040:T1:=t1
theorem hd.tw15344866539931968096:T1:=t1
theorem hd.tw1359830224848277088:T1:=t1
theorem hd.tw4494801613693538912:T1:=t1
theorem hd.tw7541792107247259296:T1:=t1
theorem hd.tw16154546982801380032:T1:=t1
theorem hd.tw12070654863422294720:T1:=t1
theorem hd.tw16694946328126371552:T1:=t1
theorem hd.tw7080932558258925280:T1:=t1
theorem hd.tw17183224562656869120:T1:=t1
theorem hd.tw5715356086224469760:T1:=t1
theorem hd.tw5983496337302601536:T1:=t1
theorem hd.tw15152743547302097792:T1:=t1
theorem hd.tw3350930974749635488:T1:=t1
theorem hd.tw14598272352848978880:T1:=t1
theorem hd.tw17252143746492648416:T1:=t1
theorem hd.tw10752148897807903841:T1:=t1
theorem hd.tw6636792957720756321:T1:=t1
theorem hd.tw12127338746724423809:T1:=t1
theorem hd.tw7610815399733428385:T1:=t1
theorem hd.tw10403243965636340961:T1:=t1
theorem hd.tw10409065472786389249:T1:=t1
theorem hd.tw16858285156579221889:T1:=t1
theorem hd.tw4111692666942324129:T1:=t1
theorem hd.tw4086058157674990017:T1:=t1
theorem hd.tw9429285754427346401:T1:=t1
theorem hd.tw7512474625130614241:T1:=t1
theorem hd.tw15220180469806662145:T1:=t1
theorem hd.tw16037735763661986305:T1:=t1
theorem hd.tw2315301623876862497:T1:=t1
theorem hd.tw18343703819029505601:T1:=t1
theorem hd.tw4367455430839740993:T1:=t1
theorem hd.tw8773699223549846113:T1:=t1
theorem hd.tw10678649693572172417:T1:=t1
theorem hd.tw13330244855972007585:T1:=t1
theorem hd.tw2799716289819351777:T1:=t1
theorem hd.tw5343241284826551009:T1:=t1
theorem hd.tw13218659294841961345:T1:=t1
theorem hd.tw6046454685291232161:T1:=t1
theorem hd.tw12602439190401603521:T1:=t1
theorem hd.tw7914949630228597729:T1:=t1
theorem hd.tw11210553801493137410:T1:=t1
theorem hd.tw8609351116199087170:T1:=t1
theorem hd.tw10905682514733158466:T1:=t1
theorem hd.tw14745743045033390146:T1:=t1
theorem hd.tw5480042469492414594:T1:=t1
theorem hd.tw4272726840584523970:T1:=t1
theorem hd.tw9731375825926819010:T1:=t1
theorem hd.tw13171141561276507362:T1:=t1
theorem hd.tw9430268157657104642:T1:=t1
theorem hd.tw12936449754285732098:T1:=t1
theorem hd.tw4702841417184801058:T1:=t1
theorem hd.tw12337632362937886050:T1:=t1
theorem hd.tw758273949599710562:T1:=t1
theorem hd.tw17588044629489971554:T1:=t1
theorem hd.tw12271959270614036898:T1:=t1
theorem hd.tw11713075325732132258:T1:=t1
theorem hd.tw11912922877643110818:T1:=t1
theorem hd.tw5781342201191254626:T1:=t1
theorem hd.tw7031273417212677730:T1:=t1
theorem hd.tw5549315172176941698:T1:=t1
theorem hd.tw3919010098100093602:T1:=t1
theorem hd.tw5190246844813560578:T1:=t1
theorem hd.tw7525542149764818722:T1:=t1
theorem hd.tw3173010612589774626:T1:=t1
theorem hd.tw9960721518486171458:T1:=t1
theorem hd.tw16443024508289211202:T1:=t1
theorem hd.tw14446474709323646786:T1:=t1
theorem hd.tw10365702040365258594:T1:=t1
theorem hd.tw18245042118932799458:T1:=t1
theorem hd.tw16311905421638723554:T1:=t1
theorem hd.tw2263123870574935043:T1:=t1
theorem hd.tw12364972598781006883:T1:=t1
theorem hd.tw8228950375871286339:T1:=t1
theorem hd.tw5318216170032084099:T1:=t1
theorem hd.tw17325209927041812611:T1:=t1
theorem hd.tw2304311442786299043:T1:=t1
theorem hd.tw16904818350239718627:T1:=t1
theorem hd.tw17130151131035750659:T1:=t1
theorem hd.tw15924899543223041283:T1:=t1
theorem hd.tw10847404155465417027:T1:=t1
theorem hd.tw1033889070964956483:T1:=t1
theorem hd.tw3229955645248102723:T1:=t1
theorem hd.tw5174551420813472067:T1:=t1
theorem hd.tw11754176132448286083:T1:=t1
theorem hd.tw2783992281797965187:T1:=t1
theorem hd.tw6411954120941647267:T1:=t1
theorem hd.tw4282359134580295075:T1:=t1
theorem hd.tw1760603350576429475:T1:=t1
theorem hd.tw13368278939475635651:T1:=t1
theorem hd.tw17087091549796120035:T1:=t1
theorem hd.tw9153386212771759811:T1:=t1
theorem hd.tw9908193460736022307:T1:=t1
theorem hd.tw5138769234217329475:T1:=t1
theorem hd.tw2480057099694739299:T1:=t1
theorem hd.tw11631947586910100387:T1:=t1
theorem hd.tw18293851220164018083:T1:=t1
theorem hd.tw519851828213033955:T1:=t1
theorem hd.tw17843490464661113860:T1:=t1
theorem hd.tw16477043939570097188:T1:=t1
theorem hd.tw14859038896228082724:T1:=t1
theorem hd.tw6060742912462422084:T1:=t1
theorem hd.tw6320253292602491972:T1:=t1
theorem hd.tw14896477498954680388:T1:=t1
theorem hd.tw8269573656231971908:T1:=t1
theorem hd.tw6407587892757256292:T1:=t1
theorem hd.tw17696971302532935780:T1:=t1
theorem hd.tw8990031805342692484:T1:=t1
theorem hd.tw9228397985900620932:T1:=t1
theorem hd.tw6785817131721698500:T1:=t1
theorem hd.tw5278057926702712004:T1:=t1
theorem hd.tw10841399608879689956:T1:=t1
theorem hd.tw1299046323782801668:T1:=t1
theorem hd.tw10507497572311344420:T1:=t1
theorem hd.tw14706022693812145444:T1:=t1
theorem hd.tw14892549342360969540:T1:=t1
theorem hd.tw13855946660403688772:T1:=t1
theorem hd.tw9330943631129107780:T1:=t1
theorem hd.tw8068729725432388964:T1:=t1
theorem hd.tw3722166409189360004:T1:=t1
theorem hd.tw18358800413957953924:T1:=t1
theorem hd.tw7676003278276379012:T1:=t1
theorem hd.tw3219085151875037572:T1:=t1
theorem hd.tw11465210709893060100:T1:=t1
theorem hd.tw12861998865439983172:T1:=t1
theorem hd.tw8493152586797012548:T1:=t1
theorem hd.tw7379015992945566340:T1:=t1
theorem hd.tw2323474266016966308:T1:=t1
theorem hd.tw17001982702790524580:T1:=t1
theorem hd.tw9013056391748086436:T1:=t1
theorem hd.tw5732804406350252772:T1:=t1
theorem hd.tw1241404454085649124:T1:=t1
theorem hd.tw9990345226319884068:T1:=t1
theorem hd.tw17583924267553061668:T1:=t1
theorem hd.tw8684328023851190084:T1:=t1
theorem hd.tw8458067239894703972:T1:=t1
theorem hd.tw3789350110615891812:T1:=t1
theorem hd.tw18241275227582772068:T1:=t1
theorem hd.tw14991384322417631237:T1:=t1
theorem hd.tw13122850982685727845:T1:=t1
theorem hd.tw8356816923877370021:T1:=t1
theorem hd.tw7355570028127101125:T1:=t1
theorem hd.tw12414669353804360901:T1:=t1
theorem hd.tw11375277706881905925:T1:=t1
theorem hd.tw4292457097857839397:T1:=t1
theorem hd.tw6305734824756694309:T1:=t1
theorem hd.tw9702936160620672325:T1:=t1
theorem hd.tw11893437276241958245:T1:=t1
theorem hd.tw15910714762333108613:T1:=t1
theorem hd.tw12399718760709695909:T1:=t1
theorem hd.tw4021928978595405253:T1:=t1
theorem hd.tw1847840615245081061:T1:=t1
theorem hd.tw5976792059365374437:T1:=t1
theorem hd.tw7721951785955056133:T1:=t1
theorem hd.tw11623594800819314181:T1:=t1
theorem hd.tw15790720579355451973:T1:=t1
theorem hd.tw5167245352685981253:T1:=t1
theorem hd.tw10426915916009045701:T1:=t1
theorem hd.tw9842699097658496709:T1:=t1
theorem hd.tw15637593595834871717:T1:=t1
theorem hd.tw5505005885091257285:T1:=t1
theorem hd.tw17491280204586788870:T1:=t1
theorem hd.tw13475242022060392486:T1:=t1
theorem hd.tw6555240042291301478:T1:=t1
theorem hd.tw13181700845877081190:T1:=t1
theorem hd.tw1573125329251079302:T1:=t1
theorem hd.tw10583446816852156582:T1:=t1
theorem hd.tw13466754112058979494:T1:=t1
theorem hd.tw5899666649113621702:T1:=t1
theorem hd.tw3484992998616243462:T1:=t1
theorem hd.tw8268277133935991078:T1:=t1
theorem hd.tw16211521421427940678:T1:=t1
theorem hd.tw2321503477829929318:T1:=t1
theorem hd.tw7523672394736509286:T1:=t1
theorem hd.tw3673020696563887462:T1:=t1
theorem hd.tw13092906067662860646:T1:=t1
theorem hd.tw11778180911958503814:T1:=t1
theorem hd.tw991583007596301734:T1:=t1
theorem hd.tw13066319289922817542:T1:=t1
theorem hd.tw2386827423013361158:T1:=t1
theorem hd.tw3795277891434052102:T1:=t1
theorem hd.tw10424393626065333798:T1:=t1
theorem hd.tw2295870552580634182:T1:=t1
theorem hd.tw5927567313105069670:T1:=t1
theorem hd.tw17258206423299326598:T1:=t1
theorem hd.tw17562767543260142214:T1:=t1
theorem hd.tw2195365466389143174:T1:=t1
theorem hd.tw13903934854276604550:T1:=t1
theorem hd.tw1865391376527767206:T1:=t1
theorem hd.tw4993660671451451078:T1:=t1
theorem hd.tw1506431575118746342:T1:=t1
theorem hd.tw8990313861142287110:T1:=t1
theorem hd.tw11587034568685482758:T1:=t1
theorem hd.tw13927832100657476390:T1:=t1
theorem hd.tw13893168526513508166:T1:=t1
theorem hd.tw3044193314922437478:T1:=t1
theorem hd.tw7153062008950511462:T1:=t1
theorem hd.tw9386895884608548742:T1:=t1
theorem hd.tw8934143017859847078:T1:=t1
theorem hd.tw10117440562283002822:T1:=t1
theorem hd.tw5978321128707920903:T1:=t1
theorem hd.tw15043168886218598503:T1:=t1
theorem hd.tw10844753989422098599:T1:=t1
theorem hd.tw17893044597097874663:T1:=t1
theorem hd.tw15683763237869141255:T1:=t1
theorem hd.tw17919194246423945575:T1:=t1
theorem hd.tw17062030032774818151:T1:=t1
theorem hd.tw8977307856219701671:T1:=t1
theorem hd.tw14612060388864693735:T1:=t1
theorem hd.tw5635641802508607975:T1:=t1
theorem hd.tw9783614193127449063:T1:=t1
theorem hd.tw12659318050587179527:T1:=t1
theorem hd.tw9557236495431379559:T1:=t1
theorem hd.tw13280443560766958183:T1:=t1
theorem hd.tw12058812876911547015:T1:=t1
theorem hd.tw12901994302517312135:T1:=t1
theorem hd.tw11660266114150955751:T1:=t1
theorem hd.tw7068711184596962023:T1:=t1
theorem hd.tw5054737718236178183:T1:=t1
theorem hd.tw17672654358674132775:T1:=t1
theorem hd.tw6469175993241445255:T1:=t1
theorem hd.tw7028611270464810887:T1:=t1
theorem hd.tw701787995468756871:T1:=t1
theorem hd.tw16138627921320673191:T1:=t1
theorem hd.tw8545014587354053640:T1:=t1
theorem hd.tw190519026028168232:T1:=t1
theorem hd.tw4282304852377368616:T1:=t1
theorem hd.tw8671608845466749128:T1:=t1
theorem hd.tw4091639524402994376:T1:=t1
theorem hd.tw10286656452748174568:T1:=t1
theorem hd.tw13642289790063256904:T1:=t1
theorem hd.tw10246146449241189800:T1:=t1
theorem hd.tw12949589719889679912:T1:=t1
theorem hd.tw14457593812595234344:T1:=t1
theorem hd.tw5464967688985200232:T1:=t1
theorem hd.tw18268791191939849864:T1:=t1
theorem hd.tw2708950531961675432:T1:=t1
theorem hd.tw4297731678662094536:T1:=t1
theorem hd.tw4642405928176397000:T1:=t1
theorem hd.tw162610821266807592:T1:=t1
theorem hd.tw960944832710211464:T1:=t1
theorem hd.tw17975533764899295144:T1:=t1
theorem hd.tw4870687313549177768:T1:=t1
theorem hd.tw6627881031435992008:T1:=t1
theorem hd.tw7792395482447073224:T1:=t1
theorem hd.tw11011131195910976488:T1:=t1
theorem hd.tw16376525773666504680:T1:=t1
theorem hd.tw189712035060473897:T1:=t1
theorem hd.tw7174315439194531881:T1:=t1
theorem hd.tw2040990291671593033:T1:=t1
theorem hd.tw17066044127408595049:T1:=t1
theorem hd.tw14567429538950270057:T1:=t1
theorem hd.tw4225703048834024713:T1:=t1
theorem hd.tw8652628183442184457:T1:=t1
theorem hd.tw10788059911547816233:T1:=t1
theorem hd.tw11009917854222514473:T1:=t1
theorem hd.tw9244321171653502345:T1:=t1
theorem hd.tw3903698998495071657:T1:=t1
theorem hd.tw11729958736954745289:T1:=t1
theorem hd.tw8479784124755550697:T1:=t1
theorem hd.tw1129884963351977449:T1:=t1
theorem hd.tw8184699220007379433:T1:=t1
theorem hd.tw3350844169311001129:T1:=t1
theorem hd.tw137786328141462057:T1:=t1
theorem hd.tw5009564483982726761:T1:=t1
theorem hd.tw17925215291927510665:T1:=t1
theorem hd.tw567884609423149705:T1:=t1
theorem hd.tw663384727985864361:T1:=t1
theorem hd.tw14040608126747316905:T1:=t1
theorem hd.tw9627899436633539337:T1:=t1
theorem hd.tw243823211424636713:T1:=t1
theorem hd.tw9566141503761928105:T1:=t1
theorem hd.tw5148922909946612681:T1:=t1
theorem hd.tw3915529967508079626:T1:=t1
theorem hd.tw18264374347568628810:T1:=t1
theorem hd.tw6906073325868019850:T1:=t1
theorem hd.tw7120233287515763914:T1:=t1
theorem hd.tw16009884308244765898:T1:=t1
theorem hd.tw6898005170327248138:T1:=t1
theorem hd.tw10778257442750969130:T1:=t1
theorem hd.tw9406673726873002282:T1:=t1
theorem hd.tw6804821044290156842:T1:=t1
theorem hd.tw16794629799341752650:T1:=t1
theorem hd.tw7654286748164834634:T1:=t1
theorem hd.tw5416991563250132298:T1:=t1
theorem hd.tw4383666589626881386:T1:=t1
theorem hd.tw242841246431481386:T1:=t1
theorem hd.tw14492701947808656938:T1:=t1
theorem hd.tw17143205804819765802:T1:=t1
theorem hd.tw6528754448969337418:T1:=t1
theorem hd.tw10603584201595350602:T1:=t1
theorem hd.tw4360684699965382250:T1:=t1
theorem hd.tw9132557439983319658:T1:=t1
theorem hd.tw656455966557771466:T1:=t1
theorem hd.tw1563692795949630186:T1:=t1
theorem hd.tw12487502673411948298:T1:=t1
theorem hd.tw500953250457666378:T1:=t1
theorem hd.tw4478964076566166474:T1:=t1
theorem hd.tw17737187407176874954:T1:=t1
theorem hd.tw12112201142124510154:T1:=t1
theorem hd.tw9271970288684553227:T1:=t1
theorem hd.tw5513025101015932971:T1:=t1
theorem hd.tw8244733829118024811:T1:=t1
theorem hd.tw12239354291974867115:T1:=t1
theorem hd.tw3443669649825651883:T1:=t1
theorem hd.tw9449672872311958731:T1:=t1
theorem hd.tw12832683148521936107:T1:=t1
theorem hd.tw18176940659606848779:T1:=t1
theorem hd.tw17628472586750557451:T1:=t1
theorem hd.tw11917015161858427179:T1:=t1
theorem hd.tw6449127861642672459:T1:=t1
theorem hd.tw17070941380808615275:T1:=t1
theorem hd.tw9170477692918782315:T1:=t1
theorem hd.tw10030107230732127627:T1:=t1
theorem hd.tw15463257786427224491:T1:=t1
theorem hd.tw17054507655720011243:T1:=t1
theorem hd.tw313027258313007627:T1:=t1
theorem hd.tw7534799579077118603:T1:=t1
theorem hd.tw9741134391959003819:T1:=t1
theorem hd.tw15089522573102190283:T1:=t1
theorem hd.tw7582013449568394955:T1:=t1
theorem hd.tw10743916045514856203:T1:=t1
theorem hd.tw9748044761591592747:T1:=t1
theorem hd.tw8727321023445011275:T1:=t1
theorem hd.tw2999033326186475339:T1:=t1
theorem hd.tw8242931771332617035:T1:=t1
theorem hd.tw8716120427605611371:T1:=t1
theorem hd.tw6196171512934965099:T1:=t1
theorem hd.tw16896567674234606475:T1:=t1
theorem hd.tw978945382295711627:T1:=t1
theorem hd.tw7640094616464845771:T1:=t1
theorem hd.tw6264232113106981867:T1:=t1
theorem hd.tw4136554803537287180:T1:=t1
theorem hd.tw6394381022753523788:T1:=t1
theorem hd.tw1836080755315867724:T1:=t1
theorem hd.tw13217827037086042188:T1:=t1
theorem hd.tw12647368939536790636:T1:=t1
theorem hd.tw6186238094035137676:T1:=t1
theorem hd.tw1043307727769730188:T1:=t1
theorem hd.tw3922637787740509324:T1:=t1
theorem hd.tw1535757262459896012:T1:=t1
theorem hd.tw14060154772996877548:T1:=t1
theorem hd.tw16299908979028503884:T1:=t1
theorem hd.tw12092154237167983948:T1:=t1
theorem hd.tw8977460988437922124:T1:=t1
theorem hd.tw2930668341846507884:T1:=t1
theorem hd.tw5535567543195554156:T1:=t1
theorem hd.tw17711083657039698284:T1:=t1
theorem hd.tw12575139184659369484:T1:=t1
theorem hd.tw5873113503399164460:T1:=t1
theorem hd.tw15687388767607454252:T1:=t1
theorem hd.tw6482722132109649516:T1:=t1
theorem hd.tw5130813555471234732:T1:=t1
theorem hd.tw8004679753235328684:T1:=t1
theorem hd.tw17948085552500728524:T1:=t1
theorem hd.tw8324504678176258764:T1:=t1
theorem hd.tw7270182246851987180:T1:=t1
theorem hd.tw12588582704262371052:T1:=t1
theorem hd.tw9459050058782445324:T1:=t1
theorem hd.tw14683707025165767436:T1:=t1
theorem hd.tw10292235466723388172:T1:=t1
theorem hd.tw6819123309680001836:T1:=t1
theorem hd.tw15368132723985388332:T1:=t1
theorem hd.tw12023040214023829324:T1:=t1
theorem hd.tw16171809288044610508:T1:=t1
theorem hd.tw10781468475247234061:T1:=t1
theorem hd.tw15837987909243819085:T1:=t1
theorem hd.tw1409312971732116557:T1:=t1
theorem hd.tw257007361410690125:T1:=t1
theorem hd.tw5010264101278932077:T1:=t1
theorem hd.tw4833718069199227053:T1:=t1
theorem hd.tw16332348944364537037:T1:=t1
theorem hd.tw1013155817946168525:T1:=t1
theorem hd.tw14060237666301923597:T1:=t1
theorem hd.tw14743440263598761229:T1:=t1
theorem hd.tw17688364814195531053:T1:=t1
theorem hd.tw16919406825032445293:T1:=t1
theorem hd.tw9325612240067072397:T1:=t1
theorem hd.tw6079173187612997037:T1:=t1
theorem hd.tw8457440626546761165:T1:=t1
theorem hd.tw17386561741084979693:T1:=t1
theorem hd.tw4377701919642642989:T1:=t1
theorem hd.tw3404104791013757517:T1:=t1
theorem hd.tw16828841361933241965:T1:=t1
theorem hd.tw6184208073178115725:T1:=t1
theorem hd.tw16546736560662234797:T1:=t1
theorem hd.tw5036846961687405229:T1:=t1
theorem hd.tw4068527845204499245:T1:=t1
theorem hd.tw16240987189780228909:T1:=t1
theorem hd.tw17606422857730326317:T1:=t1
theorem hd.tw11249132867342737325:T1:=t1
theorem hd.tw10404513684093684653:T1:=t1
theorem hd.tw13929354066492186541:T1:=t1
theorem hd.tw9577689765879766989:T1:=t1
theorem hd.tw1088296927520436173:T1:=t1
theorem hd.tw10614716105012338702:T1:=t1
theorem hd.tw11801993109049149486:T1:=t1
theorem hd.tw9398405308114057262:T1:=t1
theorem hd.tw14980023328507725902:T1:=t1
theorem hd.tw11968265576560266318:T1:=t1
theorem hd.tw7880807054014371918:T1:=t1
theorem hd.tw14294001040229213422:T1:=t1
theorem hd.tw4654797750381630734:T1:=t1
theorem hd.tw17311223219408574766:T1:=t1
theorem hd.tw17989097746536338734:T1:=t1
theorem hd.tw9617658007855726926:T1:=t1
theorem hd.tw678209747344391502:T1:=t1
theorem hd.tw10203026625882799534:T1:=t1
theorem hd.tw185848376630758926:T1:=t1
theorem hd.tw3429492842335990350:T1:=t1
theorem hd.tw12952509933414984302:T1:=t1
theorem hd.tw10531373872144210542:T1:=t1
theorem hd.tw12940713784782232206:T1:=t1
theorem hd.tw3608708970678896270:T1:=t1
theorem hd.tw1781861727890032366:T1:=t1
theorem hd.tw9555612238305686254:T1:=t1
theorem hd.tw4159134105002834734:T1:=t1
theorem hd.tw16722109127936396110:T1:=t1
theorem hd.tw14553816603554493358:T1:=t1
theorem hd.tw9345929723534960622:T1:=t1
theorem hd.tw12268275109542032366:T1:=t1
theorem hd.tw6818987989461384207:T1:=t1
theorem hd.tw13363553139645760527:T1:=t1
theorem hd.tw1452849714261714991:T1:=t1
theorem hd.tw11507959949525687343:T1:=t1
theorem hd.tw12273058598527411343:T1:=t1
theorem hd.tw15616948245753086127:T1:=t1
theorem hd.tw2442259710966052079:T1:=t1
theorem hd.tw12521463284412890351:T1:=t1
theorem hd.tw17330132731328240911:T1:=t1
theorem hd.tw8587404781116728655:T1:=t1
theorem hd.tw6082411064634330575:T1:=t1
theorem hd.tw3493717111155160527:T1:=t1
theorem hd.tw3759623122121258479:T1:=t1
theorem hd.tw12631932088317031055:T1:=t1
theorem hd.tw10012880186880212623:T1:=t1
theorem hd.tw11709330566771433103:T1:=t1
theorem hd.tw5987830557187376847:T1:=t1
theorem hd.tw17471934795394947791:T1:=t1
theorem hd.tw6990203504111849199:T1:=t1
theorem hd.tw18095200977026478895:T1:=t1
theorem hd.tw2101469004524951375:T1:=t1
theorem hd.tw11319892378374348655:T1:=t1
theorem hd.tw9657781627882305391:T1:=t1
theorem hd.tw13315533130655954831:T1:=t1
theorem hd.tw8879563391730754479:T1:=t1
theorem hd.tw16649331688326792143:T1:=t1
theorem hd.tw16698745307106531279:T1:=t1
theorem hd.tw1197925565968671727:T1:=t1
theorem hd.tw15207398651663016943:T1:=t1
theorem hd.tw10111801491309104144:T1:=t1
theorem hd.tw402640490398009360:T1:=t1
theorem hd.tw8801323125487838256:T1:=t1
theorem hd.tw15427206886491885616:T1:=t1
theorem hd.tw16011055738799735888:T1:=t1
theorem hd.tw14776386843196574960:T1:=t1
theorem hd.tw3966326544868389200:T1:=t1
theorem hd.tw10491609206876299696:T1:=t1
theorem hd.tw11115866451450875312:T1:=t1
theorem hd.tw940617070666608080:T1:=t1
theorem hd.tw16853341256802265648:T1:=t1
theorem hd.tw13285133528070534704:T1:=t1
theorem hd.tw7152984921513172624:T1:=t1
theorem hd.tw1712922718373300912:T1:=t1
theorem hd.tw7382370116671421104:T1:=t1
theorem hd.tw4856431653887292112:T1:=t1
theorem hd.tw14667805832236412624:T1:=t1
theorem hd.tw13518370688599389936:T1:=t1
theorem hd.tw8351282476255451920:T1:=t1
theorem hd.tw11551083187376567056:T1:=t1
theorem hd.tw15595854959937240912:T1:=t1
theorem hd.tw12614811148066621264:T1:=t1
theorem hd.tw17902569758825723728:T1:=t1
theorem hd.tw6755925336976613232:T1:=t1
theorem hd.tw7752569895197466512:T1:=t1
theorem hd.tw15279998641719260112:T1:=t1
theorem hd.tw16178712458983371728:T1:=t1
theorem hd.tw3434918251397683217:T1:=t1
theorem hd.tw13790719812936386609:T1:=t1
theorem hd.tw13322179722446271537:T1:=t1
theorem hd.tw876933089483189297:T1:=t1
theorem hd.tw15527848837575444561:T1:=t1
theorem hd.tw17213754286329925777:T1:=t1
theorem hd.tw5247051413645994129:T1:=t1
theorem hd.tw4768578896829404305:T1:=t1
theorem hd.tw2000490053193787569:T1:=t1
theorem hd.tw432457690288141553:T1:=t1
theorem hd.tw280609765759037681:T1:=t1
theorem hd.tw14705683404202351889:T1:=t1
theorem hd.tw100483095206116625:T1:=t1
theorem hd.tw15946356160694317329:T1:=t1
theorem hd.tw6882427118574961969:T1:=t1
theorem hd.tw1005483496087919985:T1:=t1
theorem hd.tw17903497710992402801:T1:=t1
theorem hd.tw6615107907471364465:T1:=t1
theorem hd.tw16634568088961857937:T1:=t1
theorem hd.tw15852365999677673905:T1:=t1
theorem hd.tw16056359734778111409:T1:=t1
theorem hd.tw7082855905992002993:T1:=t1
theorem hd.tw11034497122203965937:T1:=t1
theorem hd.tw8015326511298524721:T1:=t1
theorem hd.tw13220430256171166289:T1:=t1
theorem hd.tw3828038474966422129:T1:=t1
theorem hd.tw12113243949977362033:T1:=t1
theorem hd.tw5961118342813265553:T1:=t1
theorem hd.tw1603739661141634737:T1:=t1
theorem hd.tw8117029840178788049:T1:=t1
theorem hd.tw4990156530697904881:T1:=t1
theorem hd.tw1208734638264122097:T1:=t1
theorem hd.tw6545403380812914513:T1:=t1
theorem hd.tw7317836474542784337:T1:=t1
theorem hd.tw8191903926673212241:T1:=t1
theorem hd.tw6578402527460240241:T1:=t1
theorem hd.tw16053994301053490033:T1:=t1
theorem hd.tw5716766192118558609:T1:=t1
theorem hd.tw16029623286316568529:T1:=t1
theorem hd.tw6759412095888398321:T1:=t1
theorem hd.tw8683856772340465682:T1:=t1
theorem hd.tw368366308016060594:T1:=t1
theorem hd.tw2391449824757734642:T1:=t1
theorem hd.tw8025032847418708242:T1:=t1
theorem hd.tw11749099774412794130:T1:=t1
theorem hd.tw9641152695372364146:T1:=t1
theorem hd.tw15166520500009309586:T1:=t1
theorem hd.tw9499510787657705874:T1:=t1
theorem hd.tw15813434630575017362:T1:=t1
theorem hd.tw7754304195085646258:T1:=t1
theorem hd.tw5366084841770067474:T1:=t1
theorem hd.tw2167537188350426706:T1:=t1
theorem hd.tw5282504435634884242:T1:=t1
theorem hd.tw17377529257436501650:T1:=t1
theorem hd.tw250903467453971090:T1:=t1
theorem hd.tw16257038226119295666:T1:=t1
theorem hd.tw1580110805410547442:T1:=t1
theorem hd.tw10465514089279642386:T1:=t1
theorem hd.tw10525666975642140466:T1:=t1
theorem hd.tw14560493823538711346:T1:=t1
theorem hd.tw9298403506768410418:T1:=t1
theorem hd.tw6293948785866598258:T1:=t1
theorem hd.tw12629568148972539762:T1:=t1
theorem hd.tw7296583596125217682:T1:=t1
theorem hd.tw8112040973832200146:T1:=t1
theorem hd.tw1097998534492414930:T1:=t1
theorem hd.tw15083628210047938546:T1:=t1
theorem hd.tw9513423893830186035:T1:=t1
theorem hd.tw10601615944963115059:T1:=t1
theorem hd.tw561391293025646643:T1:=t1
theorem hd.tw17429513623812275283:T1:=t1
theorem hd.tw8538877666451538035:T1:=t1
theorem hd.tw3694398316872202419:T1:=t1
theorem hd.tw10806950440038215891:T1:=t1
theorem hd.tw5567388512258382067:T1:=t1
theorem hd.tw5657824000916062451:T1:=t1
theorem hd.tw17454471701868102899:T1:=t1
theorem hd.tw5238241317806426387:T1:=t1
theorem hd.tw12590977762386282803:T1:=t1
theorem hd.tw7289634563603522867:T1:=t1
theorem hd.tw16945582573551092051:T1:=t1
theorem hd.tw16502264421070913907:T1:=t1
theorem hd.tw16006246977917349235:T1:=t1
theorem hd.tw17495340751864218003:T1:=t1
theorem hd.tw1382963296337349011:T1:=t1
theorem hd.tw16432713993328977331:T1:=t1
theorem hd.tw7793673504863384051:T1:=t1
theorem hd.tw1379335367625716243:T1:=t1
theorem hd.tw17772917993097084435:T1:=t1
theorem hd.tw5363564295841288755:T1:=t1
theorem hd.tw11151547217846952531:T1:=t1
theorem hd.tw18103342009636024947:T1:=t1
theorem hd.tw4115565904173853331:T1:=t1
theorem hd.tw14984183105004643987:T1:=t1
theorem hd.tw3008623586974134963:T1:=t1
theorem hd.tw920214292312260371:T1:=t1
theorem hd.tw16640546478005224243:T1:=t1
theorem hd.tw11852641145169952659:T1:=t1
theorem hd.tw4015398097383911347:T1:=t1
theorem hd.tw13409441903868389331:T1:=t1
theorem hd.tw8789358453043137523:T1:=t1
theorem hd.tw18103420901670897651:T1:=t1
theorem hd.tw4851647983119433812:T1:=t1
theorem hd.tw10986063751678176500:T1:=t1
theorem hd.tw15529170255622000948:T1:=t1
theorem hd.tw6164396464334811476:T1:=t1
theorem hd.tw7540655947842036084:T1:=t1
theorem hd.tw6547078798241139092:T1:=t1
theorem hd.tw7339039647409124788:T1:=t1
theorem hd.tw15422856539912107476:T1:=t1
theorem hd.tw15527123077182705108:T1:=t1
theorem hd.tw6998783941825042932:T1:=t1
theorem hd.tw7366208706002141716:T1:=t1
theorem hd.tw4725425184044842548:T1:=t1
theorem hd.tw4014540891139286612:T1:=t1
theorem hd.tw7540741092611519060:T1:=t1
theorem hd.tw18293732401869909652:T1:=t1
theorem hd.tw11256106856564762260:T1:=t1
theorem hd.tw9131607905817354932:T1:=t1
theorem hd.tw4176768124294323924:T1:=t1
theorem hd.tw10738003575532504788:T1:=t1
theorem hd.tw13994979335412520660:T1:=t1
theorem hd.tw14439243815434019604:T1:=t1
theorem hd.tw697623264460660564:T1:=t1
theorem hd.tw1997569388931296116:T1:=t1
theorem hd.tw6136932545381038964:T1:=t1
theorem hd.tw226724450230711188:T1:=t1
theorem hd.tw9258712216579463092:T1:=t1
theorem hd.tw17542962492245011380:T1:=t1
theorem hd.tw5629675986466331604:T1:=t1
theorem hd.tw1439246655266547700:T1:=t1
theorem hd.tw6598312636042714100:T1:=t1
theorem hd.tw11915594877312485397:T1:=t1
theorem hd.tw17234923516513369237:T1:=t1
theorem hd.tw11162318198679636149:T1:=t1
theorem hd.tw9496365245306024149:T1:=t1
theorem hd.tw12870888531099404533:T1:=t1
theorem hd.tw8392590487178853653:T1:=t1
theorem hd.tw9753359207989701909:T1:=t1
theorem hd.tw17703440808498902325:T1:=t1
theorem hd.tw13225837485096350037:T1:=t1
theorem hd.tw6442067068224118133:T1:=t1
theorem hd.tw11663481321943121269:T1:=t1
theorem hd.tw14103535550066685397:T1:=t1
theorem hd.tw10264135568141901301:T1:=t1
theorem hd.tw2608437505485318709:T1:=t1
theorem hd.tw17673860158736603733:T1:=t1
theorem hd.tw13474097485772985973:T1:=t1
theorem hd.tw16357263729072622229:T1:=t1
theorem hd.tw12173100003817136821:T1:=t1
theorem hd.tw9215827820722605749:T1:=t1
theorem hd.tw7494724483528729301:T1:=t1
theorem hd.tw2042292140826266357:T1:=t1
theorem hd.tw15508949281206285077:T1:=t1
theorem hd.tw12459740579856956213:T1:=t1
theorem hd.tw5486487638281291605:T1:=t1
theorem hd.tw16302227732802510677:T1:=t1
theorem hd.tw13609717118414637909:T1:=t1
theorem hd.tw13483081372092288885:T1:=t1
theorem hd.tw1666387254794493845:T1:=t1
theorem hd.tw9427301549700849589:T1:=t1
theorem hd.tw3941438180925939637:T1:=t1
theorem hd.tw1425423193147277237:T1:=t1
theorem hd.tw6820862383352777685:T1:=t1
theorem hd.tw10919297434634762262:T1:=t1
theorem hd.tw8965841893048198262:T1:=t1
theorem hd.tw6291416237084387574:T1:=t1
theorem hd.tw8343274005884668182:T1:=t1
theorem hd.tw1848646778235469078:T1:=t1
theorem hd.tw3513125359445811510:T1:=t1
theorem hd.tw4126306136578151734:T1:=t1
theorem hd.tw1413172679324656950:T1:=t1
theorem hd.tw16473244170626142550:T1:=t1
theorem hd.tw16713699803418581334:T1:=t1
theorem hd.tw9155422001095189878:T1:=t1
theorem hd.tw3452082135128663414:T1:=t1
theorem hd.tw15610959940260225430:T1:=t1
theorem hd.tw11814627755841444246:T1:=t1
theorem hd.tw7261450039545342454:T1:=t1
theorem hd.tw16155205043701107222:T1:=t1
theorem hd.tw7752767780024739350:T1:=t1
theorem hd.tw17420951861521290806:T1:=t1
theorem hd.tw12480425521718506038:T1:=t1
theorem hd.tw12131494931117144662:T1:=t1
theorem hd.tw3816877163431070358:T1:=t1
theorem hd.tw658494146261299958:T1:=t1
theorem hd.tw8428860471423672150:T1:=t1
theorem hd.tw4138081844389336918:T1:=t1
theorem hd.tw8770659054964912022:T1:=t1
theorem hd.tw15367242080415987702:T1:=t1
theorem hd.tw6184460063843016694:T1:=t1
theorem hd.tw15615537253650120727:T1:=t1
theorem hd.tw11905163887095721015:T1:=t1
theorem hd.tw10098268173465320503:T1:=t1
theorem hd.tw14029546391885035639:T1:=t1
theorem hd.tw2216850387143573719:T1:=t1
theorem hd.tw2448417245163862455:T1:=t1
theorem hd.tw5283464899586487735:T1:=t1
theorem hd.tw10955317050725887447:T1:=t1
theorem hd.tw16970440968685349367:T1:=t1
theorem hd.tw13783031573616600631:T1:=t1
theorem hd.tw3442329435671937591:T1:=t1
theorem hd.tw16064382804478563927:T1:=t1
theorem hd.tw8044012406986999415:T1:=t1
theorem hd.tw14438451200097066615:T1:=t1
theorem hd.tw15416985209724490359:T1:=t1
theorem hd.tw7292484366425897655:T1:=t1
theorem hd.tw12393119488966705847:T1:=t1
theorem hd.tw9631708518359487223:T1:=t1
theorem hd.tw3381375190539634487:T1:=t1
theorem hd.tw13468300074154594103:T1:=t1
theorem hd.tw307737655149646647:T1:=t1
theorem hd.tw10879034167726328663:T1:=t1
theorem hd.tw9073681462420916055:T1:=t1
theorem hd.tw6879831473291441079:T1:=t1
theorem hd.tw13632086890793258935:T1:=t1
theorem hd.tw2134215046882385847:T1:=t1
theorem hd.tw11389486352061984695:T1:=t1
theorem hd.tw11136197038861592535:T1:=t1
theorem hd.tw2788664435532181463:T1:=t1
theorem hd.tw6140570298594658328:T1:=t1
theorem hd.tw2951005344575393816:T1:=t1
theorem hd.tw7354087734392854552:T1:=t1
theorem hd.tw15946388913382835224:T1:=t1
theorem hd.tw9345676750909349944:T1:=t1
theorem hd.tw16456969618363192440:T1:=t1
theorem hd.tw18300207936620678264:T1:=t1
theorem hd.tw5562173858411828344:T1:=t1
theorem hd.tw262745018181394680:T1:=t1
theorem hd.tw17650839729002327288:T1:=t1
theorem hd.tw2799067240506288376:T1:=t1
theorem hd.tw2274498078352570744:T1:=t1
theorem hd.tw14768889098011018680:T1:=t1
theorem hd.tw15759970867653108152:T1:=t1
theorem hd.tw13866372431405929976:T1:=t1
theorem hd.tw26425463804135960:T1:=t1
theorem hd.tw13267510147771200024:T1:=t1
theorem hd.tw4460028404104711736:T1:=t1
theorem hd.tw7191455744419660376:T1:=t1
theorem hd.tw12769127236821124696:T1:=t1
theorem hd.tw15048261121198461528:T1:=t1
theorem hd.tw14176624398918483544:T1:=t1
theorem hd.tw3333446698644548216:T1:=t1
theorem hd.tw10727248033764811480:T1:=t1
theorem hd.tw8516288146210602744:T1:=t1
theorem hd.tw8770205317985620760:T1:=t1
theorem hd.tw18163647496604598072:T1:=t1
theorem hd.tw3920623390966001496:T1:=t1
theorem hd.tw701333769924781912:T1:=t1
theorem hd.tw10778013660560245624:T1:=t1
theorem hd.tw10860895700388868024:T1:=t1
theorem hd.tw15987713032478767096:T1:=t1
theorem hd.tw12994019391074448376:T1:=t1
theorem hd.tw4065347644161347641:T1:=t1
theorem hd.tw13342606739435360313:T1:=t1
theorem hd.tw17088047866570459193:T1:=t1
theorem hd.tw732345407407602841:T1:=t1
theorem hd.tw1588505670450824345:T1:=t1
theorem hd.tw728884934406724761:T1:=t1
theorem hd.tw2603259988358896889:T1:=t1
theorem hd.tw5859118754885311737:T1:=t1
theorem hd.tw2845679848157327705:T1:=t1
theorem hd.tw18291419657060728153:T1:=t1
theorem hd.tw14006173549557618073:T1:=t1
theorem hd.tw15411387601460861337:T1:=t1
theorem hd.tw1222794163293265305:T1:=t1
theorem hd.tw11364443708160879001:T1:=t1
theorem hd.tw10784824025267889561:T1:=t1
theorem hd.tw11399449904127653305:T1:=t1
theorem hd.tw11054480109507316185:T1:=t1
theorem hd.tw2922222751358710265:T1:=t1
theorem hd.tw3953601041324332601:T1:=t1
theorem hd.tw8317466277049474617:T1:=t1
theorem hd.tw12350410155528471161:T1:=t1
theorem hd.tw881544763273948857:T1:=t1
theorem hd.tw10154603938050804473:T1:=t1
theorem hd.tw3940546777539579641:T1:=t1
theorem hd.tw17574625026820762457:T1:=t1
theorem hd.tw17330945745186091897:T1:=t1
theorem hd.tw8081886968326746073:T1:=t1
theorem hd.tw6982297934935202809:T1:=t1
theorem hd.tw17047115858639842297:T1:=t1
theorem hd.tw13047593935725612058:T1:=t1
theorem hd.tw13132618709999183898:T1:=t1
theorem hd.tw7854228177987924090:T1:=t1
theorem hd.tw5902613922787404954:T1:=t1
theorem hd.tw15673258824015622330:T1:=t1
theorem hd.tw3496965988886986938:T1:=t1
theorem hd.tw11953376511379268794:T1:=t1
theorem hd.tw14673209030070457562:T1:=t1
theorem hd.tw10604169790165778682:T1:=t1
theorem hd.tw541196102884509978:T1:=t1
theorem hd.tw12050417470231563642:T1:=t1
theorem hd.tw5592360268479517082:T1:=t1
theorem hd.tw464777395874653626:T1:=t1
theorem hd.tw1147470481896660410:T1:=t1
theorem hd.tw9421340871869096474:T1:=t1
theorem hd.tw7053684537722995226:T1:=t1
theorem hd.tw1600037746751723098:T1:=t1
theorem hd.tw7698358502638924378:T1:=t1
theorem hd.tw7526368328331116154:T1:=t1
theorem hd.tw5373601922739893978:T1:=t1
theorem hd.tw14960593345356199642:T1:=t1
theorem hd.tw16157073509204512506:T1:=t1
theorem hd.tw7598622570094877466:T1:=t1
theorem hd.tw11232374478483605306:T1:=t1
theorem hd.tw11652457597714270106:T1:=t1
theorem hd.tw13038990169509382042:T1:=t1
theorem hd.tw8273930003744585626:T1:=t1
theorem hd.tw1610171440888473627:T1:=t1
theorem hd.tw7927469264209771579:T1:=t1
theorem hd.tw12685813987229840507:T1:=t1
theorem hd.tw14137390275340422267:T1:=t1
theorem hd.tw11032806212648032379:T1:=t1
theorem hd.tw15103106377680225435:T1:=t1
theorem hd.tw14353793391729792155:T1:=t1
theorem hd.tw11079593142295127227:T1:=t1
theorem hd.tw11672842613191775419:T1:=t1
theorem hd.tw128412058910260475:T1:=t1
theorem hd.tw14478148883734587675:T1:=t1
theorem hd.tw4819202231147424091:T1:=t1
theorem hd.tw6767318904944593275:T1:=t1
theorem hd.tw2051048951616859547:T1:=t1
theorem hd.tw10024716035694756283:T1:=t1
theorem hd.tw13828106393651249627:T1:=t1
theorem hd.tw17491317419825422843:T1:=t1
theorem hd.tw2808349399557158395:T1:=t1
theorem hd.tw5388632664720090651:T1:=t1
theorem hd.tw16007149819294483003:T1:=t1
theorem hd.tw3085183777334472315:T1:=t1
theorem hd.tw14120982254508448379:T1:=t1
theorem hd.tw2068664650715991707:T1:=t1
theorem hd.tw518976864732996251:T1:=t1
theorem hd.tw9087110039335098043:T1:=t1
theorem hd.tw9719896912496429819:T1:=t1
theorem hd.tw17177331786930743035:T1:=t1
theorem hd.tw1792636949448641307:T1:=t1
theorem hd.tw6965799899956892507:T1:=t1
theorem hd.tw3878383114103592795:T1:=t1
theorem hd.tw15642763164714097627:T1:=t1
theorem hd.tw13770079208771991547:T1:=t1
theorem hd.tw16487816990975572028:T1:=t1
theorem hd.tw1118553966540926140:T1:=t1
theorem hd.tw15634565183472343292:T1:=t1
theorem hd.tw11319097763535126812:T1:=t1
theorem hd.tw13365295217650922812:T1:=t1
theorem hd.tw395138700845864316:T1:=t1
theorem hd.tw17338393360081815004:T1:=t1
theorem hd.tw4817003022231809500:T1:=t1
theorem hd.tw14194692369981509116:T1:=t1
theorem hd.tw15615420239508185596:T1:=t1
theorem hd.tw12591134339009171964:T1:=t1
theorem hd.tw16091413853298234908:T1:=t1
theorem hd.tw15298718440444336668:T1:=t1
theorem hd.tw12972914230804863516:T1:=t1
theorem hd.tw2887051446865420828:T1:=t1
theorem hd.tw7578210074245671484:T1:=t1
theorem hd.tw13629619172449357372:T1:=t1
theorem hd.tw1699103778626983548:T1:=t1
theorem hd.tw10210669037155785340:T1:=t1
theorem hd.tw3451239065008710300:T1:=t1
theorem hd.tw17599816209265215132:T1:=t1
theorem hd.tw2327210489368252092:T1:=t1
theorem hd.tw2252305205657439004:T1:=t1
theorem hd.tw4182648748547736412:T1:=t1
theorem hd.tw13160604113216922460:T1:=t1
theorem hd.tw1194904439430580092:T1:=t1
theorem hd.tw4402725079659364252:T1:=t1
theorem hd.tw11117797201346649052:T1:=t1
theorem hd.tw14852329139284432860:T1:=t1
theorem hd.tw1331086792558400476:T1:=t1
theorem hd.tw17986969038992634876:T1:=t1
theorem hd.tw18219297243305740317:T1:=t1
theorem hd.tw13289513938125300765:T1:=t1
theorem hd.tw922143313871775805:T1:=t1
theorem hd.tw15199589371867527261:T1:=t1
theorem hd.tw3291281947507527901:T1:=t1
theorem hd.tw4363365295628954845:T1:=t1
theorem hd.tw15992342658441690333:T1:=t1
theorem hd.tw3876449026389394717:T1:=t1
theorem hd.tw2493985911018215709:T1:=t1
theorem hd.tw833173182276230429:T1:=t1
theorem hd.tw5433107678231618845:T1:=t1
theorem hd.tw17714235663813219645:T1:=t1
theorem hd.tw2457190517430149469:T1:=t1
theorem hd.tw2855845756224970109:T1:=t1
theorem hd.tw16868993833207775613:T1:=t1
theorem hd.tw4478177076189095293:T1:=t1
theorem hd.tw6924109203229866365:T1:=t1
theorem hd.tw9390866547671247325:T1:=t1
theorem hd.tw10792051664901133789:T1:=t1
theorem hd.tw14462709497994964445:T1:=t1
theorem hd.tw5608270528595127837:T1:=t1
theorem hd.tw13532847315355080253:T1:=t1
theorem hd.tw18330183385023645277:T1:=t1
theorem hd.tw7763873220885509757:T1:=t1
theorem hd.tw3646829019195819677:T1:=t1
theorem hd.tw3704167492566942397:T1:=t1
theorem hd.tw526207354791536317:T1:=t1
theorem hd.tw13531707123254989501:T1:=t1
theorem hd.tw15967140613478806237:T1:=t1
theorem hd.tw15578025631644234493:T1:=t1
theorem hd.tw845060206244984605:T1:=t1
theorem hd.tw8226494294326810461:T1:=t1
theorem hd.tw4479480825957296061:T1:=t1
theorem hd.tw15833661619300960221:T1:=t1
theorem hd.tw12509009523430927325:T1:=t1
theorem hd.tw9277588360372424766:T1:=t1
theorem hd.tw3182187488490625086:T1:=t1
theorem hd.tw16194383521188589630:T1:=t1
theorem hd.tw11631869004601391166:T1:=t1
theorem hd.tw3386092968808520798:T1:=t1
theorem hd.tw7746578258024575070:T1:=t1
theorem hd.tw11785442959627412574:T1:=t1
theorem hd.tw3835178325580970078:T1:=t1
theorem hd.tw6838551448383532254:T1:=t1
theorem hd.tw4643362625855044894:T1:=t1
theorem hd.tw7451428367024993598:T1:=t1
theorem hd.tw13638418597567726942:T1:=t1
theorem hd.tw16259696140248634718:T1:=t1
theorem hd.tw4172343393113369950:T1:=t1
theorem hd.tw17681399029576232318:T1:=t1
theorem hd.tw3419581819265744254:T1:=t1
theorem hd.tw6975569028235372958:T1:=t1
theorem hd.tw8664936974563722654:T1:=t1
theorem hd.tw8312999807965096350:T1:=t1
theorem hd.tw17901334829092211166:T1:=t1
theorem hd.tw8210421348078903774:T1:=t1
theorem hd.tw18281552677152161246:T1:=t1
theorem hd.tw17739348878880393726:T1:=t1
theorem hd.tw13293453174229064190:T1:=t1
theorem hd.tw2329189449893159454:T1:=t1
theorem hd.tw9533747618267967006:T1:=t1
theorem hd.tw3480954088277226078:T1:=t1
theorem hd.tw9763420282994701918:T1:=t1
theorem hd.tw7510230149288206974:T1:=t1
theorem hd.tw16301592386811335294:T1:=t1
theorem hd.tw17312999752573914782:T1:=t1
theorem hd.tw12744807935193187038:T1:=t1
theorem hd.tw8047900516022102942:T1:=t1
theorem hd.tw14620637471214046174:T1:=t1
theorem hd.tw6423634429210846174:T1:=t1
theorem hd.tw14955159897011116063:T1:=t1
theorem hd.tw6931407450589930559:T1:=t1
theorem hd.tw12070051907170230399:T1:=t1
theorem hd.tw3530705653197291679:T1:=t1
theorem hd.tw6761669909254768831:T1:=t1
theorem hd.tw4478166936697009375:T1:=t1
theorem hd.tw7712595579559962911:T1:=t1
theorem hd.tw1954109241102656831:T1:=t1
theorem hd.tw5505332120971382143:T1:=t1
theorem hd.tw825126770350376351:T1:=t1
theorem hd.tw2284436838669742495:T1:=t1
theorem hd.tw9420132969298855359:T1:=t1
theorem hd.tw15277330632498426303:T1:=t1
theorem hd.tw12611767792052310623:T1:=t1
theorem hd.tw2781682124601125471:T1:=t1
theorem hd.tw10543509907540572799:T1:=t1
theorem hd.tw11283319371284918911:T1:=t1
theorem hd.tw5245234834050458271:T1:=t1
theorem hd.tw442638132926106271:T1:=t1
theorem hd.tw14400467628812073631:T1:=t1
theorem hd.tw8589211134812392127:T1:=t1
theorem hd.tw3309697970292668127:T1:=t1
theorem hd.tw7006195865600381663:T1:=t1
theorem hd.tw7519716089354478335:T1:=t1
theorem hd.tw2595994805191909183:T1:=t1
theorem hd.tw9077708301081682751:T1:=t1
theorem hd.tw14685462170515437407:T1:=t1
theorem hd.tw1051681510052472703:T1:=t1
theorem hd.tw16960061313987542815:T1:=t1
theorem hd.tw4700048763383816222:T1:=t1
set_option maxHeartbeats 8000000 in
theorem hd:PySem.Challenge.rw_xw0255_01.Holds:=by
 w_on
 o_law
 k_head
 case hw=>w_witness2
 refine CY (fun p w h₀ mg mb la=>?_) (by kernel_rfl) rfl
 have c0:ik (rt hd.heap_1_39 p w h₀ mg mb la) (oQ.take 27):=by
  letI i:Nonempty (ik (rt hd.heap_1_39 p w h₀ mg mb la) (oQ.take 27)):=⟨by kernel_rfl⟩
  exact nq (inferInstanceAs (Nonempty (ik (rt hd.heap_1_39 p w h₀ mg mb la) (oQ.take 27))))
 have c1:ik (rt hd.heap_1_39 p w h₀ mg mb la) ((oQ.drop 27).take 27):=by
  letI i:Nonempty (ik (rt hd.heap_1_39 p w h₀ mg mb la) ((oQ.drop 27).take 27)):=⟨by kernel_rfl⟩
  exact nq (inferInstanceAs (Nonempty (ik (rt hd.heap_1_39 p w h₀ mg mb la) ((oQ.drop 27).take 27))))
 have c2:ik (rt hd.heap_1_39 p w h₀ mg mb la) (((oQ.drop 27).drop 27).take 27):=by
  letI i:Nonempty (ik (rt hd.heap_1_39 p w h₀ mg mb la) (((oQ.drop 27).drop 27).take 27)):=⟨by kernel_rfl⟩
  exact nq (inferInstanceAs (Nonempty (ik (rt hd.heap_1_39 p w h₀ mg mb la) (((oQ.drop 27).drop 27).take 27))))
 have c3:ik (rt hd.heap_1_39 p w h₀ mg mb la) (((oQ.drop 27).drop 27).drop 27):=by
  letI i:Nonempty (ik (rt hd.heap_1_39 p w h₀ mg mb la) (((oQ.drop 27).drop 27).drop 27)):=⟨by kernel_rfl⟩
  exact nq (inferInstanceAs (Nonempty (ik (rt hd.heap_1_39 p w h₀ mg mb la) (((oQ.drop 27).drop 27).drop 27))))
 have obj:Cw (rt hd.heap_1_39 p w h₀ mg mb la):=by
  letI i:Nonempty (Cw (rt hd.heap_1_39 p w h₀ mg mb la)):=⟨by kernel_rfl⟩
  exact nq (inferInstanceAs (Nonempty (Cw (rt hd.heap_1_39 p w h₀ mg mb la))))
 have bnd:∀ S g,Dz (rt hd.heap_1_39 p w h₀ mg mb la) S g:=by
  intro S g
  letI i:Nonempty (Dz (rt hd.heap_1_39 p w h₀ mg mb la) S g):=⟨by kernel_rfl⟩
  exact nq (inferInstanceAs (Nonempty (Dz (rt hd.heap_1_39 p w h₀ mg mb la) S g)))
 have cls:BY (rt hd.heap_1_39 p w h₀ mg mb la):=by
  letI i:Nonempty (BY (rt hd.heap_1_39 p w h₀ mg mb la)):=⟨by kernel_rfl⟩
  exact nq (inferInstanceAs (Nonempty (BY (rt hd.heap_1_39 p w h₀ mg mb la))))
 have ini:CC (rt hd.heap_1_39 p w h₀ mg mb la):=by
  letI i:Nonempty (CC (rt hd.heap_1_39 p w h₀ mg mb la)):=⟨by kernel_rfl⟩
  exact nq (inferInstanceAs (Nonempty (CC (rt hd.heap_1_39 p w h₀ mg mb la))))
 have prp:Dw (rt hd.heap_1_39 p w h₀ mg mb la):=by
  letI i:Nonempty (Dw (rt hd.heap_1_39 p w h₀ mg mb la)):=⟨by kernel_rfl⟩
  exact nq (inferInstanceAs (Nonempty (Dw (rt hd.heap_1_39 p w h₀ mg mb la))))
 have psc:B9 (rt hd.heap_1_39 p w h₀ mg mb la):=by
  letI i:Nonempty (B9 (rt hd.heap_1_39 p w h₀ mg mb la)):=⟨by kernel_rfl⟩
  exact nq (inferInstanceAs (Nonempty (B9 (rt hd.heap_1_39 p w h₀ mg mb la))))
 have psr:CP (rt hd.heap_1_39 p w h₀ mg mb la):=by
  letI i:Nonempty (CP (rt hd.heap_1_39 p w h₀ mg mb la)):=⟨by kernel_rfl⟩
  exact nq (inferInstanceAs (Nonempty (CP (rt hd.heap_1_39 p w h₀ mg mb la))))
 have psi:Do (rt hd.heap_1_39 p w h₀ mg mb la):=by
  letI i:Nonempty (Do (rt hd.heap_1_39 p w h₀ mg mb la)):=⟨by kernel_rfl⟩
  exact nq (inferInstanceAs (Nonempty (Do (rt hd.heap_1_39 p w h₀ mg mb la))))
 have law:Dc (rt hd.heap_1_39 p w h₀ mg mb la):=by
  letI i:Nonempty (Dc (rt hd.heap_1_39 p w h₀ mg mb la)):=⟨by kernel_rfl⟩
  exact nq (inferInstanceAs (Nonempty (Dc (rt hd.heap_1_39 p w h₀ mg mb la))))
 exact ⟨c0,c1,c2,c3,obj,bnd,cls,ini,prp,psc,psr,psi,law,rfl⟩
end Mine
end
theorem PySem.Challenge.cw_xw0255_01_holds : PySem.Challenge.rw_xw0255_01.Holds :=
  Mine.hd
