import PyProof.Rows.All
import Wide.All
import OpenK.AllK
import Wide.FinOn
import PySem.Challenge.RW_rh0185_01
set_option Elab.async false
set_option maxRecDepth 100000
set_option maxHeartbeats 0
set_option linter.all false
set_option genInjectivity false
set_option genSizeOf false
namespace Mine
noncomputable section
open PySem PySem.W PySem.Calls PyProof.Rows
set_option backward.match.sparseCases true
theorem ws0:(sreFenced Challenge.rw_rh0185_01.prog.main)=true:=by kernel_rfl
theorem ws1:(((moduleNames Challenge.rw_rh0185_01.prog.main.body).isEmpty||lookedIntoSs (moduleNames Challenge.rw_rh0185_01.prog.main.body) Challenge.rw_rh0185_01.prog.main.body))=true:=by kernel_rfl
theorem ws2:(namesResolve Challenge.rw_rh0185_01.prog)=true:=by kernel_rfl
theorem ws3:(Challenge.rw_rh0185_01.prog.boundNames.all (λn => !worldNames.contains n))=true:=by kernel_rfl
theorem ws4:(noRoadLSs {strict := !(importedModules Challenge.rw_rh0185_01.prog.main.body).all cThrough.contains,foot:=none,bare:=(["vars","dir","locals"]:List Str).filter (readsOut Challenge.rw_rh0185_01.prog Challenge.rw_rh0185_01.prog.main.body)} Challenge.rw_rh0185_01.prog.main.body)=true:=by kernel_rfl
theorem ws5:(namesMeet Challenge.rw_rh0185_01.prog Challenge.rw_rh0185_01.prog.main.body λ_ n=>attrL n)=true:=by kernel_rfl
theorem lo:looksOpen Challenge.rw_rh0185_01.prog=true:=look_both (look_both (look_both (look_both (look_both (ws0) ws1) ws2) ws3) ws4) ws5
theorem ws6:(Challenge.rw_rh0185_01.row.loose.isEmpty)=true:=by kernel_rfl
theorem ws7:(Challenge.rw_rh0185_01.row.makers.isEmpty)=true:=by kernel_rfl
theorem ws8:((Challenge.rw_rh0185_01.row.records.isEmpty||Challenge.rw_rh0185_01.row.raises.all λct=>ct.1 !=.builtin "AttributeError" && ct.1 !=.builtin "TypeError"))=true:=by kernel_rfl
theorem ws9:((Challenge.rw_rh0185_01.row.raises.all λct=>match ct.1 with|.builtin n => !Challenge.rw_rh0185_01.row.prog.boundNames.contains (Str.ofString n) && !ofTheWorld.contains n|.own _=>true))=true:=by kernel_rfl
theorem are:(decide (Challenge.rw_rh0185_01.row.records.map (·.1)).Nodup)=true:=by kernel_rfl
theorem arf:((Challenge.rw_rh0185_01.row.records.all λx => !x.1.opensWith "__" && !builtinNamed x.1&&Challenge.rw_rh0185_01.row.prog.boundNames.contains x.1&&x.2.all λf => !f.1.opensWith "__"))=true:=by kernel_rfl
theorem arh:(Challenge.rw_rh0185_01.row.toRowW.solid)=true:=by kernel_rfl
theorem ari:(Challenge.rw_rh0185_01.row.pre.litsOk)=true:=by kernel_rfl
theorem arj:(Challenge.rw_rh0185_01.row.post.litsOk)=true:=by kernel_rfl
theorem ark:(Challenge.rw_rh0185_01.row.raises.all (·.2.litsOk))=true:=by kernel_rfl
theorem arl:(Challenge.rw_rh0185_01.row.mutates.all (λi=>match Challenge.rw_rh0185_01.row.args[i]? with|some sh => !sh.arms.any WShape.isObj|none=>false))=true:=by kernel_rfl
theorem arm:(Challenge.rw_rh0185_01.row.within.all (λi=>decide (i<Challenge.rw_rh0185_01.row.args.length)))=true:=by kernel_rfl
theorem arn:(Challenge.rw_rh0185_01.row.same.all (λi=>decide (i<Challenge.rw_rh0185_01.row.args.length)))=true:=by kernel_rfl
theorem ps:Challenge.rw_rh0185_01.row.partSaid=true:=look_both (look_both (look_both (look_both (look_both (look_both (look_both (look_both (look_both (look_both (look_both (look_both (look_both (lo) ws6) ws7) ws8) ws9) are) arf) arh) ari) arj) ark) arl) arm) arn
theorem aro:(Challenge.rw_rh0185_01.row.prog.boundNames.contains Challenge.rw_rh0185_01.row.name)=true:=by kernel_rfl
theorem arp:(!startupNames.contains Challenge.rw_rh0185_01.row.name)=true:=by kernel_rfl
theorem wz:Challenge.rw_rh0185_01.row.wellSaid=true:=look_both (look_both (ps) aro) arp
theorem arq:(decide (Challenge.rw_rh0185_01.foot≤(behindTheImports Challenge.rw_rh0185_01.prog).length))=true:=by kernel_rfl
theorem arr:(Challenge.rw_rh0185_01.footing.all footLine)=true:=by kernel_rfl
theorem ars:(noClassBlock Challenge.rw_rh0185_01.prog Challenge.rw_rh0185_01.footing)=true:=by kernel_rfl
theorem art:(Challenge.rw_rh0185_01.most.all (λn=>decide (63≤n)))=true:=by kernel_rfl
theorem aru:(Challenge.rw_rh0185_01.bound.all (λn=>decide (2 ^ 63≤n)))=true:=by kernel_rfl
theorem arv:(noRoadLSs {strict:=true,foot:=some Challenge.rw_rh0185_01.bound',writes:=Challenge.rw_rh0185_01.writes,may:=Challenge.rw_rh0185_01.may} Challenge.rw_rh0185_01.footing)=true:=by kernel_rfl
theorem arw:(defStands Challenge.rw_rh0185_01.about Challenge.rw_rh0185_01.above)=true:=by kernel_rfl
theorem arx:(Challenge.rw_rh0185_01.namesIt)=true:=by kernel_rfl
theorem ary:((["type","isinstance","issubclass","getattr","hasattr"]:List Str).all (λn=>Challenge.rw_rh0185_01.about !=[n]))=true:=by kernel_rfl
theorem arz:(Challenge.rw_rh0185_01.bound'.all (λn => !builtinNamed n||Challenge.rw_rh0185_01.about==[n] || !Challenge.rw_rh0185_01.reads n))=true:=by kernel_rfl
theorem arA:((!Challenge.rw_rh0185_01.writes||(Challenge.rw_rh0185_01.prog.main.body.flatMap importedNames).all λn => !Challenge.rw_rh0185_01.reads n))=true:=by kernel_rfl
theorem arB:((Challenge.rw_rh0185_01.prog.main.body.flatMap importedNames).all (λn => !Challenge.rw_rh0185_01.reads n||(drawsOf n Challenge.rw_rh0185_01.prog.main.body).all λmn=>mn.2 !=("attrgetter" : Str)&&mn.2 !=("methodcaller" : Str)))=true:=by kernel_rfl
theorem arC:(namesMeet Challenge.rw_rh0185_01.prog Challenge.rw_rh0185_01.footing (λsc n=>(!(["type","isinstance","issubclass","getattr","hasattr"]:List Str).contains n||sc.names.lookup n==some .globalImplicit)&&(Challenge.rw_rh0185_01.may !=some n||sc.kind==.module||sc.names.lookup n==some .globalImplicit)))=true:=by kernel_rfl
theorem arD:(Challenge.rw_rh0185_01.own.contains Challenge.rw_rh0185_01.name)=true:=by kernel_rfl
theorem arE:((Challenge.rw_rh0185_01.own.eraseDups.length==Challenge.rw_rh0185_01.own.length))=true:=by kernel_rfl
theorem arF:(Challenge.rw_rh0185_01.own.all (λn => !builtinNamed n))=true:=by kernel_rfl
theorem arG:(namesMeet Challenge.rw_rh0185_01.prog Challenge.rw_rh0185_01.above (λ_ n => !Challenge.rw_rh0185_01.own.contains n))=true:=by kernel_rfl
theorem arH:(namesMeet Challenge.rw_rh0185_01.prog Challenge.rw_rh0185_01.footing λsc n=>sc.kind==.module||sc.names.lookup n !=some .globalExplicit)=true:=by kernel_rfl
theorem pre (h:Challenge.rw_rh0185_01.row.wellSaid=true→Challenge.rw_rh0185_01.row.Holds):Challenge.rw_rh0185_01.Holds:=holds_law (look_both (look_both (look_both (look_both (look_both (look_both (look_both (look_both (look_both (look_both (look_both (look_both (look_both (look_both (look_both (look_both (look_both (look_both (wz) arq) arr) ars) art) aru) arv) arw) arx) ary) arz) arA) arB) arC) arD) arE) arF) arG) arH) h
set_option backward.match.sparseCases false
theorem gy (h:Heap)(a:Addr)(f:Obj→Obj):(h.update a f).objs.size=h.objs.size:=by simp [Heap.update]
theorem Runs.ew {M:Model}{Γ:Ctx}{p:Pos}{t:Sem Fin}{fs:List Frame}{s s':Shared}{e:End}(h:Runs M Γ p t fs s e s'):s.heap.objs.size≤s'.heap.objs.size:=by
 induction h <;> (try simp only [Shared.setGen,gy,Heap.size_push] at *) <;> lia
theorem Returns.ew {M:Model}{Γ:Ctx}{p:Pos}{s s':Shared}{r:Result}(h:Returns M Γ p s r s'):s.heap.objs.size≤s'.heap.objs.size:=Runs.ew h
theorem Wakes.ew {M:Model}{Γ:Ctx}{p:Pos}{g:Nat}{r:Resume}{s s':Shared}{res:GenResult}(h:Wakes M Γ p g r s res s'):s.heap.objs.size≤s'.heap.objs.size:=by
 unfold Wakes at h
 split at h
 ·exact h.elim
 ·split at h
  ·obtain ⟨e₁,s₁,hr,_,_,rfl⟩:=h; exact (Runs.ew hr:(s.setGen g .running).heap.objs.size≤s₁.heap.objs.size)
  ·rw [h.2]; exact Nat.le_refl _
  ·rw [h.2]; exact Nat.le_refl _
 ·obtain ⟨e₁,s₁,hr,_,_,rfl⟩:=h; exact (Runs.ew hr:(s.setGen g .running).heap.objs.size≤s₁.heap.objs.size)
 ·rw [h.2]; exact Nat.le_refl _
 ·rw [h.2]; exact Nat.le_refl _
theorem aaK {α:Type}(M:Model)(Γ:Ctx)(n:Nat)(t:Sem α):∀(Q:α→Pos→Shared→Prop) (E:Value→Pos→Shared→Prop) (p:Pos) (s:Shared),n≤s.heap.objs.size→Sem.wp M Γ t Q E p s→
  Sem.wp M Γ t (λa p' s'=>n≤s'.heap.objs.size∧Q a p' s') (λe p' s'=>n≤s'.heap.objs.size∧E e p' s') p s:=by
 induction t with
 |pure a=>intro Q E p s hn h; exact ⟨hn,h⟩
 |raise e=>intro Q E p s hn h; exact ⟨hn,h⟩
 |unsupported _=>intro Q E p s _ h; exact h
 |finish _=>intro Q E p s _ h; exact h
 |rule _ k ih=>intro Q E p s hn h; exact ih () Q E p s hn h
 | «at» p' k ih=>intro Q E p s hn h; exact ih () Q E p' s hn h
 |load a _ k ih=>intro Q E p s hn h; obtain ⟨o,ho,h⟩:=h; exact ⟨o,ho,ih o Q E p s hn h⟩
 |update a _ f k ih=>intro Q E p s hn h; exact ⟨h.1,ih () Q E p _ (by rw [gy]; exact hn) h.2⟩
 |loadIfAlive a k ih=>intro Q E p s hn h; exact ih _ Q E p s hn h
 |point _ k ih=>intro Q E p s hn h; exact ih () Q E p s hn h
 |register _ _=>intro Q E p s _ h; exact h
 |alloc o k ih=>intro Q E p s hn h; exact ih _ Q E p _ (by rw [Heap.size_push]; exact Nat.le_succ_of_le hn) h
 |fresh k ih=>intro Q E p s hn h; exact ih _ Q E p _ hn h
 |ask k ih=>intro Q E p s hn h; exact ih _ Q E p s hn h
 |choose src m k ih=>intro Q E p s hn h; exact ⟨h.1,ih _ Q E p _ hn h.2⟩
 |os q _ k ih=>intro Q E p s hn h; exact ih _ Q E p _ hn h
 |call c hd _ _ k ih=>intro Q E p s hn h; obtain ⟨r,s',hr,h⟩:=h; exact ⟨r,s',hr,ih r Q E p s' (Nat.le_trans hn (Returns.ew hr)) h⟩
 |handled own k ih=>intro Q E p s hn h; exact ih _ Q E p s hn h
 |genState g k ih=>intro Q E p s hn h; obtain ⟨st,hs,h⟩:=h; exact ⟨st,hs,ih _ Q E p s hn h⟩
 |newGen c k ih=>intro Q E p s hn h; exact ih _ Q E p _ hn h
 |resume g r _ k ih=>intro Q E p s hn h; obtain ⟨res,s',hw,h⟩:=h; exact ⟨res,s',hw,ih res Q E p s' (Nat.le_trans hn (Wakes.ew hw)) h⟩
 |yield _ _ _ _=>intro Q E p s _ h; exact h
 |stack k ih=>intro Q E p s hn h; exact ih _ Q E p s hn h
 |fork _ _=>intro Q E p s _ h; exact h
 |thread k ih=>intro Q E p s hn h; exact ih _ Q E p s hn h
 |await _ _ _ _ _=>intro Q E p s _ h; exact h
theorem bu {α:Type}{M:Model}{A:Around}{s:Shared}{t:Sem α}{Q:α→Shared→Prop}{E:Value→Shared→Prop}{n:Nat}(hn:n≤s.heap.objs.size)(h:wpAny M A t (λa s'=>n≤s'.heap.objs.size→Q a s') (λe s'=>n≤s'.heap.objs.size→E e s') s):
  wpAny M A t Q E s:=
 λΓ p hΓ=>Sem.wp_mono M Γ t (λ_ _ _ x=>x.2 x.1) (λ_ _ _ x=>x.2 x.1) p s (aaK M Γ n t _ _ p s hn (h Γ p hΓ))
theorem nH {α:Type}{M:Model}{A:Around}{s:Shared}{c:Prop}[Decidable c]{a b:Sem α}{Q:α→Shared→Prop}{E:Value→Shared→Prop}(hc:¬c)(h:wpAny M A b Q E s):wpAny M A (if c then a else b) Q E s:=(if_neg hc).symm▸h
theorem ify {α:Type}{M:Model}{A:Around}{s:Shared}{c:Prop}[Decidable c]{a b:Sem α}{Q:α→Shared→Prop}{E:Value→Shared→Prop}(hc:c)(h:wpAny M A a Q E s):wpAny M A (if c then a else b) Q E s:=(if_pos hc).symm▸h
theorem nS {α:Type u}{x:α}{Z:Prop}(h:(none:Option α)=some x):Z:=nomatch h
theorem sN {α:Type u}{x:α}{Z:Prop}(h:some x=(none:Option α)):Z:=nomatch h
section
inductive FV where
 |none|bool (b:Bool)|int (i:Int)|str (s:Str)|bytes (b:Array UInt8)|lit (v:Value)
 |az (xs:List FV)|fl (xs:List FV)|rc (k:Nat) (C:Addr) (fs:List (Str×FV))|ds (fs:List (Str×FV))|db (fs:List (List UInt8×FV))|tw (a b d:Int)
inductive AV where
 |own (nm k:Nat)|fr (x:FV)
structure Cx where
 h:Heap
 ρ:Nat→Addr
 n:Nat
 fz:Addr→Prop
noncomputable def zl (ns:List Str)(vs:List Value)(x:Str):Option Value:=(ns.zip vs).lookup x
section
variable (p:Program) (w:World)
mutual
inductive FR (c:Cx):FV→Value→Prop
 |none:FR c .none .none
 |bool (b:Bool):FR c (.bool b) (.bool b)
 |int (i:Int) (t:Tok):FR c (.int i) (.int i t)
 |str (s:Str) (t:Tok):FR c (.str s) (.str s t)
 |bytes (b:Array UInt8) (t:Tok):FR c (.bytes b) (.bytes b t)
 |lit (v:Value):FR c (.lit v) v
 |az {xs:List FV} {vs:List Value} {a:Addr} {n:Nat}:c.fz a→c.h.get? a=some {cls:=.type "tuple",data:=.seq vs.toArray n}→Aj c xs vs→FR c (.az xs) (.ref a)
 |fl {xs:List FV} {vs:List Value} {a:Addr} {n:Nat}:c.fz a→c.h.get? a=some (listOf vs.toArray n)→Aj c xs vs→FR c (.fl xs) (.ref a)
 |rc {k:Nat} {C:Addr} {ns:List Str} {xs:List FV} {vs:List Value} {fs:List (Str×FV)} {a dx:Addr}:ns=fs.map (·.1)→xs=fs.map (·.2)→k<c.n→a=c.ρ k→c.fz a→c.fz dx→c.h.get? a=some (instObj C dx)→c.h.Ns1 dx (zl ns vs)→Aj c xs vs→FR c (.rc k C fs) (.ref a)
 |ds {ks:List Str} {xs:List FV} {vs:List Value} {fs:List (Str×FV)} {a:Addr}:ks=fs.map (·.1)→xs=fs.map (·.2)→c.fz a→(a==sysModules)=false→c.h.DictOf (strKind p w) a (ks.zip vs)→Aj c xs vs→FR c (.ds fs) (.ref a)
 |db {ks:List (List UInt8)} {xs:List FV} {vs:List Value} {fs:List (List UInt8×FV)} {a:Addr}:ks=fs.map (·.1)→xs=fs.map (·.2)→c.fz a→(a==sysModules)=false→c.h.DictOf (bytesKind p w) a (ks.zip vs)→Aj c xs vs→FR c (.db fs) (.ref a)
 |tw {x y z:Int} {t u r:Tok} {a:Addr}:c.fz a→c.h.get? a=some {cls:=.type "range",data:=.fields #[.int x t,.int y u,.int z r]}→FR c (.tw x y z) (.ref a)
inductive Aj (c:Cx):List FV→List Value→Prop
 |nil:Aj c [] []
 |cons {x:FV} {v:Value} {xs:List FV} {vs:List Value}:FR c x v→Aj c xs vs→Aj c (x::xs) (v::vs)
end
inductive VR (c:Cx):AV→Value→Prop
 |own (nm k:Nat):k<c.n→VR c (.own nm k) (.ref (c.ρ k))
 |fr {x:FV} {v:Value}:FR p w c x v→VR c (.fr x) v
inductive Al (c:Cx):List AV→List Value→Prop
 |nil:Al c [] []
 |cons {x:AV} {v:Value} {xs:List AV} {vs:List Value}:VR p w c x v→Al c xs vs→Al c (x::xs) (v::vs)
end
structure Le (c c':Cx):Prop where
 n:c.n≤c'.n
 ρ:∀k,k<c.n→c'.ρ k=c.ρ k
 fz:∀a,c.fz a→c'.fz a
 aj:∀a o,c.fz a→c.h.get? a=some o→c'.h.get? a=some o
theorem Le.refl (c:Cx):Le c c:=⟨Nat.le_refl _,λ_ _=>rfl,λ_ h=>h,λ_ _ _ h=>h⟩
theorem Le.trans {a b c:Cx}(x:Le a b)(y:Le b c):Le a c:=
 ⟨Nat.le_trans x.n y.n,λk hk=>(y.ρ k (Nat.lt_of_lt_of_le hk x.n)).trans (x.ρ k hk),λp h=>y.fz p (x.fz p h),λp o h e=>y.aj p o (x.fz p h) (x.aj p o h e)⟩
theorem wH {h h':Heap}{a:Addr}{m:Str→Option Value}(x:h.Ns1 a m)(k:∀o,h.get? a=some o→h'.get? a=some o):h'.Ns1 a m:=x.at k
theorem iQ {h h':Heap}{a:Addr}{m:Str→Option Value}(x:h.Ns a m)(k:∀o,h.get? a=some o→h'.get? a=some o):h'.Ns a m:=
 (x).elim λo q=>q.elim λes q=>q.elim λep q=>q.elim λe r=>⟨o,es,ep,k o e,r⟩
theorem l9 {p:Program}{w:World}{K:Type}[DecidableEq K]{knd:KeyKind p w K}{h h':Heap}{a:Addr}{kvs:List (K×Value)}(x:h.DictOf knd a kvs)(k:∀o,h.get? a=some o→h'.get? a=some o):h'.DictOf knd a kvs:=
 (x).elim λo q=>q.elim λes q=>q.elim λep q=>q.elim λe r=>⟨o,es,ep,k o e,r⟩
section
variable {p:Program} {w:World} {c:Cx}
def Cv (p:Program)(w:World)(c:Cx)(P:Value→Prop):FV→Prop
 |.none=>P .none
 |.bool b=>P (.bool b)
 |.int i=>∀t,P (.int i t)
 |.str s=>∀t,P (.str s t)
 |.bytes b=>∀t,P (.bytes b t)
 |.lit v=>P v
 |.az xs=>∀vs a n,c.fz a→c.h.get? a=some {cls:=.type "tuple",data:=.seq (List.toArray vs) n}→Aj p w c xs vs→P (.ref a)
 |.fl xs=>∀vs a n,c.fz a→c.h.get? a=some (listOf (List.toArray vs) n)→Aj p w c xs vs→P (.ref a)
 |.rc k C fs=>∀vs dx,k<c.n→c.fz (c.ρ k)→c.fz dx→c.h.get? (c.ρ k)=some (instObj C dx)→c.h.Ns1 dx (zl (fs.map (·.1)) vs)→Aj p w c (fs.map (·.2)) vs→P (.ref (c.ρ k))
 |.ds fs=>∀vs a,c.fz a→(a==sysModules)=false→c.h.DictOf (strKind p w) a ((fs.map (·.1)).zip vs)→Aj p w c (fs.map (·.2)) vs→P (.ref a)
 |.db fs=>∀vs a,c.fz a→(a==sysModules)=false→c.h.DictOf (bytesKind p w) a ((fs.map (·.1)).zip vs)→Aj p w c (fs.map (·.2)) vs→P (.ref a)
 |.tw x y z=>∀t u r a,c.fz a→c.h.get? a=some {cls:=.type "range",data:=.fields #[.int x t,.int y u,.int z r]}→P (.ref a)
theorem FR.el {P:Value→Prop}{x:FV}{v:Value}(h:FR p w c x v)(k:Cv p w c P x):P v:=
 FR.casesOn (motive_1:=λx v _=>Cv p w c P x→P v) h id (λ_ k=>k) (λ_ t k=>k t) (λ_ t k=>k t) (λ_ t k=>k t) (λ_ k=>k) (λf e r k=>k _ _ _ f e r) (λf e r k=>k _ _ _ f e r)
  (λe1 e2 hk ha f g e n r k=>by subst e1 e2 ha; exact k _ _ hk f g e n r) (λe1 e2 f s d r k=>by subst e1 e2; exact k _ _ f s d r) (λe1 e2 f s d r k=>by subst e1 e2; exact k _ _ f s d r) (λf e k=>k _ _ _ _ f e) k
theorem Aj.la {P:List FV→List Value→Prop}(n:P [] [])(k:∀{x v xs vs},FR p w c x v→Aj p w c xs vs→P xs vs→P (x::xs) (v::vs)){xs:List FV}{vs:List Value}(h:Aj p w c xs vs):P xs vs:=
 Aj.rec (motive_1:=λ_ _ _=>True) (motive_2:=λxs vs _=>P xs vs) trivial (λ_=>trivial) (λ_ _=>trivial) (λ_ _=>trivial) (λ_ _=>trivial) (λ_=>trivial) (λ_ _ _ _=>trivial) (λ_ _ _ _=>trivial)
  (λ_ _ _ _ _ _ _ _ _ _=>trivial) (λ_ _ _ _ _ _ _=>trivial) (λ_ _ _ _ _ _ _=>trivial) (λ_ _=>trivial) n (λa b _ r=>k a b r) h
theorem Al.la {P:List AV→List Value→Prop}(n:P [] [])(k:∀{x v xs vs},VR p w c x v→Al p w c xs vs→P xs vs→P (x::xs) (v::vs)){xs:List AV}{vs:List Value}(h:Al p w c xs vs):P xs vs:=
 Al.rec (motive:=λxs vs _=>P xs vs) n (λa b r=>k a b r) h
def C0 (p:Program)(w:World)(c:Cx)(P:Value→Prop):AV→Prop
 |.own _ k=>k<c.n→P (.ref (c.ρ k))
 |.fr x=>∀v,FR p w c x v→P v
theorem VR.el {P:Value→Prop}{x:AV}{v:Value}(h:VR p w c x v)(k:C0 p w c P x):P v:=
 VR.casesOn (motive:=λx v _=>C0 p w c P x→P v) h (λ_ _ h k=>k h) (λh k=>k _ h) k
theorem VR.cU {x:FV}{v:Value}(h:VR p w c (.fr x) v):FR p w c x v:=h.el λ_ h=>h
theorem VR.bc {nm k:Nat}{v:Value}(h:VR p w c (.own nm k) v):v=.ref (c.ρ k)∧k<c.n:=h.el (P:=λv=>v=.ref (c.ρ k)∧k<c.n) λh=>⟨rfl,h⟩
theorem VR.dg {P:Value→Prop}{x:FV}{v:Value}(h:VR p w c (.fr x) v)(k:Cv p w c P x):P v:=h.cU.el k
def Ca (p:Program)(w:World)(c:Cx)(P:List Value→Prop):List FV→Prop
 | []=>P []
 |x::xs=>∀v vs,FR p w c x v→Aj p w c xs vs→P (v::vs)
theorem Aj.el {P:List Value→Prop}{x:List FV}{v:List Value}(h:Aj p w c x v)(k:Ca p w c P x):P v:=
 Aj.la (P:=λx v=>Ca p w c P x→P v) id (λa b _ k=>k _ _ a b) h k
def Cb (p:Program)(w:World)(c:Cx)(P:List Value→Prop):List AV→Prop
 | []=>P []
 |x::xs=>∀v vs,VR p w c x v→Al p w c xs vs→P (v::vs)
theorem Al.el {P:List Value→Prop}{x:List AV}{v:List Value}(h:Al p w c x v)(k:Cb p w c P x):P v:=
 Al.la (P:=λx v=>Cb p w c P x→P v) id (λa b _ k=>k _ _ a b) h k
theorem FR.aw {c':Cx}(l:Le c c'){x:FV}{v:Value}(h:FR p w c x v):FR p w c' x v:=
 FR.rec (motive_1:=λx v _=>FR p w c' x v) (motive_2:=λxs vs _=>Aj p w c' xs vs) .none .bool .int .str .bytes .lit (λf e _ r=>.az (l.fz _ f) (l.aj _ _ f e) r) (λf e _ r=>.fl (l.fz _ f) (l.aj _ _ f e) r)
  (λe1 e2 hk ha f g e n _ r=>.rc e1 e2 (Nat.lt_of_lt_of_le hk l.n) (ha.trans (l.ρ _ hk).symm) (l.fz _ f) (l.fz _ g) (l.aj _ _ f e) (wH n λo=>l.aj _ o g) r)
  (λe1 e2 f s d _ r=>.ds e1 e2 (l.fz _ f) s (l9 d λo=>l.aj _ o f) r) (λe1 e2 f s d _ r=>.db e1 e2 (l.fz _ f) s (l9 d λo=>l.aj _ o f) r) (λf e=>.tw (l.fz _ f) (l.aj _ _ f e)) .nil (λ_ _ a b=>.cons a b) h
theorem Aj.aw {c':Cx}(l:Le c c'){x:List FV}{v:List Value}(h:Aj p w c x v):Aj p w c' x v:=h.la .nil λa _ r=>.cons (a.aw l) r
theorem VR.aw {c':Cx}(l:Le c c'){x:AV}{v:Value}(h:VR p w c x v):VR p w c' x v:=
 VR.casesOn (motive:=λx v _=>VR p w c' x v) h (λnm k hk=>l.ρ k hk▸.own nm k (Nat.lt_of_lt_of_le hk l.n)) λh=>.fr (h.aw l)
theorem Al.aw {c':Cx}(l:Le c c'){x:List AV}{v:List Value}(h:Al p w c x v):Al p w c' x v:=h.la .nil λa _ r=>.cons (a.aw l) r
theorem Aj.len {x:List FV}{v:List Value}(h:Aj p w c x v):x.length=v.length:=h.la (P:=λx v=>x.length=v.length) rfl λ_ _ r=>congrArg Nat.succ r
theorem Aj.get {x:List FV}{v:List Value}(h:Aj p w c x v):∀{i:Nat} {a:FV},x[i]?=some a→∃u,v[i]?=some u∧FR p w c a u:=
 h.la (P:=λx v=>∀{i:Nat} {a:FV},x[i]?=some a→∃u,v[i]?=some u∧FR p w c a u) nofun λh _ r i a e=>match i with
  |0=>⟨_,rfl,Option.some.inj e▸h⟩
  |_+1=>r e
theorem Aj.append {x y:List FV}{v u:List Value}(h:Aj p w c x v)(b:Aj p w c y u):Aj p w c (x++y) (v++u):=h.la (P:=λx v=>Aj p w c (x++y) (v++u)) b λa _ r=>.cons a r
theorem Aj.split {x y:List FV}:∀{v:List Value},Aj p w c (x++y) v→∃v1 v2,v=v1++v2∧Aj p w c x v1∧Aj p w c y v2:=by
 induction x with
 |nil=>exact λ{v} h=>⟨[],v,rfl,.nil,h⟩
 |cons a x ih=>exact λ{v} h=>h.el (P:=λv=>∃v1 v2,v=v1++v2∧Aj p w c (a::x) v1∧Aj p w c y v2) λu us hu r=>(ih r).elim λv1 q=>q.elim λv2 q=>q.elim λe q=>q.elim λh1 h2=>⟨u::v1,v2,congrArg _ e,.cons hu h1,h2⟩
theorem Aj.take {x:List FV}{v:List Value}(h:Aj p w c x v):∀n,Aj p w c (x.take n) (v.take n):=
 h.la (P:=λx v=>∀n,Aj p w c (x.take n) (v.take n)) (λn=>by rw [List.take_nil,List.take_nil]; exact .nil) λh _ r n=>match n with
  |0=>.nil
  |n+1=>.cons h (r n)
theorem Aj.drop {x:List FV}{v:List Value}(h:Aj p w c x v):∀n,Aj p w c (x.drop n) (v.drop n):=
 h.la (P:=λx v=>∀n,Aj p w c (x.drop n) (v.drop n)) (λn=>by rw [List.drop_nil,List.drop_nil]; exact .nil) λh b r n=>match n with
  |0=>.cons h b
  |n+1=>r n
theorem Al.len {x:List AV}{v:List Value}(h:Al p w c x v):x.length=v.length:=h.la (P:=λx v=>x.length=v.length) rfl λ_ _ r=>congrArg Nat.succ r
theorem Al.append {x y:List AV}{v u:List Value}(h:Al p w c x v)(b:Al p w c y u):Al p w c (x++y) (v++u):=h.la (P:=λx v=>Al p w c (x++y) (v++u)) b λa _ r=>.cons a r
theorem Al.ofF {x:List FV}{v:List Value}(h:Aj p w c x v):Al p w c (x.map .fr) v:=h.la (P:=λx v=>Al p w c (x.map .fr) v) .nil λa _ r=>.cons (.fr a) r
end
noncomputable def toF:AV→Option FV
 |.own _ _=>none
 |.fr x=>some x
noncomputable def nI:List (Str×AV)→Option (List (Str×FV))
 | []=>some []
 |f::r=>match toF f.2 with
  |some a=>match nI r with
   |some l=>some ((f.1,a)::l)
   |none=>none
  |none=>none
section
variable {p:Program} {w:World} {c:Cx}
theorem wI {x:AV}{a:FV}(e:toF x=some a):x=.fr a:=by cases x with
 |own=>exact nS e
 |fr y=>exact congrArg _ (Option.some.inj e)
theorem VR.toF {x:AV}{v:Value}{a:FV}(h:VR p w c x v)(e:toF x=some a):FR p w c a v:=VR.cU (wI e▸h)
theorem Al.nI:∀{fs:List (Str×AV)} {v:List Value} {a:List (Str×FV)},Al p w c (fs.map (·.2)) v→nI fs=some a→Aj p w c (a.map (·.2)) v∧a.map (·.1)=fs.map (·.1):=by
 intro fs
 induction fs with
 |nil=>exact λh e=>Option.some.inj e▸h.el (P:=λv=>Aj p w c [] v∧_) ⟨.nil,rfl⟩
 |cons f r ih=>
  intro v a h e
  refine h.el (P:=λv=>Aj p w c (a.map (·.2)) v∧a.map (·.1)=_) λu us hu hr=>?_
  unfold Mine.nI at e
  cases h1:Mine.toF f.2 with
  |none=>rw [h1] at e; exact nS e
  |some b=>cases h2:Mine.nI r with
   |none=>rw [h1,h2] at e; exact nS e
   |some l=>
    rw [h1,h2] at e
    have q:=ih hr h2
    exact Option.some.inj e▸⟨.cons (hu.toF h1) q.1,congrArg _ q.2⟩
end
section
variable (p:Program) (w:World)
def C1 (c:Cx)(fs:List (Str×AV))(a:Addr):Prop:=∃vs,c.h.Ns a (zl (fs.map (·.1)) vs)∧Al p w c (fs.map (·.2)) vs
end
section
variable {p:Program} {w:World}
theorem qr {c:Cx}{x:Str}{fs:List (Str×AV)}:∀{vs:List Value},Al p w c (fs.map (·.2)) vs→∀{av:AV},fs.lookup x=some av→∃v,zl (fs.map (·.1)) vs x=some v∧VR p w c av v:=by
 induction fs with
 |nil=>exact λ_ _ e=>nS e
 |cons f fs ih=>
  intro vs h av e
  refine h.el (P:=λvs=>∃v,zl _ vs x=some v∧VR p w c av v) λu us hu hr=>?_
  have e:(match x==f.1 with|true=>some f.2|false=>fs.lookup x)=some av:=e
  show ∃v,(match x==f.1 with|true=>some u|false=>zl (fs.map (·.1)) us x)=some v∧_
  revert e
  cases x==f.1 with
  |true=>exact λe=>⟨u,rfl,Option.some.inj e▸hu⟩
  |false=>exact λe=>ih hr e
theorem aaL {α:Type}{x:Str}{fs:List (Str×α)}:∀{vs:List Value},fs.lookup x=.none→zl (fs.map (·.1)) vs x=.none:=by
 induction fs with
 |nil=>exact λ_=>rfl
 |cons f fs ih=>exact λ{vs}=>match vs with
  | []=>λ_=>rfl
  |v::vs=>by
   show (match x==f.1 with|true=>some f.2|false=>fs.lookup x)=.none→(match x==f.1 with|true=>some v|false=>zl (fs.map λ(g:Str×α)=>g.1) vs x)=.none
   cases x==f.1 with
   |true=>exact nofun
   |false=>exact ih
end
noncomputable def cC {α:Type}(x:Str)(av:α):List (Str×α)→List (Str×α)
 | []=>[(x,av)]
 |f::r=>match x==f.1 with
  |true=>(f.1,av)::r
  |false=>f::cC x av r
theorem dS {α:Type}(y x:Str)(a b:α):(match y==x with|true=>a|false=>b)=if y=x then a else b:=by
 by_cases h:y=x
 ·rw [if_pos h,beq_iff_eq.mpr h]
 ·rw [if_neg h,beq_false_of_ne h]
theorem jr {p:Program}{w:World}{c:Cx}{x:Str}{av:AV}{v:Value}(hv:VR p w c av v){fs:List (Str×AV)}:∀{vs:List Value},Al p w c (fs.map (·.2)) vs→
  ∃ws,(∀y,zl ((cC x av fs).map (·.1)) ws y=if y=x then some v else zl (fs.map (·.1)) vs y)∧Al p w c ((cC x av fs).map (·.2)) ws:=by
 induction fs with
 |nil=>exact λ_=>⟨[v],λy=>dS y x _ _,.cons hv .nil⟩
 |cons f fs ih=>
  intro vs h
  refine h.el (P:=λvs=>∃ws,(∀y,zl ((cC x av (f::fs)).map (·.1)) ws y=if y=x then some v else zl (f.1::fs.map (·.1)) vs y)∧Al p w c ((cC x av (f::fs)).map (·.2)) ws) λu us hu hr=>?_
  unfold cC
  cases q:x==f.1 with
  |true=>
   refine ⟨v::us,λy=>?_,.cons hv hr⟩
   show (match y==f.1 with|true=>some v|false=>zl (fs.map (·.1)) us y)=if y=x then some v else (match y==f.1 with|true=>some u|false=>zl (fs.map (·.1)) us y)
   rw [dS,dS,eq_of_beq q]
   by_cases h:y=f.1
   ·rw [if_pos h,if_pos h]
   ·rw [if_neg h,if_neg h,if_neg h]
  |false=>
   obtain ⟨ws,e,R⟩:=ih hr
   refine ⟨u::ws,λy=>?_,.cons hu R⟩
   show (match y==f.1 with|true=>some u|false=>zl ((cC x av fs).map (·.1)) ws y)=if y=x then some v else (match y==f.1 with|true=>some u|false=>zl (fs.map (·.1)) us y)
   rw [dS,dS,e]
   by_cases h:y=f.1
   ·rw [if_pos h,if_pos h,if_neg]
    exact λe=>ne_of_beq_false q (e.symm.trans h)
   ·rw [if_neg h,if_neg h]
def bW {α:Type}(o:Option α)(f:α→Prop):Prop:=match o with
 |some x=>f x
 |none=>False
theorem au {α:Type}{o:Option α}{f:α→Prop}{P:Prop}(h:bW o f)(k:∀x,o=some x→f x→P):P:=by
 cases o with
 |none=>exact h.elim
 |some x=>exact k x rfl h
def cV (b:Bool)(P:Prop):Prop:=match b with
 |true=>P
 |false=>False
theorem aG {b:Bool}{P Q:Prop}(h:cV b P)(k:b=true→P→Q):Q:=by
 cases b with
 |true=>exact k rfl h
 |false=>exact h.elim
def wJ {α:Type}(l:List α)(f:α→Prop):Prop:=match l with
 | [x]=>f x
 |_=>False
theorem dT {α:Type}{l:List α}{f:α→Prop}{P:List α→Prop}(h:wJ l f)(k:∀x,f x→P [x]):P l:=by
 cases l with
 |nil=>exact h.elim
 |cons x r=>cases r with
  |nil=>exact k x h
  |cons=>exact h.elim
def on2 {α:Type}(l:List α)(f:α→α→Prop):Prop:=match l with
 | [x,y]=>f x y
 |_=>False
theorem wK {α:Type}{l:List α}{f:α→α→Prop}{P:List α→Prop}(h:on2 l f)(k:∀x y,f x y→P [x,y]):P l:=by
 cases l with
 |nil=>exact h.elim
 |cons x r=>exact dT (f:=f x) (P:=λr=>P (x::r)) (by cases r with|nil=>exact h.elim|cons y r=>cases r with|nil=>exact h|cons=>exact h.elim) (k x)
def gw (a:AV)(f:FV→Prop):Prop:=match a with
 |.fr x=>f x
 |.own _ _=>False
theorem aZ {a:AV}{f:FV→Prop}{P:AV→Prop}(h:gw a f)(k:∀x,f x→P (.fr x)):P a:=by
 cases a with
 |fr x=>exact k x h
 |own=>exact h.elim
def onO (a:AV)(f:Nat→Nat→Prop):Prop:=match a with
 |.own m k=>f m k
 |.fr _=>False
theorem js {a:AV}{f:Nat→Nat→Prop}{P:AV→Prop}(h:onO a f)(k:∀m j,f m j→P (.own m j)):P a:=by
 cases a with
 |own m j=>exact k m j h
 |fr=>exact h.elim
def gA (x:FV)(f:Int→Prop):Prop:=match x with
 |.int a=>f a
 |_=>False
theorem d4 {x:FV}{f:Int→Prop}{P:FV→Prop}(h:gA x f)(k:∀a,f a→P (.int a)):P x:=by
 cases x with
 |int a=>exact k a h
 |_=>exact h.elim
def onStr (x:FV)(f:Str→Prop):Prop:=match x with
 |.str a=>f a
 |_=>False
theorem nJ {x:FV}{f:Str→Prop}{P:FV→Prop}(h:onStr x f)(k:∀a,f a→P (.str a)):P x:=by
 cases x with
 |str a=>exact k a h
 |_=>exact h.elim
def adF (x:FV)(f:Array UInt8→Prop):Prop:=match x with
 |.bytes a=>f a
 |_=>False
theorem wL {x:FV}{f:Array UInt8→Prop}{P:FV→Prop}(h:adF x f)(k:∀a,f a→P (.bytes a)):P x:=by
 cases x with
 |bytes a=>exact k a h
 |_=>exact h.elim
def adG (x:FV)(f:Bool→Prop):Prop:=match x with
 |.bool a=>f a
 |_=>False
theorem wM {x:FV}{f:Bool→Prop}{P:FV→Prop}(h:adG x f)(k:∀a,f a→P (.bool a)):P x:=by
 cases x with
 |bool a=>exact k a h
 |_=>exact h.elim
def wN (x:FV)(f:List FV→Prop):Prop:=match x with
 |.az a=>f a
 |_=>False
theorem nK {x:FV}{f:List FV→Prop}{P:FV→Prop}(h:wN x f)(k:∀a,f a→P (.az a)):P x:=by
 cases x with
 |az a=>exact k a h
 |_=>exact h.elim
def aaM (x:FV)(f:List FV→Prop):Prop:=match x with
 |.fl a=>f a
 |_=>False
theorem ji {x:FV}{f:List FV→Prop}{P:FV→Prop}(h:aaM x f)(k:∀a,f a→P (.fl a)):P x:=by
 cases x with
 |fl a=>exact k a h
 |_=>exact h.elim
def ah6 (x:FV)(f:List (Str×FV)→Prop):Prop:=match x with
 |.ds a=>f a
 |_=>False
theorem ty {x:FV}{f:List (Str×FV)→Prop}{P:FV→Prop}(h:ah6 x f)(k:∀a,f a→P (.ds a)):P x:=by
 cases x with
 |ds a=>exact k a h
 |_=>exact h.elim
def lb (x:FV)(f:Value→Prop):Prop:=match x with
 |.lit a=>f a
 |_=>False
theorem d5 {x:FV}{f:Value→Prop}{P:FV→Prop}(h:lb x f)(k:∀a,f a→P (.lit a)):P x:=by
 cases x with
 |lit a=>exact k a h
 |_=>exact h.elim
def ah7 (x:FV)(f:Nat→Addr→List (Str×FV)→Prop):Prop:=match x with
 |.rc a b d=>f a b d
 |_=>False
theorem tz {x:FV}{f:Nat→Addr→List (Str×FV)→Prop}{P:FV→Prop}(h:ah7 x f)(k:∀a b d,f a b d→P (.rc a b d)):P x:=by
 cases x with
 |rc a b d=>exact k a b d h
 |_=>exact h.elim
def wO (x:FV)(f:Prop):Prop:=match x with
 |.none=>f
 |_=>False
theorem uU {x:FV}{f:Prop}{P:FV→Prop}(h:wO x f)(k:f→P .none):P x:=by
 cases x with
 |none=>exact k h
 |_=>exact h.elim
end
section
inductive AO where
 |list (xs:List FV)|a9 (ks:List (Nat×Nat))|inst (C:Addr) (dn di:Nat)|be (fs:List (Str×AV))|dict (fs:List (Str×FV))|cell (x:Option AV)
def gc (o:AO)(f:List FV→Prop):Prop:=match o with
 |.list xs=>f xs
 |_=>False
theorem cD {o:AO}{f:List FV→Prop}{P:AO→Prop}(h:gc o f)(k:∀xs,f xs→P (.list xs)):P o:=by
 cases o with
 |list xs=>exact k xs h
 |_=>exact h.elim
def alI (o:AO)(f:List (Nat×Nat)→Prop):Prop:=match o with
 |.a9 xs=>f xs
 |_=>False
theorem aaN {o:AO}{f:List (Nat×Nat)→Prop}{P:AO→Prop}(h:alI o f)(k:∀xs,f xs→P (.a9 xs)):P o:=by
 cases o with
 |a9 xs=>exact k xs h
 |_=>exact h.elim
def jt (o:AO)(f:Addr→Nat→Nat→Prop):Prop:=match o with
 |.inst C dn di=>f C dn di
 |_=>False
theorem fE {o:AO}{f:Addr→Nat→Nat→Prop}{P:AO→Prop}(h:jt o f)(k:∀C dn di,f C dn di→P (.inst C dn di)):P o:=by
 cases o with
 |inst C dn di=>exact k C dn di h
 |_=>exact h.elim
def aaO (o:AO)(f:List (Str×AV)→Prop):Prop:=match o with
 |.be xs=>f xs
 |_=>False
theorem ma {o:AO}{f:List (Str×AV)→Prop}{P:AO→Prop}(h:aaO o f)(k:∀xs,f xs→P (.be xs)):P o:=by
 cases o with
 |be xs=>exact k xs h
 |_=>exact h.elim
def wP (o:AO)(f:List (Str×FV)→Prop):Prop:=match o with
 |.dict xs=>f xs
 |_=>False
theorem uV {o:AO}{f:List (Str×FV)→Prop}{P:AO→Prop}(h:wP o f)(k:∀xs,f xs→P (.dict xs)):P o:=by
 cases o with
 |dict xs=>exact k xs h
 |_=>exact h.elim
def wQ (o:AO)(f:AV→Prop):Prop:=match o with
 |.cell (some x)=>f x
 |_=>False
theorem uW {o:AO}{f:AV→Prop}{P:AO→Prop}(h:wQ o f)(k:∀x,f x→P (.cell (some x))):P o:=by
 cases o with
 |cell x=>cases x with
  |some x=>exact k x h
  |none=>exact h.elim
 |_=>exact h.elim
section
variable (p:Program) (w:World)
def OR (c:Cx):AO→Addr→Prop
 |.list xs,a=>∃vs n,c.h.get? a=some (listOf vs.toArray n)∧Aj p w c xs vs
 |.a9 ks,a=>∃n,c.h.get? a=some (listOf (ks.map λk=>Value.ref (c.ρ k.2)).toArray n)∧∀k,k∈ks→k.2<c.n
 |.inst C _ di,a=>c.h.get? a=some (instObj C (c.ρ di))∧di<c.n
 |.be fs,a=>∃vs,c.h.Ns1 a (zl (fs.map (·.1)) vs)∧Al p w c (fs.map (·.2)) vs
 |.dict fs,a=>∃vs,c.h.DictOf (strKind p w) a ((fs.map (·.1)).zip vs)∧(a==sysModules)=false∧Aj p w c (fs.map (·.2)) vs
 |.cell x,a=>∃v,(∃o,c.h.get? a=some o∧o.data=.cell v)∧match x,v with
  |.none,.none=>True
  |some x,some v=>VR p w c x v
  |_,_=>False
end
variable {p:Program} {w:World}
theorem OR.aw {c c':Cx}(l:Le c c'){o:AO}{a:Addr}(k:∀q,c.h.get? a=some q→c'.h.get? a=some q)(r:OR p w c o a):OR p w c' o a:=by
 cases o with
 |list xs=>obtain ⟨vs,n,e,h⟩:=r; exact ⟨vs,n,k _ e,h.aw l⟩
 |a9 ks=>
  obtain ⟨n,e,h⟩:=r
  refine ⟨n,?_,λq hq=>Nat.lt_of_lt_of_le (h q hq) l.n⟩
  rw [show (ks.map λq=>Value.ref (c'.ρ q.2))=ks.map λq=>Value.ref (c.ρ q.2) from List.map_congr_left λq hq=>by rw [l.ρ _ (h q hq)]]
  exact k _ e
 |inst C dn di=>obtain ⟨e,h⟩:=r; exact ⟨by rw [l.ρ _ h]; exact k _ e,Nat.lt_of_lt_of_le h l.n⟩
 |be fs=>obtain ⟨vs,n,h⟩:=r; exact ⟨vs,n.at k,h.aw l⟩
 |dict fs=>obtain ⟨vs,n,s,h⟩:=r; exact ⟨vs,l9 n k,s,h.aw l⟩
 |cell x=>
  obtain ⟨v,⟨o,e,d⟩,h⟩:=r
  refine ⟨v,⟨o,k _ e,d⟩,?_⟩
  cases x <;> cases v <;> first|exact h|exact VR.aw l h
structure St where
 loc:List (Str×AV)
 ai:List (Str×Nat×Nat)
 am:List (Nat×Nat×AO)
 af:List (Nat×Nat×AO)
 aa:Nat
noncomputable def St.objs (S:St):List (Nat×Nat×AO):=S.am++S.af
def fP (fs:List Env):List Addr:=fs.filterMap (·.frame)
def AD (fs:List Env)(b:Addr)(o o':Obj):Prop:=o'=o∨(b∈fP fs∧∃sl,o'={o with slots:=sl})
theorem AD.refl {fs:List Env}{b:Addr}(o:Obj):AD fs b o o:=.inl rfl
theorem AD.trans {fs:List Env}{e:Addr}{a b d:Obj}(x:AD fs e a b)(y:AD fs e b d):AD fs e a d:=by
 rcases x with rfl|⟨hc,sl,rfl⟩
 ·exact y
 ·rcases y with rfl|⟨_,sl',rfl⟩
  ·exact .inr ⟨hc,sl,rfl⟩
  ·exact .inr ⟨hc,sl',rfl⟩
theorem AD.data {fs:List Env}{e:Addr}{a b:Obj}(x:AD fs e a b):b.data=a.data:=by
 rcases x with rfl|⟨_,_,rfl⟩ <;> rfl
theorem wR {fs:List Env}{h h':Heap}{a:Addr}{m:Str→Option Value}(x:h.Ns a m)(k:∀o,h.get? a=some o→∃o',h'.get? a=some o'∧AD fs a o o'):h'.Ns a m:=
 (x).elim λo q=>q.elim λes q=>q.elim λep q=>q.elim λe q=>q.elim λd r=>
 (k o e).elim λo' q=>q.elim λe' q=>
 ⟨o',es,ep,e',q.data.trans d,r⟩
theorem dh {h h' b9:Heap}:∀{l:List Env},h.FunFrames b9 l→(∀b,b∈fP l→∀o,h.get? b=some o→∃o',h'.get? b=some o'∧o'.data=o.data)→h'.FunFrames b9 l
 | [],_,_=>trivial
 |env::rest,⟨hk,⟨L,o,hf,hn,ho,hd⟩,hr⟩,k=>by
  have e:fP (env::rest)=L::fP rest:=by unfold fP; rw [List.filterMap_cons,hf]
  rw [e] at k
  obtain ⟨o',ho',hd'⟩:=k L (.head _) o ho
  exact ⟨hk,⟨L,o',hf,hn,ho',λvs=>hd'▸hd vs⟩,dh hr λb hb=>k b (.tail _ hb)⟩
section
variable (p:Program) (w:World)
structure Ad (h0:Heap)(fs:List Env)(cl:List (Str×Addr))(c:Cx)(L:Addr)(S:St):Prop where
 bj:h0.StaysIn c.h
 n:c.n=S.aa
 loc:C1 p w c S.loc L
 objs:∀m k o,(m,k,o)∈S.objs→OR p w c o (c.ρ k)
 aP:∀m k o,(m,k,o)∈S.objs→k<c.n∧h0.get? (c.ρ k)=.none∧c.ρ k≠L∧¬c.fz (c.ρ k)∧c.ρ k<c.h.objs.size
 inj:∀m k o m' k' o',(m,k,o)∈S.objs→(m',k',o')∈S.objs→c.ρ k=c.ρ k'→k=k'
 eW:(S.objs.map (·.2.1)).Nodup
 im:h0.get? L=.none∧¬c.fz L
 ez:∀a,c.fz a→a<c.h.objs.size
 kG:c.h.FunFrames h0 fs
 cW:∀b,b∈fP fs→b≠L∧¬c.fz b∧b<c.h.objs.size∧∀m k o,(m,k,o)∈S.objs→b≠c.ρ k
 ai:∀x m k,(x,m,k)∈S.ai→cl.lookup x=some (c.ρ k)∧k<c.n
 b9:∀a o,h0.get? a=some o→c.fz a
end
structure Am (fs:List Env)(c:Cx)(S:St)(L:Addr)(c':Cx)(S':St):Prop where
 le:Le c c'
 size:c.h.objs.size≤c'.h.objs.size
 keep:∀b o,c.h.get? b=some o→b≠L→(∀m k q,(m,k,q)∈S.objs→b≠c.ρ k)→∃o',c'.h.get? b=some o'∧AD fs b o o'
 fresh:∀a,c'.fz a→c.fz a∨c.h.objs.size≤a∨∃m k q,(m,k,q)∈S.objs∧a=c.ρ k
 aP:∀m k o,(m,k,o)∈S'.objs→(∃m' q,(m',k,q)∈S.objs)∨c.h.objs.size≤c'.ρ k
theorem Am.refl {fs:List Env}(c:Cx)(S:St)(L:Addr):Am fs c S L c S:=⟨.refl c,Nat.le_refl _,λ_ o e _ _=>⟨o,e,.refl o⟩,λ_ h=>.inl h,λm k o h=>.inl ⟨m,o,h⟩⟩
theorem Am.trans {fs:List Env}{c1 c2 c3:Cx}{S1 S2 S3:St}{L:Addr}(k1:∀m k o,(m,k,o)∈S1.objs→k<c1.n)(k2:∀m k o,(m,k,o)∈S2.objs→k<c2.n)(x:Am fs c1 S1 L c2 S2)(y:Am fs c2 S2 L c3 S3):Am fs c1 S1 L c3 S3:=by
 have qk:∀m k q,(m,k,q)∈S2.objs→(∃m' q',(m',k,q')∈S1.objs∧c2.ρ k=c1.ρ k)∨c1.h.objs.size≤c2.ρ k:=λm k q hk=>by
  rcases x.aP m k q hk with ⟨m',q',h'⟩|h'
  ·exact .inl ⟨m',q',h',x.le.ρ k (k1 m' k q' h')⟩
  ·exact .inr h'
 refine ⟨x.le.trans y.le,Nat.le_trans x.size y.size,λb o e hL hk=>?_,λa h=>?_,λm k o h=>?_⟩
 ·obtain ⟨o',e',q'⟩:=x.keep b o e hL hk
  obtain ⟨o'',e'',q''⟩:=y.keep b o' e' hL λm k q hq hb=>by
   rcases qk m k q hq with ⟨m',q',h',e'⟩|h'
   ·exact hk m' k q' h' (hb.trans e')
   ·exact absurd (hb▸Heap.lt_size e) (Nat.not_lt.mpr h')
  exact ⟨o'',e'',q'.trans q''⟩
 ·rcases y.fresh a h with h|h|⟨m,k,q,hq,rfl⟩
  ·exact x.fresh a h
  ·exact .inr (.inl (Nat.le_trans x.size h))
  ·rcases qk m k q hq with ⟨m',q',h',e'⟩|h'
   ·exact .inr (.inr ⟨m',k,q',h',e'⟩)
   ·exact .inr (.inl h')
 ·rcases y.aP m k o h with ⟨m',q,hq⟩|h'
  ·rcases x.aP m' k q hq with ⟨m'',q',h''⟩|h''
   ·exact .inl ⟨m'',q',h''⟩
   ·exact .inr (by rw [y.le.ρ k (k2 m' k q hq)]; exact h'')
  ·exact .inr (Nat.le_trans x.size h')
theorem Ad.kn {h0:Heap}{fs:List Env}{cl:List (Str×Addr)}{c:Cx}{L:Addr}{S:St}(R:Ad p w h0 fs cl c L S):∀m k o,(m,k,o)∈S.objs→k<c.n:=λm k o h=>(R.aP m k o h).1
section
variable {h0:Heap} {fs:List Env} {cl:List (Str×Addr)} {c:Cx} {L:Addr} {S:St}
theorem Ad.nL (R:Ad p w h0 fs cl c L S){h':Heap}(hs:c.h.objs.size≤h'.objs.size)(k:∀b o,c.h.get? b=some o→h'.get? b=some o):
  Ad p w h0 fs cl {c with h:=h'} L S∧Am fs c S L {c with h:=h'} S:=by
 have l:Le c {c with h:=h'}:=⟨Nat.le_refl _,λ_ _=>rfl,λ_ h=>h,λa o _ e=>k a o e⟩
 obtain ⟨vs,n1,n2⟩:=R.loc
 exact ⟨⟨λb o e=>k b o (R.bj b o e),R.n,⟨vs,iQ n1 λo=>k _ o,n2.aw l⟩,λm j o h=>(R.objs m j o h).aw l λq=>k _ q,
  λm j o h=>(R.aP m j o h).elim λa q=>q.elim λb q=>q.elim λd q=>q.elim λe f=>⟨a,b,d,e,Nat.lt_of_lt_of_le f hs⟩,R.inj,R.eW,R.im,λa h=>Nat.lt_of_lt_of_le (R.ez a h) hs,dh R.kG λb _ o e=>⟨o,k b o e,rfl⟩,λb h=>((R.cW b h).elim λa1 q=>q.elim λa2 q=>q.elim λa3 a4=>⟨a1,a2,Nat.lt_of_lt_of_le a3 hs,a4⟩),R.ai,R.b9⟩,
  ⟨l,hs,λb o e _ _=>⟨o,k b o e,.refl o⟩,λa h=>.inl h,λm j o h=>.inl ⟨m,o,h⟩⟩⟩
theorem Ad.upd (R:Ad p w h0 fs cl c L S){m0 k:Nat}{o o':AO}{S':St}(hm:(m0,k,o)∈S.objs)(h1:S'.loc=S.loc)(h2:S'.ai=S.ai)(h3:S'.aa=S.aa)
  (hS:∀m j q,(m,j,q)∈S'.objs→(j≠k∧(m,j,q)∈S.objs)∨(j=k∧q=o')) (hn:(S'.objs.map (·.2.1)).Nodup)
  {h':Heap} (hs:Heap.SameBut (c.ρ k) c.h h') (ho:Le c {c with h:=h'}→OR p w {c with h:=h'} o' (c.ρ k)):
  Ad p w h0 fs cl {c with h:=h'} L S'∧Am fs c S L {c with h:=h'} S':=by
 obtain ⟨k1,k2,k3,k4,k5⟩:=R.aP m0 k o hm
 have kp:∀b o,c.h.get? b=some o→b≠c.ρ k→h'.get? b=some o:=λb o e h=>(hs.2 b h).trans e
 have l:Le c {c with h:=h'}:=⟨Nat.le_refl _,λ_ _=>rfl,λ_ h=>h,λa o f e=>kp a o e λq=>k4 (q▸f)⟩
 have qk:∀m j q,(m,j,q)∈S'.objs→∃m' q',(m',j,q')∈S.objs:=λm j q h=>by
  rcases hS m j q h with ⟨_,h⟩|⟨rfl,_⟩
  ·exact ⟨m,q,h⟩
  ·exact ⟨m0,o,hm⟩
 obtain ⟨vs,n1,n2⟩:=R.loc
 refine ⟨⟨λb q e=>kp b q (R.bj b q e) (λz=>by rw [z,k2] at e; cases e),R.n.trans h3.symm,h1▸⟨vs,n1.sameBut hs (Ne.symm k3),n2.aw l⟩,λm j q h=>?_,λm j q h=>?_,λm j q m' j' q' h h'=>?_,hn,R.im,(λa f=>by show a<h'.objs.size; rw [hs.1]; exact R.ez a f),dh R.kG (λb hb q e=>⟨q,kp b q e ((R.cW b hb).2.2.2 m0 k o hm),rfl⟩),λb hb=>?_,λx m j h=>R.ai x m j (h2▸h),R.b9⟩,⟨l,Nat.le_of_eq hs.1.symm,λb q e _ hb=>⟨q,kp b q e (hb m0 k o hm),.refl q⟩,λa h=>.inl h,λm j q h=>.inl (qk m j q h)⟩⟩
 ·rcases hS m j q h with ⟨ne,h⟩|⟨rfl,rfl⟩
  ·exact (R.objs m j q h).aw l λz e=>kp _ z e λy=>ne (R.inj _ _ _ _ _ _ h hm y)
  ·exact ho l
 ·obtain ⟨m',q',h⟩:=qk m j q h
  obtain ⟨a,b,d,e,f⟩:=R.aP m' j q' h; exact ⟨a,b,d,e,by show _<h'.objs.size; rw [hs.1]; exact f⟩
 ·obtain ⟨_,_,a⟩:=qk _ _ _ h
  obtain ⟨_,_,b⟩:=qk _ _ _ h'
  exact R.inj _ _ _ _ _ _ a b
 ·obtain ⟨a1,a2,a3,a4⟩:=R.cW b hb
  refine ⟨a1,a2,by show b<h'.objs.size; rw [hs.1]; exact a3,λm j q h=>?_⟩
  obtain ⟨m',q',h⟩:=qk m j q h
  exact a4 m' j q' h
theorem Ad.frame (R:Ad p w h0 fs cl c L S){loc:List (Str×AV)}{h':Heap}(hs:Heap.SameBut L c.h h')(ho:Le c {c with h:=h'}→C1 p w {c with h:=h'} loc L):
  Ad p w h0 fs cl {c with h:=h'} L {S with loc:=loc}∧Am fs c S L {c with h:=h'} {S with loc:=loc}:=by
 have kp:∀b o,c.h.get? b=some o→b≠L→h'.get? b=some o:=λb o e h=>(hs.2 b h).trans e
 have l:Le c {c with h:=h'}:=⟨Nat.le_refl _,λ_ _=>rfl,λ_ h=>h,λa o f e=>kp a o e λq=>R.im.2 (q▸f)⟩
 refine ⟨⟨λb q e=>kp b q (R.bj b q e) (λz=>by rw [z,R.im.1] at e; cases e),R.n,ho l,λm j q h=>(R.objs m j q h).aw l λz e=>kp _ z e (R.aP m j q h).2.2.1,λm j q h=>?_,R.inj,R.eW,R.im,(λa f=>by show a<h'.objs.size; rw [hs.1]; exact R.ez a f),dh R.kG (λb hb q e=>⟨q,kp b q e (R.cW b hb).1,rfl⟩),λb hb=>((R.cW b hb).elim λa1 q=>q.elim λa2 q=>q.elim λa3 a4=>⟨a1,a2,by show b<h'.objs.size; rw [hs.1]; exact a3,a4⟩),R.ai,R.b9⟩,
  ⟨l,Nat.le_of_eq hs.1.symm,λb q e hb _=>⟨q,kp b q e hb,.refl q⟩,λa h=>.inl h,λm j q h=>.inl ⟨m,q,h⟩⟩⟩
 obtain ⟨a,b,d,e,f⟩:=R.aP m j q h
 exact ⟨a,b,d,e,by show _<h'.objs.size; rw [hs.1]; exact f⟩
theorem Ad.new (R:Ad p w h0 fs cl c L S){o:AO}{h':Heap}{a:Addr}{S':St}(h1:S'.loc=S.loc)(h2:S'.ai=S.ai)(h3:S'.aa=S.aa+1)
  (hS:∀m j q,(m,j,q)∈S'.objs→(m,j,q)∈S.objs∨(j=S.aa∧q=o)) (hn:(S'.objs.map (·.2.1)).Nodup)
  (hs:c.h.objs.size≤h'.objs.size) (k:∀b o,c.h.get? b=some o→h'.get? b=some o) (ha:c.h.objs.size≤a) (hl:a<h'.objs.size)
  (ho:∀c',Le c c'→c'.h=h'→c'.ρ S.aa=a→c'.n=S.aa+1→(∀j,j<c.n→c'.ρ j=c.ρ j)→OR p w c' o a):
  ∃c',Ad p w h0 fs cl c' L S'∧Am fs c S L c' S'∧c'.h=h'∧c'.ρ S.aa=a∧c'.n=S.aa+1:=by
 have hnn:=R.n
 let c':Cx:={h:=h',ρ:=λj=>if j=c.n then a else c.ρ j,n:=c.n+1,fz:=c.fz}
 have r1:∀j,j<c.n→c'.ρ j=c.ρ j:=λj hj=>if_neg (Nat.ne_of_lt hj)
 have r2:c'.ρ S.aa=a:=if_pos hnn.symm
 have l:Le c c':=⟨Nat.le_succ _,r1,λ_ h=>h,λa o _ e=>k a o e⟩
 obtain ⟨vs,n1,n2⟩:=R.loc
 have La:a≠L:=λe=>Nat.lt_irrefl _ (Nat.lt_of_lt_of_le (e▸n1.lt) ha)
 have qk:∀m j q,(m,j,q)∈S.objs→c.ρ j≠a:=λm j q h e=>Nat.lt_irrefl _ (Nat.lt_of_lt_of_le (e▸(R.aP m j q h).2.2.2.2) ha)
 have h0a:h0.get? a=.none:=by
  cases q:h0.get? a with
  |none=>rfl
  |some o=>exact absurd (Heap.lt_size (R.bj a o q)) (Nat.not_lt.mpr ha)
 refine ⟨c',⟨λb q e=>k b q (R.bj b q e),by show c.n+1=S'.aa; rw [hnn,h3],h1▸⟨vs,iQ n1 λo=>k _ o,n2.aw l⟩,λm j q h=>?_,λm j q h=>?_,λm j q m' j' q' h h' e=>?_,hn,R.im,λb f=>Nat.lt_of_lt_of_le (R.ez b f) hs,dh R.kG (λb _ o e=>⟨o,k b o e,rfl⟩),λb hb=>?_,λx m j h=>((R.ai x m j (h2▸h)).elim λa b=>⟨by rw [r1 j b]; exact a,Nat.lt_succ_of_lt b⟩),R.b9⟩,
  ⟨l,hs,λb q e _ _=>⟨q,k b q e,.refl q⟩,λb f=>.inl f,λm j q h=>?_⟩,rfl,r2,by show c.n+1=_; rw [hnn]⟩
 ·rcases hS m j q h with h|⟨rfl,rfl⟩
  ·rw [r1 j (R.kn m j q h)]; exact (R.objs m j q h).aw l λz=>k _ z
  ·rw [r2]; exact ho c' l rfl r2 (by show c.n+1=_; rw [hnn]) r1
 ·rcases hS m j q h with h|⟨rfl,rfl⟩
  ·obtain ⟨x1,x2,x3,x4,x5⟩:=R.aP m j q h
   rw [r1 j x1]; exact ⟨Nat.lt_succ_of_lt x1,x2,x3,x4,Nat.lt_of_lt_of_le x5 hs⟩
  ·rw [r2]; exact ⟨by show S.aa<c.n+1; rw [hnn]; exact Nat.lt_succ_self _,h0a,La,λf=>Nat.lt_irrefl _ (Nat.lt_of_lt_of_le (R.ez a f) ha),hl⟩
 ·rcases hS m j q h with h|⟨rfl,rfl⟩ <;> rcases hS m' j' q' h' with h'|⟨rfl,rfl⟩
  ·rw [r1 j (R.kn m j q h),r1 j' (R.kn m' j' q' h')] at e; exact R.inj _ _ _ _ _ _ h h' e
  ·rw [r2,r1 j (R.kn m j q h)] at e; exact absurd e (qk m j q h)
  ·rw [r2,r1 j' (R.kn m' j' q' h')] at e; exact absurd e.symm (qk m' j' q' h')
  ·rfl
 ·obtain ⟨a1,a2,a3,a4⟩:=R.cW b hb
  refine ⟨a1,a2,Nat.lt_of_lt_of_le a3 hs,λm j q h=>?_⟩
  rcases hS m j q h with h|⟨rfl,rfl⟩
  ·rw [r1 j (R.kn m j q h)]; exact a4 m j q h
  ·rw [r2]; exact λz=>Nat.lt_irrefl _ (Nat.lt_of_lt_of_le (z▸a3) ha)
 ·rcases hS m j q h with h|⟨rfl,rfl⟩
  ·exact .inl ⟨m,q,h⟩
  ·right; rw [r2]; exact ha
theorem Ad.ice (R:Ad p w h0 fs cl c L S){h':Heap}{F:Addr→Prop}(hs:c.h.objs.size≤h'.objs.size)(k:∀b o,c.h.get? b=some o→h'.get? b=some o)(hF:∀a,F a→c.h.objs.size≤a∧a<h'.objs.size):
  Ad p w h0 fs cl {c with h:=h',fz:=λa=>c.fz a∨F a} L S∧Am fs c S L {c with h:=h',fz:=λa=>c.fz a∨F a} S:=by
 have l:Le c {c with h:=h',fz:=λa=>c.fz a∨F a}:=⟨Nat.le_refl _,λ_ _=>rfl,λ_ h=>.inl h,λa o _ e=>k a o e⟩
 obtain ⟨vs,n1,n2⟩:=R.loc
 have up:∀a,a<c.h.objs.size→¬F a:=λa h f=>Nat.lt_irrefl _ (Nat.lt_of_lt_of_le h (hF a f).1)
 exact ⟨⟨λb o e=>k b o (R.bj b o e),R.n,⟨vs,iQ n1 λo=>k _ o,n2.aw l⟩,λm j o h=>(R.objs m j o h).aw l λq=>k _ q,
  λm j o h=>(R.aP m j o h).elim λa q=>q.elim λb q=>q.elim λd q=>q.elim λe f=>⟨a,b,d,λz=>z.elim e (up _ f),Nat.lt_of_lt_of_le f hs⟩,R.inj,R.eW,⟨R.im.1,λz=>z.elim R.im.2 (up _ n1.lt)⟩,λa h=>h.elim (λh=>Nat.lt_of_lt_of_le (R.ez a h) hs) (λh=>(hF a h).2),dh R.kG (λb _ o e=>⟨o,k b o e,rfl⟩),λb h=>(R.cW b h).elim λa1 q=>q.elim λa2 q=>q.elim λa3 a4=>⟨a1,λz=>z.elim a2 (up _ a3),Nat.lt_of_lt_of_le a3 hs,a4⟩,R.ai,λa o e=>.inl (R.b9 a o e)⟩,
  ⟨l,hs,λb o e _ _=>⟨o,k b o e,.refl o⟩,λa h=>h.elim .inl λh=>.inr (.inl (hF a h).1),λm j o h=>.inl ⟨m,o,h⟩⟩⟩
theorem Ad.qs (R:Ad p w h0 fs cl c L S){J:Nat→Prop}{S':St}(h1:S'.loc=S.loc)(h2:S'.ai=S.ai)(h3:S'.aa=S.aa)
  (hS:∀m j q,(m,j,q)∈S'.objs→(m,j,q)∈S.objs∧¬J j) (hJ:∀j,J j→∃m q,(m,j,q)∈S.objs) (hn:(S'.objs.map (·.2.1)).Nodup):
  Ad p w h0 fs cl {c with fz:=λa=>c.fz a∨∃j,J j∧a=c.ρ j} L S'∧Am fs c S L {c with fz:=λa=>c.fz a∨∃j,J j∧a=c.ρ j} S':=by
 have l:Le c {c with fz:=λa=>c.fz a∨∃j,J j∧a=c.ρ j}:=⟨Nat.le_refl _,λ_ _=>rfl,λ_ h=>.inl h,λa o _ e=>e⟩
 obtain ⟨vs,n1,n2⟩:=R.loc
 refine ⟨⟨R.bj,R.n.trans h3.symm,h1▸⟨vs,n1,n2.aw l⟩,λm j o h=>(R.objs m j o (hS _ _ _ h).1).aw l λq e=>e,λm j o h=>?_,λm k o m' k' o' h h'=>R.inj m k o m' k' o' (hS _ _ _ h).1 (hS _ _ _ h').1,hn,⟨R.im.1,λz=>?_⟩,λa h=>?_,R.kG,λb hb=>?_,λx m j h=>R.ai x m j (h2▸h),λa o e=>.inl (R.b9 a o e)⟩,
  ⟨l,Nat.le_refl _,λb o e _ _=>⟨o,e,.refl o⟩,λa h=>?_,λm j o h=>.inl ⟨m,o,(hS _ _ _ h).1⟩⟩⟩
 ·obtain ⟨a,b,d,e,f⟩:=R.aP m j o (hS _ _ _ h).1
  refine ⟨a,b,d,λz=>?_,f⟩
  rcases z with z|⟨i,hi,z⟩
  ·exact e z
  ·obtain ⟨m',q,hq⟩:=hJ i hi
   have:=R.inj _ _ _ _ _ _ (hS _ _ _ h).1 hq z
   exact (hS _ _ _ h).2 (this▸hi)
 ·rcases z with z|⟨i,hi,z⟩
  ·exact R.im.2 z
  ·obtain ⟨m',q,hq⟩:=hJ i hi
   exact (R.aP _ _ _ hq).2.2.1 z.symm
 ·rcases h with h|⟨i,hi,rfl⟩
  ·exact R.ez a h
  ·obtain ⟨m',q,hq⟩:=hJ i hi
   exact (R.aP _ _ _ hq).2.2.2.2
 ·obtain ⟨a1,a2,a3,a4⟩:=R.cW b hb
  refine ⟨a1,λz=>?_,a3,λm k o h=>a4 m k o (hS _ _ _ h).1⟩
  rcases z with z|⟨i,hi,z⟩
  ·exact a2 z
  ·obtain ⟨m',q,hq⟩:=hJ i hi
   exact a4 _ _ _ hq z
 ·rcases h with h|⟨i,hi,rfl⟩
  ·exact .inl h
  ·obtain ⟨m',q,hq⟩:=hJ i hi
   exact .inr (.inr ⟨m',i,q,hq,rfl⟩)
end
end
abbrev OL:=List (Nat×Nat×AO)
noncomputable def eY (m:Nat):OL→Option (Nat×AO)
 | []=>.none
 |p::r=>match Nat.beq p.1 m with|true=>some p.2|false=>eY m r
noncomputable def mc (m:Nat)(o:AO):OL→OL
 | []=>[]
 |p::r=>match Nat.beq p.1 m with|true=>(p.1,p.2.1,o)::r|false=>p::mc m o r
noncomputable def putN (m k:Nat)(o:AO):OL→OL
 | []=>[(m,k,o)]
 |p::r=>match Nat.beq p.1 m with|true=>(m,k,o)::r|false=>p::putN m k o r
noncomputable def md (m:Nat):OL→OL
 | []=>[]
 |p::r=>match Nat.beq p.1 m with|true=>r|false=>p::md m r
noncomputable abbrev dy (l:OL):List Nat:=l.map (·.2.1)
theorem bR {m k:Nat}{o:AO}{l:OL}(h:(m,k,o)∈l):k∈dy l:=List.mem_map.mpr ⟨_,h,rfl⟩
theorem tA {k:Nat}{l:OL}{P:Nat→Prop}(h:k∈dy l)(z:∀m k o,(m,k,o)∈l→P k):P k:=by
 obtain ⟨x,hx,e⟩:=List.mem_map.mp h
 exact e▸z x.1 x.2.1 x.2.2 hx
theorem cK {m:Nat}{r:Nat×AO}{l:OL}:eY m l=some r→(m,r)∈l:=by
 induction l with
 |nil=>exact nofun
 |cons p l ih=>
  intro e
  show (m,r)∈p::l
  have e:(match Nat.beq p.1 m with|true=>some p.2|false=>eY m l)=some r:=e
  cases q:Nat.beq p.1 m with
  |true=>rw [q] at e; exact Nat.eq_of_beq_eq_true q▸Option.some.inj e▸.head _
  |false=>rw [q] at e; exact .tail _ (ih e)
theorem nM (m:Nat)(o:AO)(l:OL):dy (mc m o l)=dy l:=by
 induction l with
 |nil=>rfl
 |cons p l ih=>
  show dy (match Nat.beq p.1 m with|true=>(p.1,p.2.1,o)::l|false=>p::mc m o l)=_
  cases Nat.beq p.1 m with
  |true=>rfl
  |false=>exact congrArg (p.2.1 :: ·) ih
theorem nN {m k:Nat}{o o0:AO}{l:OL}:(dy l).Nodup→eY m l=some (k,o0)→∀{m' j q},(m',j,q)∈mc m o l→(j≠k∧(m',j,q)∈l)∨(j=k∧q=o):=by
 induction l with
 |nil=>exact nofun
 |cons p l ih=>
  intro hn e m' j q h
  have hn:p.2.1 ∉ dy l∧(dy l).Nodup:=List.nodup_cons.mp hn
  have e:(match Nat.beq p.1 m with|true=>some p.2|false=>eY m l)=some (k,o0):=e
  have h:(m',j,q)∈(match Nat.beq p.1 m with|true=>(p.1,p.2.1,o)::l|false=>p::mc m o l):=h
  cases b:Nat.beq p.1 m with
  |true=>
   rw [b] at e h
   have e:p.2.1=k:=congrArg Prod.fst (Option.some.inj e)
   exact (List.mem_cons.mp h).elim (λh=>.inr (e▸Prod.mk.inj (Prod.mk.inj h).2)) λh=>.inl ⟨λz=>hn.1 (e.trans z.symm▸bR h),.tail _ h⟩
  |false=>
   rw [b] at e h
   exact (List.mem_cons.mp h).elim (λh=>.inl ⟨λz=>hn.1 (h▸z▸bR (cK e)),h▸.head _⟩) λh=>(ih hn.2 e h).elim (λh=>.inl ⟨h.1,.tail _ h.2⟩) .inr
theorem gB {m k:Nat}{o:AO}{l:OL}{m' j:Nat}{q:AO}:(m',j,q)∈putN m k o l→(m',j,q)∈l∨(j=k∧q=o):=by
 induction l with
 |nil=>exact λh=>.inr (Prod.mk.inj (Prod.mk.inj (List.mem_singleton.mp h)).2)
 |cons p l ih=>
  show (m',j,q)∈(match Nat.beq p.1 m with|true=>(m,k,o)::l|false=>p::putN m k o l)→_
  cases Nat.beq p.1 m with
  |true=>exact λh=>(List.mem_cons.mp h).elim (λh=>.inr (Prod.mk.inj (Prod.mk.inj h).2)) λh=>.inl (.tail _ h)
  |false=>exact λh=>(List.mem_cons.mp h).elim (λh=>.inl (h▸.head _)) λh=>(ih h).elim (λh=>.inl (.tail _ h)) .inr
theorem ju {m k:Nat}{o:AO}{l:OL}:(dy l).Nodup→k ∉ dy l→(dy (putN m k o l)).Nodup:=by
 induction l with
 |nil=>exact λ_ _=>List.nodup_cons.mpr ⟨List.not_mem_nil,List.nodup_nil⟩
 |cons p l ih=>
  intro hn hk
  have hn:p.2.1 ∉ dy l∧(dy l).Nodup:=List.nodup_cons.mp hn
  have hk:k≠p.2.1∧k ∉ dy l:=⟨λh=>hk (h▸.head _),λh=>hk (.tail _ h)⟩
  show (dy (match Nat.beq p.1 m with|true=>(m,k,o)::l|false=>p::putN m k o l)).Nodup
  cases Nat.beq p.1 m with
  |true=>exact List.nodup_cons.mpr ⟨hk.2,hn.2⟩
  |false=>exact List.nodup_cons.mpr ⟨λh=>tA (P:=λi=>i=p.2.1→False) h (λa b d hx e=>(gB hx).elim (λh=>hn.1 (e▸bR h)) λh=>hk.1 (h.1.symm.trans e)) rfl,ih hn.2 hk.2⟩
theorem nO {m:Nat}{l:OL}{x:Nat×Nat×AO}:x∈md m l→x∈l:=by
 induction l with
 |nil=>exact id
 |cons p l ih=>
  show x∈(match Nat.beq p.1 m with|true=>l|false=>p::md m l)→_
  cases Nat.beq p.1 m with
  |true=>exact .tail _
  |false=>exact λh=>(List.mem_cons.mp h).elim (λh=>h▸.head _) λh=>.tail _ (ih h)
theorem tB {m k:Nat}{o:AO}{l:OL}:(dy l).Nodup→eY m l=some (k,o)→∀{m' j q},(m',j,q)∈md m l→j≠k:=by
 induction l with
 |nil=>exact nofun
 |cons p l ih=>
  intro hn e m' j q h z
  have hn:p.2.1 ∉ dy l∧(dy l).Nodup:=List.nodup_cons.mp hn
  have e:(match Nat.beq p.1 m with|true=>some p.2|false=>eY m l)=some (k,o):=e
  have h:(m',j,q)∈(match Nat.beq p.1 m with|true=>l|false=>p::md m l):=h
  cases b:Nat.beq p.1 m with
  |true=>rw [b] at e h; exact hn.1 (congrArg Prod.fst (Option.some.inj e)▸z▸bR h)
  |false=>rw [b] at e h; exact (List.mem_cons.mp h).elim (λh=>hn.1 (h▸z▸bR (cK e))) λh=>ih hn.2 e h z
theorem nP (m:Nat)(l:OL):(md m l).Sublist l:=by
 induction l with
 |nil=>exact .slnil
 |cons p l ih=>
  show (match Nat.beq p.1 m with|true=>l|false=>p::md m l).Sublist _
  cases Nat.beq p.1 m with
  |true=>exact .cons _ (.refl l)
  |false=>exact .cons₂ _ ih
def St.get (S:St)(m:Nat):Option (Nat×AO):=match eY m S.am with
 |some r=>some r
 |none=>eY m S.af
def St.set (S:St)(m:Nat)(o:AO):St:=match eY m S.am with
 |some _=>{S with am:=mc m o S.am}
 |none=>{S with af:=mc m o S.af}
noncomputable def ah8 (m:Nat)(l:OL):OL:=match Nat.beq m 21 with
 |true=>l.take 13
 |false=>match Nat.beq m 23 with
  |true=>l.take 15
  |false=>l
theorem wS (m:Nat)(l:OL):(ah8 m l).Sublist l:=by
 unfold ah8
 cases Nat.beq m 21 with
 |true=>exact List.take_sublist _ _
 |false=>cases Nat.beq m 23 with
  |true=>exact List.take_sublist _ _
  |false=>exact .refl l
def St.i4 (S:St)(m:Nat)(o:AO):St:=match Nat.blt m 90 with
 |true=>{S with af:=putN m S.aa o (ah8 m S.af),aa:=S.aa+1}
 |false=>match Nat.blt m 100 with
  |true=>{S with af:=(m,S.aa,o)::S.af,aa:=S.aa+1}
  |false=>{S with am:=putN m S.aa o S.am,aa:=S.aa+1}
def St.kH (S:St)(m:Nat):St:=match eY m S.am with
 |some _=>{S with am:=md m S.am}
 |none=>{S with af:=md m S.af}
theorem get_mem {S:St}{m k:Nat}{o:AO}(e:S.get m=some (k,o)):(m,k,o)∈S.objs:=by
 unfold St.get at e
 cases q:eY m S.am with
 |some r=>rw [q] at e; exact List.mem_append_left _ (cK (q.trans e))
 |none=>rw [q] at e; exact List.mem_append_right _ (cK e)
theorem dN (a b:OL):dy (a++b)=dy a++dy b:=List.map_append
structure A8 (a b:OL):Prop where
 l:(dy a).Nodup
 r:(dy b).Nodup
 x:∀i,i∈dy a→i ∉ dy b
theorem A8.of {a b:OL}(h:(dy (a++b)).Nodup):A8 a b:=
 have h:=List.nodup_append.mp (dN a b▸h)
 ⟨h.1,h.2.1,λi ha hb=>h.2.2 i ha i hb rfl⟩
theorem A8.to {a b:OL}(h:A8 a b):(dy (a++b)).Nodup:=dN a b▸List.nodup_append.mpr ⟨h.l,h.r,λi ha j hb e=>h.x i ha (e▸hb)⟩
theorem ip {S:St}(h:(dy S.objs).Nodup):(dy S.am).Nodup∧(dy S.af).Nodup∧∀a,a∈dy S.am→a ∉ dy S.af:=have h:=A8.of h; ⟨h.l,h.r,h.x⟩
structure Alike (S S':St)(n:Nat):Prop where
 eW:(dy S'.objs).Nodup
 loc:S'.loc=S.loc
 ai:S'.ai=S.ai
 aa:S'.aa=n
theorem gC {S:St}{m k:Nat}{o0 o:AO}(hn:(dy S.objs).Nodup)(e:S.get m=some (k,o0)):
  (∀m' j q,(m',j,q)∈(S.set m o).objs→(j≠k∧(m',j,q)∈S.objs)∨(j=k∧q=o))∧Alike S (S.set m o) S.aa:=by
 have N:=A8.of hn
 unfold St.get at e
 unfold St.set
 cases h:eY m S.am with
 |some r=>
  rw [h] at e
  have h:=h.trans e
  exact ⟨λm' j q hm=>(List.mem_append.mp hm).elim (λhm=>(nN N.l h hm).elim (λh=>.inl ⟨h.1,List.mem_append_left _ h.2⟩) .inr) λhm=>.inl ⟨λz=>N.x k (bR (cK h)) (z▸bR hm),List.mem_append_right _ hm⟩,
   (show (dy (mc m o S.am++S.af)).Nodup from by rw [dN,nM,←dN]; exact hn),rfl,rfl,rfl⟩
 |none=>
  rw [h] at e
  exact ⟨λm' j q hm=>(List.mem_append.mp hm).elim (λhm=>.inl ⟨λz=>N.x j (bR hm) (z▸bR (cK e)),List.mem_append_left _ hm⟩) λhm=>(nN N.r e hm).elim (λh=>.inl ⟨h.1,List.mem_append_right _ h.2⟩) .inr,
   (show (dy (S.am++mc m o S.af)).Nodup from by rw [dN,nM,←dN]; exact hn),rfl,rfl,rfl⟩
theorem cM {S:St}{m:Nat}{o:AO}(hn:(dy S.objs).Nodup)(hk:S.aa ∉ dy S.objs):
  (∀m' j q,(m',j,q)∈(S.i4 m o).objs→(m',j,q)∈S.objs∨(j=S.aa∧q=o))∧Alike S (S.i4 m o) (S.aa+1):=by
 have N:=A8.of hn
 have hk:S.aa ∉ dy S.am++dy S.af:=dN S.am S.af▸hk
 have h1:S.aa ∉ dy S.am:=λh=>hk (List.mem_append_left _ h)
 have h2:S.aa ∉ dy S.af:=λh=>hk (List.mem_append_right _ h)
 have adH:∀{l g:OL},l.Sublist S.af→(∀m' j q,(m',j,q)∈g→(m',j,q)∈l∨(j=S.aa∧q=o))→(dy g).Nodup→(∀m' j q,(m',j,q)∈S.am++g→(m',j,q)∈S.objs∨(j=S.aa∧q=o))∧Alike S {S with af:=g,aa:=S.aa+1} (S.aa+1):=λ{l g} hl hg hgn=>
  ⟨λm' j q hm=>(List.mem_append.mp hm).elim (λhm=>.inl (List.mem_append_left _ hm)) λhm=>(hg _ _ _ hm).elim (λh=>.inl (List.mem_append_right _ (hl.subset h))) .inr,
   A8.to (a:=S.am) (b:=g) ⟨N.l,hgn,λi ha hb=>tA (P:=λi=>i∈dy S.am→False) hb (λx y z hx ha=>(hg _ _ _ hx).elim (λh=>N.x _ ha (bR (hl.subset h))) λh=>h1 (h.1▸ha)) ha⟩,rfl,rfl,rfl⟩
 unfold St.i4
 cases Nat.blt m 90 with
 |true=>
  have hc:=wS m S.af
  have hs:=List.Sublist.map (·.2.1) hc
  exact adH hc (λm' j q h=>gB h) (ju (hs.nodup N.r) λh=>h2 (hs.subset h))
 |false=>cases Nat.blt m 100 with
  |true=>exact adH (.refl S.af) (λm' j q h=>(List.mem_cons.mp h).elim (λh=>.inr (Prod.mk.inj (Prod.mk.inj h).2)) .inl) (List.nodup_cons.mpr ⟨h2,N.r⟩)
  |false=>exact ⟨λm' j q hm=>(List.mem_append.mp hm).elim (λhm=>(gB hm).elim (λh=>.inl (List.mem_append_left _ h)) .inr) λhm=>.inl (List.mem_append_right _ hm),
    A8.to (a:=putN m S.aa o S.am) (b:=S.af) ⟨ju N.l h1,N.r,λi ha hb=>tA (P:=λi=>i∈dy S.af→False) ha (λx y z hx hb=>(gB hx).elim (λh=>N.x _ (bR h) hb) λh=>h2 (h.1▸hb)) hb⟩,rfl,rfl,rfl⟩
theorem gE {S:St}{m k:Nat}{o:AO}(hn:(dy S.objs).Nodup)(e:S.get m=some (k,o)):
  (∀m' j q,(m',j,q)∈(S.kH m).objs→(m',j,q)∈S.objs∧j≠k)∧Alike S (S.kH m) S.aa:=by
 have N:=A8.of hn
 unfold St.get at e
 unfold St.kH
 cases h:eY m S.am with
 |some r=>
  rw [h] at e
  have h:=h.trans e
  exact ⟨λm' j q hm=>(List.mem_append.mp hm).elim (λhm=>⟨List.mem_append_left _ (nO hm),tB N.l h hm⟩) λhm=>⟨List.mem_append_right _ hm,λz=>N.x k (bR (cK h)) (z▸bR hm)⟩,
   (List.Sublist.map (·.2.1) (List.Sublist.append (nP m S.am) (.refl S.af))).nodup hn,rfl,rfl,rfl⟩
 |none=>
  rw [h] at e
  exact ⟨λm' j q hm=>(List.mem_append.mp hm).elim (λhm=>⟨List.mem_append_left _ hm,λz=>N.x j (bR hm) (z▸bR (cK e))⟩) λhm=>⟨List.mem_append_right _ (nO hm),tB N.r e hm⟩,
   (List.Sublist.map (·.2.1) (List.Sublist.append (.refl S.am) (nP m S.af))).nodup hn,rfl,rfl,rfl⟩
section
variable {p:Program} {w:World} {h0:Heap} {fs:List Env} {cl:List (Str×Addr)} {c:Cx} {L:Addr} {S:St}
theorem Ad.dO (R:Ad p w h0 fs cl c L S):S.aa ∉ dy S.objs:=λh=>tA (P:=λi=>i=S.aa→False) h (λm k o hx e=>Nat.lt_irrefl _ (R.n.trans e.symm▸R.kn m k o hx)) rfl
theorem Ad.d6 (R:Ad p w h0 fs cl c L S){m k:Nat}{o:AO}(e:S.get m=some (k,o)):OR p w c o (c.ρ k):=R.objs m k o (get_mem e)
theorem Ad.set (R:Ad p w h0 fs cl c L S){m k:Nat}{o o':AO}(e:S.get m=some (k,o)){h':Heap}(hs:Heap.SameBut (c.ρ k) c.h h')(ho:Le c {c with h:=h'}→OR p w {c with h:=h'} o' (c.ρ k)):
  Ad p w h0 fs cl {c with h:=h'} L (S.set m o')∧Am fs c S L {c with h:=h'} (S.set m o'):=
 have z:=gC (o:=o') R.eW e
 R.upd (get_mem e) z.2.loc z.2.ai z.2.aa z.1 z.2.eW hs ho
theorem Ad.i4 (R:Ad p w h0 fs cl c L S){m:Nat}{o:AO}{h':Heap}{a:Addr}(hs:c.h.objs.size≤h'.objs.size)(k:∀b o,c.h.get? b=some o→h'.get? b=some o)(ha:c.h.objs.size≤a)(hl:a<h'.objs.size)
  (ho:∀c',Le c c'→c'.h=h'→c'.ρ S.aa=a→c'.n=S.aa+1→(∀j,j<c.n→c'.ρ j=c.ρ j)→OR p w c' o a):
  ∃c',Ad p w h0 fs cl c' L (S.i4 m o)∧Am fs c S L c' (S.i4 m o)∧c'.h=h'∧c'.ρ S.aa=a∧c'.n=S.aa+1:=
 have z:=cM (m:=m) (o:=o) R.eW R.dO
 R.new z.2.loc z.2.ai z.2.aa z.1 z.2.eW hs k ha hl ho
section
variable {Z:Prop}
theorem Ad.arI (R:Ad p w h0 fs cl c L S){m k:Nat}{xs:List FV}(e:S.get m=some (k,.list xs))
  (z:∀c',FR p w c' (.fl xs) (.ref (c.ρ k))→Ad p w h0 fs cl c' L (S.kH m)→Am fs c S L c' (S.kH m)→c'.h=c.h→Z):Z:=by
 have d:=gE R.eW e
 obtain ⟨R',E'⟩:=R.qs (J:=λj=>j=k) d.2.loc d.2.ai d.2.aa d.1 (λj hj=>hj▸⟨m,_,get_mem e⟩) d.2.eW
 obtain ⟨vs,n,e1,e2⟩:=R.d6 e
 refine z _ ?_ R' E' rfl
 exact .fl (.inr ⟨k,rfl,rfl⟩) e1 (e2.aw E'.le)
theorem Ad.arJ (R:Ad p w h0 fs cl c L S){m k:Nat}{xs:List (Str×FV)}(e:S.get m=some (k,.dict xs))
  (z:∀c',FR p w c' (.ds xs) (.ref (c.ρ k))→Ad p w h0 fs cl c' L (S.kH m)→Am fs c S L c' (S.kH m)→c'.h=c.h→Z):Z:=by
 have d:=gE R.eW e
 obtain ⟨R',E'⟩:=R.qs (J:=λj=>j=k) d.2.loc d.2.ai d.2.aa d.1 (λj hj=>hj▸⟨m,_,get_mem e⟩) d.2.eW
 obtain ⟨vs,e1,e3,e2⟩:=R.d6 e
 refine z _ ?_ R' E' rfl
 exact .ds rfl rfl (.inr ⟨k,rfl,rfl⟩) e3 e1 (e2.aw E'.le)
theorem Ad.arK (R:Ad p w h0 fs cl c L S){m k dn di:Nat}{C:Addr}{fl:List (Str×AV)}{ff:List (Str×FV)}(e:S.get m=some (k,.inst C dn di))(e2:(S.kH m).get dn=some (di,.be fl))(hf:nI fl=some ff)
  (z:∀c',FR p w c' (.rc k C ff) (.ref (c.ρ k))→Ad p w h0 fs cl c' L ((S.kH m).kH dn)→Am fs c S L c' ((S.kH m).kH dn)→c'.h=c.h→Z):Z:=by
 have d:=gE R.eW e
 have d':=gE d.2.eW e2
 have hd:(dn,di,AO.be fl)∈S.objs:=(d.1 _ _ _ (get_mem e2)).1
 obtain ⟨R',E'⟩:=R.qs (J:=λj=>j=k∨j=di) (d'.2.loc.trans d.2.loc) (d'.2.ai.trans d.2.ai) (d'.2.aa.trans d.2.aa) (λm' j q hm=>have y:=d'.1 _ _ _ hm; have x:=d.1 _ _ _ y.1; ⟨x.1,λz=>z.elim x.2 y.2⟩)
  (λj hj=>hj.elim (λh=>h▸⟨m,_,get_mem e⟩) λh=>h▸⟨dn,_,hd⟩) d'.2.eW
 obtain ⟨vs,e5,e6⟩:=R.objs _ _ _ hd
 have h:=(e6.aw E'.le).nI hf
 refine z _ ?_ R' E' rfl
 exact .rc (a:=c.ρ k) (dx:=c.ρ di) rfl rfl (R.kn _ _ _ (get_mem e)) rfl (.inr ⟨k,.inl rfl,rfl⟩) (.inr ⟨di,.inr rfl,rfl⟩) (R.d6 e).1 (h.2▸e5) h.1
end
end
structure CI where
 attrs:List Str
 wT:List (Str×Addr)
 wU:List (Str×Addr)
structure Ah where
 prog:Program
 w:World
 K:Frag
 h0:Heap
 af:List (Str×Value)
 blt:List (Str×Value)
 me:List (Str×Addr×List FV)
 cls:List (Addr×CI)
noncomputable def iR {α:Type}(k:Nat):List (Nat×α)→Option α
 | []=>.none
 |p::r=>match Nat.beq p.1 k with|true=>some p.2|false=>iR k r
theorem fG {α:Type}{k:Nat}{o:α}{l:List (Nat×α)}:iR k l=some o→(k,o)∈l:=by
 induction l with
 |nil=>exact nofun
 |cons p r ih=>
  intro e
  have e:(match Nat.beq p.1 k with|true=>some p.2|false=>iR k r)=some o:=e
  cases q:Nat.beq p.1 k with
  |true=>rw [q] at e; exact Nat.eq_of_beq_eq_true q▸Option.some.inj e▸.head _
  |false=>rw [q] at e; exact .tail _ (ih e)
structure BM (K:Frag)(C:Addr)(ci:CI):Prop where
 cd:(clsIn K C).any (·.hasDict)=true
 over:plainOver K C=true
 ga:findIn K (.ref C) "__getattribute__" = some (some (.builtin "object.__getattribute__"))
 gh:findIn K (.ref C) "__getattr__" = some .none
 sa:findIn K (.ref C) "__setattr__" = some (some (.builtin "object.__setattr__"))
 bY:∀a,a∈ci.attrs→findIn K (.ref C) a=some .none
 arL:∀a f,(a,f)∈ci.wT→findIn K (.ref C) a=some (some (.ref f))∧typeIn K (.ref f)=some (.type "function")
 arM:∀a g,(a,g)∈ci.wU→∃p rest,findIn K (.ref C) a=some (some (.ref p))∧recIn K p "property" = some (.ref g::rest)∧specialIn K (.ref p) "__get__" = some (some (.builtin "property.__get__"))∧takesIn K (.ref p)=some true
structure Ah.Ok (G:Ah):Prop where
 nD:G.K.In G.h0
 lim:G.h0.NoLimit
 names:∃mg mb,G.h0.Ns mainGlobals mg∧G.h0.Ns builtinsNs mb∧(∀x v,(x,v)∈G.af→mg x=some v)∧(∀x v,(x,v)∈G.blt→mg x=.none∧mb x=some v)∧∀x a xs,(x,a,xs)∈G.me→mg x=some (.ref a)
 me:∀x a xs,(x,a,xs)∈G.me→∃vs n,G.h0.get? a=some {cls:=.type "tuple",data:=.seq vs.toArray n}∧∀c,Aj G.prog G.w c xs vs
 cls:∀C ci,(C,ci)∈G.cls→BM G.K C ci
structure Bh (env:Env)(sc:Scope)(cl:List (Str×Addr))(L:Addr):Prop where
 gd:env.scope=sc
 kind:sc.kind=.function
 loc:env.locals=L
 glo:env.globals=mainGlobals
 blt:env.builtins=builtinsNs
 ai:env.cells=cl
abbrev KE:=AV→St→Prop
abbrev KX:=FV→St→Prop
def Cw (A:Around)(n:Nat):Prop:=A.depth+n<recursionLimit∧A.units+8*n+8<cLine
theorem lg {o:Obj}{es:Array DictEntry}{ep:Nat}{name:Str}(hd:o.data=.dict es ep)(hk:StrKeys es):lookIn name o=some (nsFind es name):=by
 unfold lookIn
 rw [hd]
 dsimp only
 unfold nsFind findBy
 rw [←Array.find?_toList]
 cases q:es.toList.find? (λe=>e.key.isStr name) with
 |some e=>rfl
 |none=>
  have:es.toList.any (λe=>e.refKey)=false:=by
   rw [List.any_eq_false]
   intro e he
   obtain ⟨n,t,h⟩:=hk e (Array.mem_toList_iff.mp he)
   simp [DictEntry.refKey,h]
  rw [this]; rfl
noncomputable def isB:FV→Bool
 |.lit (.builtin _)=>true
 |_=>false
def wV:AV→Bool
 |.fr x=>isB x
 |_=>false
theorem lh {p:Program}{w:World}{c:Cx}{av:FV}{v:Value}(h:FR p w c av v)(hb:isB av=false):handedIn v=true:=
 h.el (P:=λv=>handedIn v=true) (by
  cases av with
  |lit v=>cases v with
   |builtin=>exact Bool.noConfusion hb
   |_=>rfl
  |_=>first|rfl|exact λ_=>rfl|exact λ_ _ _ _ _ _=>rfl|exact λ_ _ _ _ _ _ _ _=>rfl)
theorem li {p:Program}{w:World}{c:Cx}{av:AV}{v:Value}(h:VR p w c av v)(hb:wV av=false):handedIn v=true:=
 VR.casesOn (motive:=λav v _=>wV av=false→handedIn v=true) h (λ_ _ _ _=>rfl) (λh hb=>lh h hb) hb
section
variable {G:Ah} {fs:List Env} {cl:List (Str×Addr)} {c:Cx} {L:Addr} {S:St} {A:Around} {s:Shared}
theorem Ad.nD (R:Ad G.prog G.w G.h0 fs cl c L S)(hG:G.Ok)(hs:c.h=s.heap):G.K.In s.heap:=hs▸hG.nD.keeps R.bj
theorem gf {env:Env}{sc:Scope}{x:Str}{pos:Pos}{av:AV}{Q E:Value→Shared→Prop}(hE:Bh env sc cl L)(R:Ad G.prog G.w G.h0 fs cl c L S)(hs:c.h=s.heap)
  (hd:(x==("__debug__" : Str))=false) (hk:sc.names.lookup x=some .local) (hv:S.loc.lookup x=some av) (h:∀v,VR G.prog G.w c av v→Q v s):
  wpAny (model G.prog G.w) A (eval (.Name x pos) env) Q E s:=by
 obtain ⟨vs,n1,n2⟩:=R.loc
 obtain ⟨v,e,r⟩:=qr n2 hv
 refine wpAny_Name (wpAny_loadName_local (by rw [hE.gd]; exact hE.kind) (by unfold Env.kindOf; rw [hE.gd]; exact hk) (m:=_) ?_ e (h v r)) hd
 rw [hE.loc,←hs]; exact n1
theorem uX {env:Env}{sc:Scope}{x:Str}{pos:Pos}{v:Value}{Q E:Value→Shared→Prop}(hG:G.Ok)(hE:Bh env sc cl L)(R:Ad G.prog G.w G.h0 fs cl c L S)(hs:c.h=s.heap)
  (hd:(x==("__debug__" : Str))=false) (hk:sc.names.lookup x=some .globalImplicit) (hv:(x,v)∈G.af∨(x,v)∈G.blt∨∃a xs,(x,a,xs)∈G.me∧v=.ref a) (h:Q v s):
  wpAny (model G.prog G.w) A (eval (.Name x pos) env) Q E s:=by
 obtain ⟨mg,mb,N⟩:=hG.names
 have g1:s.heap.Ns env.globals mg:=hE.glo▸hs▸iQ N.1 λo=>R.bj _ o
 have b1:s.heap.Ns env.builtins mb:=hE.blt▸hs▸iQ N.2.1 λo=>R.bj _ o
 exact Name_function_global (hE.gd▸hE.kind) (show env.scope.names.lookup x=_ from hE.gd▸hk)
  (hv.elim (λhv=>loadGlobal_global g1 (N.2.2.1 _ _ hv) h) λhv=>hv.elim (λhv=>loadGlobal_builtin g1 (N.2.2.2.1 _ _ hv).1 b1 (N.2.2.2.1 _ _ hv).2 h) λ⟨a,xs,hv,e⟩=>loadGlobal_global g1 (N.2.2.2.2 _ _ _ hv) (e▸h)) hd
structure AH (p:Program)(w:World)(c:Cx)(x C dx:Addr)(fs:List (Str×AV)):Prop where
 aj:c.h.get? x=some (instObj C dx)
 ns:∃vs,c.h.Ns1 dx (zl (fs.map (·.1)) vs)∧Al p w c (fs.map (·.2)) vs
theorem AH.of (R:Ad G.prog G.w G.h0 fs cl c L S){m k C dn di:Nat}{l:List (Str×AV)}(hk:S.get m=some (k,.inst C dn di))(hd:S.get dn=some (di,.be l)):AH G.prog G.w c (c.ρ k) C (c.ρ di) l:=
 ⟨(R.d6 hk).1,R.d6 hd⟩
noncomputable def wW (l:List (Str×FV)):List (Str×AV):=l.map λp=>(p.1,.fr p.2)
theorem uY (l:List (Str×FV)):(wW l).map (·.1)=l.map (·.1):=by unfold wW; rw [List.map_map]; rfl
theorem wX (l:List (Str×FV)):(wW l).map (·.2)=(l.map (·.2)).map .fr:=by unfold wW; rw [List.map_map,List.map_map]; rfl
theorem AH.rc {k:Nat}{C:Addr}{l:List (Str×FV)}{v:Value}(h:FR G.prog G.w c (.rc k C l) v){Z:Value→Prop}(z:∀x dx,AH G.prog G.w c x C dx (wW l)→Z (.ref x)):Z v:=
 h.el (P:=Z) λvs dx _ _ _ e n r=>z _ dx ⟨e,vs,uY l▸n,wX l▸Al.ofF r⟩
theorem AH.kJ {x C dx:Addr}{l:List (Str×AV)}(I:AH G.prog G.w c x C dx l)(hs:c.h=s.heap)(name:Str){Z:Prop}
  (z:∀od vs,PySem.W.InstAt s.heap x (instObj C dx) C (some od)→Al G.prog G.w c (l.map (·.2)) vs→s.heap.Ns1 dx (zl (l.map (·.1)) vs)→lookIn name od=some (zl (l.map (·.1)) vs name)→Z):Z:=by
 obtain ⟨a,vs,N,r⟩:=I
 have N:=hs▸N
 obtain ⟨od,es,ep,e,d,k,q,f⟩:=id N
 exact z od vs ⟨hs▸a,rfl,rfl,e⟩ r N ((lg d k).trans (congrArg some (f name)))
theorem wY {x C dx:Addr}{ci:CI}{l:List (Str×AV)}{a:Str}{av:AV}{Q:Value→Shared→Prop}{E:Value→Shared→Prop}{b:Bool}(hG:G.Ok)(R:Ad G.prog G.w G.h0 fs cl c L S)(hs:c.h=s.heap)(I:AH G.prog G.w c x C dx l)
  (hc:(C,ci)∈G.cls) (ha:a∈ci.attrs) (hl:l.lookup a=some av) (hb:wV av=false) (h:∀v,VR G.prog G.w c av v→Q v {s with toks:=s.toks+1}):
  wpAny (model G.prog G.w) A (getAttr (.ref x) a b) Q E s:=by
 have O:=hG.cls C ci hc
 exact I.kJ hs a λod vs J r _ e=>(qr r hl).elim λv q=>q.elim λhv hr=>get_value (R.nD hG hs) J O.ga (findObj_own O.cd (O.bY a ha) rfl (hv▸e)) (li hr hb) (h v hr)
theorem uZ (ns:List Str)(vs:List Value):PySem.Within (zl ns vs) ns:=λy hy=>by
 cases q:zl ns vs y with
 |none=>exact absurd q hy
 |some v=>
  obtain ⟨l1,l2,e,_⟩:=List.lookup_eq_some_iff.mp q
  exact (List.of_mem_zip (e▸List.mem_append_right _ (.head _):(y,v)∈ns.zip vs)).1
theorem wZ {h:Heap}{a:Addr}{m m':Str→Option Value}(x:h.Ns1 a m)(y:h.Ns1 a m'):m=m':=by
 obtain ⟨o1,e1,p1,g1,d1,_,_,f1⟩:=x
 obtain ⟨o2,e2,p2,g2,d2,_,_,f2⟩:=y
 cases g1.symm.trans g2
 cases d1.symm.trans d2
 exact funext λy=>(f1 y).symm.trans (f2 y)
theorem mf {x C dx:Addr}{ci:CI}{l:List (Str×AV)}{a:Str}{v:Value}{Q:Unit→Shared→Prop}{E:Value→Shared→Prop}(hG:G.Ok)(R:Ad G.prog G.w G.h0 fs cl c L S)(hs:c.h=s.heap)(I:AH G.prog G.w c x C dx l)
  (hc:(C,ci)∈G.cls) (ha:a∈ci.attrs) (hz:l.length≤1000)
  (h:∀h' tk,(∀vs,c.h.Ns1 dx (zl (l.map (·.1)) vs)→h'.Ns1 dx (λy=>if y=a then some v else zl (l.map (·.1)) vs y))→Heap.SameBut dx s.heap h'→Q () {s with heap:=h',toks:=tk}):
  wpAny (model G.prog G.w) A (setAttr (.ref x) a v) Q E s:=by
 have O:=hG.cls C ci hc
 have X:=R.nD hG hs
 have a1:=hs▸I.aj
 refine I.kJ hs a λod vs J r n1 e=>?_
 refine set_plain X J O.sa (osa_open (s:={s with toks:=s.toks+1}) X J O.over (show (findIn G.K (.ref C) a).bind _=_ by rw [O.bY a ha]; rfl) λb=>?_)
 obtain ⟨cd,hcd,hd'⟩:=any_some O.cd
 refine wpAny_bind (wpAny_pure (wpAny_bind (wpAny_bind (wpAny_loadPart a1 (wpAny_bind (looks_clsIn X hcd _ _ _ _ (λ_ _ e=>e) ?_))))))
 rw [hd']
 refine wpAny_pure (a:=some dx) (wpAny_bind (wpAny_pure (wpAny_bind (wpAny_nsSet1 n1 λh' n' sb=>?_))))
 obtain ⟨o',es',ep',g',d',z'⟩:=n'.count (ns:=a::l.map (·.1)) λy hy=>(Decidable.em (y=a)).elim (λq=>q▸.head _) λq=>.tail _ (uZ _ _ y (if_neg q▸hy))
 refine wpAny_bind (wpAny_lookBehind g' (by rw [d']; exact pastItsLine_dict (by rw [List.length_cons,List.length_map] at z'; rw [sizeLine_eq]; lia)) (wpAny_pure ?_))
 refine h h' _ (λws nw=>?_) sb
 rw [show zl (l.map (·.1)) ws=zl (l.map (·.1)) vs from wZ (hs▸nw) n1]
 exact n'
theorem w0 {m k C dn di:Nat}{ci:CI}{l:List (Str×AV)}{a:Str}{v:Value}{av:AV}{Q:Unit→Shared→Prop}{E:Value→Shared→Prop}(hG:G.Ok)(R:Ad G.prog G.w G.h0 fs cl c L S)(hs:c.h=s.heap)
  (hk:S.get m=some (k,.inst C dn di)) (hd:S.get dn=some (di,.be l)) (hc:(C,ci)∈G.cls) (ha:a∈ci.attrs) (hz:l.length≤1000) (hv:VR G.prog G.w c av v)
  (h:∀c' tk,Ad G.prog G.w G.h0 fs cl c' L (S.set dn (.be (cC a av l)))→Am fs c S L c' (S.set dn (.be (cC a av l)))→Q () {s with heap:=c'.h,toks:=tk}):
  wpAny (model G.prog G.w) A (setAttr (.ref (c.ρ k)) a v) Q E s:=by
 refine mf hG R hs (AH.of R hk hd) hc ha hz λh' tk hn sb=>?_
 obtain ⟨R',E'⟩:=R.set (o':=.be (cC a av l)) hd (h':=h') (hs▸sb) λlc=>by
  obtain ⟨vs,n1,r⟩:=R.d6 hd
  obtain ⟨ws,f,r'⟩:=jr hv r
  exact ⟨ws,(funext f:zl ((cC a av l).map (·.1)) ws=_)▸hn vs n1,r'.aw lc⟩
 exact h _ tk R' E'
end
def Sm (i:Int):Prop:=i.natAbs<2 ^ 400
theorem Sm.log {i:Int}(h:Sm i):i.natAbs.log2<400:=by
 by_cases h0:i.natAbs=0
 ·rw [h0]; decide
 ·exact (Nat.log2_lt h0).mpr h
theorem Sm.alJ {i:Int}(h:Sm i):Builtin.Int.intBits i≤2 ^ 20:=by
 unfold Builtin.Int.intBits
 have:=h.log
 split
 ·exact Nat.zero_le _
 ·have:(400:Nat)≤2 ^ 20:=by decide
  lia
theorem Sm.mul {a b:Int}(ha:Sm a)(hb:Sm b):IntMulOk a b:=IntMulOk.of_bits ha.alJ hb.alJ
theorem Sm.div {a b:Int}(hb:Sm b):Builtin.divisionGoesByPylong a b=false:=PyProof.noPylong_of_log2 (by have:=hb.log; lia)
def vOk (b:Bool)(P:Prop):Prop:=match b with
 |false=>P
 |true=>False
theorem cg {b:Bool}{P:Prop}(h:vOk b P):b=false∧P:=by
 cases b with
 |false=>exact ⟨rfl,h⟩
 |true=>exact h.elim
structure Run (G:Ah)(A:Around)(fs:List Env)(ev:Env)(sc:Scope)(cl:List (Str×Addr))(L:Addr)(n:Nat)(q:Bool):Prop where
 ok:G.Ok
 env:Bh ev sc cl L
 frames:∃all,A.frames=some all∧(all=fs∨(all=ev::fs∧ev.frame=some L))
 kK:Cw A n
 i5:q=true→A.handled=none
structure At (G:Ah)(fs:List Env)(cl:List (Str×Addr))(L:Addr)(c:Cx)(S:St)(s:Shared):Prop where
 aF:Ad G.prog G.w G.h0 fs cl c L S
 heap:c.h=s.heap
def Ak {α β:Type}(gg:Cx→α→β→Prop)(G:Ah)(fs:List Env)(cl:List (Str×Addr))(L:Addr)(c:Cx)(S:St)(s:Shared)(K:α→St→Prop)(Q:β→Shared→Prop):Prop:=
 ∀c' a S' b tk,K a S'→Am fs c S L c' S'→Ad G.prog G.w G.h0 fs cl c' L S'→S'.ai=S.ai→gg c' a b→Q b {s with heap:=c'.h,toks:=tk}
section
variable {G:Ah} {fs:List Env} {cl:List (Str×Addr)} {c:Cx} {L:Addr} {S:St} {s:Shared} {α β:Type} {gg:Cx→α→β→Prop} {K:α→St→Prop} {Q:β→Shared→Prop}
theorem Ak.ak (p:Ak gg G fs cl L c S s K Q)(R:Ad G.prog G.w G.h0 fs cl c L S){c1:Cx}{S1:St}(R1:Ad G.prog G.w G.h0 fs cl c1 L S1)(e:Am fs c S L c1 S1)(hc:S1.ai=S.ai)(tk:Nat):
  Ak gg G fs cl L c1 S1 {s with heap:=c1.h,toks:=tk} K Q:=
 λc' a S' b tk' k e' R' nQ r=>p c' a S' b tk' k (e.trans R.kn R1.kn e') R' (nQ.trans hc) r
theorem Ak.now (p:Ak gg G fs cl L c S s K Q)(h:At G fs cl L c S s){a:α}{b:β}(k:K a S)(r:gg c a b)(tk:Nat):Q b {s with toks:=tk}:=by
 have:=p c a S b tk k (.refl ..) h.aF rfl r
 rw [h.heap] at this
 exact this
theorem Ak.here (p:Ak gg G fs cl L c S s K Q)(h:At G fs cl L c S s){a:α}{b:β}(k:K a S)(r:gg c a b):Q b s:=p.now h k r s.toks
theorem At.ak (h:At G fs cl L c S s){c1:Cx}{S1:St}(R1:Ad G.prog G.w G.h0 fs cl c1 L S1)(tk:Nat):At G fs cl L c1 S1 {s with heap:=c1.h,toks:=tk}:=⟨R1,rfl⟩
end
noncomputable abbrev bA:Str:=Str.ofString "told"
structure Ac (h0:Heap)(fs:List Env)(L:Addr)(c:Cx)(S:St)(a:Addr):Prop where
 lt:a<c.h.objs.size
 fz:¬c.fz a
 h0:h0.get? a=none
 ne:a≠L
 obj:∀m k o,(m,k,o)∈S.objs→a≠c.ρ k
 fr:a ∉ fP fs
structure BQ (h:Heap)(L e T:Addr):Prop where
 ne:T≠e
 it:∃oT ts,h.get? T=some oT∧oT.data=.fields ts∧(ts[3]?=some .none∨ts[3]?=some (rawInt L))
structure ExcAt (G:Ah)(c:Cx)(x:FV)(C e:Addr)(oe:Obj)(dx:Addr)(vs:Array Value):Prop where
 aj:c.h.get? e=some oe
 cls:oe.cls=.ref C
 dict:oe.dict=some dx
 data:oe.data=.fields vs
 u0:∃ws,c.h.Ns1 dx (zl [bA] ws)∧Aj G.prog G.w c [x] ws
 fz:c.fz dx
inductive Bi (G:Ah) (fs:List Env) (L:Addr) (c:Cx) (S:St) (x:FV):Value→Addr×Nat→Prop
 |mk {e:Addr} {oe:Obj} {dx:Addr} {vs:Array Value} {C:Addr} {B:Nat}:ExcAt G c x C e oe dx vs→B≤e→Ac G.h0 fs L c S e→(vs[1]?=some .none∨∃T,vs[1]?=some (.ref T)∧BQ c.h L e T∧B≤T∧Ac G.h0 fs L c S T)→Bi G fs L c S x (.ref e) (C,B)
def Ai (G:Ah)(PE:Addr×Nat)(fs:List Env)(cl:List (Str×Addr))(L:Addr)(c:Cx)(S:St)(s:Shared)(X:KX)(E:Value→Shared→Prop):Prop:=
 PE.2≤c.h.objs.size∧∀c' x S' v tk,X x S'→Am fs c S L c' S'→Ad G.prog G.w G.h0 fs cl c' L S'→S'.ai=S.ai→Bi G fs L c' S' x v PE→E v {s with heap:=c'.h,toks:=tk}
theorem Ai.ak {G:Ah}{PE:Addr×Nat}{fs:List Env}{cl:List (Str×Addr)}{c:Cx}{L:Addr}{S:St}{s:Shared}{X:KX}{E:Value→Shared→Prop}(p:Ai G PE fs cl L c S s X E)(R:Ad G.prog G.w G.h0 fs cl c L S){c1:Cx}{S1:St}(R1:Ad G.prog G.w G.h0 fs cl c1 L S1)(e:Am fs c S L c1 S1)(hc:S1.ai=S.ai)(tk:Nat):
  Ai G PE fs cl L c1 S1 {s with heap:=c1.h,toks:=tk} X E:=
 ⟨Nat.le_trans p.1 e.size,λc' a S' b tk' k e' R' nQ r=>p.2 c' a S' b tk' k (e.trans R.kn R1.kn e') R' (nQ.trans hc) r⟩
abbrev Ae {α β:Type}(gg:Cx→α→β→Prop)(G:Ah)(PE:Addr×Nat)(A:Around)(fs:List Env)(cl:List (Str×Addr))(L:Addr)(vc:St→(α→St→Prop)→KX→Prop)(t:Sem β):Prop:=
 ∀(c:Cx) (S:St) (s:Shared),At G fs cl L c S s→∀(K:α→St→Prop) (X:KX) (Q:β→Shared→Prop) (E:Value→Shared→Prop),vc S K X→Ak gg G fs cl L c S s K Q→Ai G PE fs cl L c S s X E→wpAny (model G.prog G.w) A t Q E s
abbrev Ap {α β:Type}(gg:Cx→α→β→Prop)(G:Ah)(PE:Addr×Nat)(A:Around)(fs:List Env)(cl:List (Str×Addr))(L:Addr)(c:Cx)(S:St)(s:Shared)(vc:(α→St→Prop)→KX→Prop)(t:Sem β):Prop:=
 ∀(K:α→St→Prop) (X:KX) (Q:β→Shared→Prop) (E:Value→Shared→Prop),vc K X→Ak gg G fs cl L c S s K Q→Ai G PE fs cl L c S s X E→wpAny (model G.prog G.w) A t Q E s
section
variable {G:Ah} {PE:Addr×Nat} {A:Around} {fs:List Env} {cl:List (Str×Addr)} {L:Addr} {c:Cx} {S:St} {s:Shared}
theorem Ap.no {α β:Type}{gg:Cx→α→β→Prop}{vc:(α→St→Prop)→KX→Prop}{t:Sem β}(h:∀K X,¬vc K X):Ap gg G PE A fs cl L c S s vc t:=λK X _ _ v _ _=>(h K X v).elim
theorem Ae.no {α β:Type}{gg:Cx→α→β→Prop}{vc:St→(α→St→Prop)→KX→Prop}{t:Sem β}(h:∀S K X,¬vc S K X):Ae gg G PE A fs cl L vc t:=λ_ S _ _ K X _ _ v _ _=>(h S K X v).elim
theorem Ae.seq {α β α' β':Type}{gg:Cx→α→β→Prop}{rel':Cx→α'→β'→Prop}{vc:St→(α→St→Prop)→KX→Prop}{t:Sem β}{vc':α→St→(α'→St→Prop)→KX→Prop}{k:β→Sem β'}
  (h:Ae gg G PE A fs cl L vc t) (h':∀c a S b s,At G fs cl L c S s→gg c a b→Ap rel' G PE A fs cl L c S s (vc' a S) (k b)) (a:At G fs cl L c S s)
  {K:α'→St→Prop} {X:KX} {Q:β'→Shared→Prop} {E:Value→Shared→Prop} (v:vc S (λa S'=>vc' a S' K X) X) (p:Ak rel' G fs cl L c S s K Q) (x:Ai G PE fs cl L c S s X E):
  wpAny (model G.prog G.w) A t (λb s₁=>wpAny (model G.prog G.w) A (k b) Q E s₁) E s:=
 h c S s a _ X _ E v (λc1 a1 S1 b1 aL k1 e1 R1 a8 r1=>h' c1 a1 S1 b1 _ (a.ak R1 aL) r1 K X Q E k1 (p.ak a.aF R1 e1 a8 aL) (x.ak a.aF R1 e1 a8 aL)) x
end
section
variable {G:Ah} {PE:Addr×Nat} {A:Around} {fs:List Env} {cl:List (Str×Addr)} {L:Addr} {c:Cx} {S:St} {s:Shared} {env:Env} {sc:Scope} {n:Nat} {q:Bool}
def w5:Const→St→KE→Prop
 |.none,S,K=>K (.fr .none) S
 |.bool b,S,K=>K (.fr (.bool b)) S
 |.int i,S,K=>K (.fr (.int i)) S
 |.str x,S,K=>K (.fr (.str x)) S
 |.bytes x,S,K=>K (.fr (.bytes x.toArray)) S
 |_,_,_=>False
theorem u4 (k:Const)(j:Nat)(pos:Pos):Ae (VR G.prog G.w) G PE A fs cl L (λS K _=>w5 k S K) (eval (.Constant k j pos) env):=by
 intro c S s a K X Q E v p x
 cases k with
 |none=>exact wpAny_Constant_none (p.here a v (.fr .none))
 |bool b=>exact wpAny_Constant_bool (p.here a v (.fr (.bool b)))
 |int i=>exact wpAny_Constant_int (p.now a v (.fr (.int i _)) _)
 |str x=>exact wpAny_Constant_str (p.now a v (.fr (.str x _)) _)
 |bytes x=>exact Constant_bytes (p.now a v (.fr (.bytes _ _)) _)
 |_=>exact v.elim
noncomputable def ofV:Value→FV
 |.int i _=>.int i
 |v=>.lit v
theorem w6 {p:Program}{w:World}{c:Cx}(v:Value):FR p w c (ofV v) v:=by
 cases v with
 |int=>exact .int _ _
 |_=>exact .lit _
def u5 (o:Option NameKind)(a b d:Prop):Prop:=match o with
 |some k=>match k with
  |.local=>a
  |.globalImplicit=>b
  |.cell=>d
  |_=>False
 |none=>False
theorem gF {o:Option NameKind}{a b d Z:Prop}(h:u5 o a b d)(ka:o=some .local→a→Z)(kb:o=some .globalImplicit→b→Z)(kd:o=some .cell→d→Z):Z:=by
 cases o with
 |none=>exact h.elim
 |some k=>cases k with
  | «local» => exact ka rfl h
  |globalImplicit=>exact kb rfl h
  |cell=>exact kd rfl h
  |_=>exact h.elim
def adI (G:Ah)(sc:Scope)(x:Str)(S:St)(K:KE):Prop:=
 vOk (x==("__debug__" : Str)) <| u5 (sc.names.lookup x) (bW (S.loc.lookup x) λav=>K av S)
  (match G.af.lookup x with
  |some v=>K (.fr (ofV v)) S
  |none=>match G.blt.lookup x with
   |some v=>K (.fr (.lit v)) S
   |none=>bW (G.me.lookup x) λv=>K (.fr (.az v.2)) S)
  (bW (S.ai.lookup x) λp=>bW (S.get p.1) λr=>wQ r.2 λav=>p.2=r.1∧K av S)
theorem ch {α β:Type}[BEq α][LawfulBEq α]{x:α}{v:β}{l:List (α×β)}(h:l.lookup x=some v):(x,v)∈l:=
 let ⟨_,_,e,_⟩:=List.lookup_eq_some_iff.mp h
 e▸List.mem_append_right _ (.head _)
theorem w7 (r:Run G A fs env sc cl L n q)(x:Str)(pos:Pos):Ae (VR G.prog G.w) G PE A fs cl L (λS K _=>adI G sc x S K) (eval (.Name x pos) env):=by
 intro c S s a K X Q E v p _
 have hd:=(cg v).1
 refine gF (cg v).2 (λhk v=>au v λav hv v=>gf r.env a.aF a.heap hd hk hv λu hu=>p.here a v hu) (λhk v=>?_) λhk v=>au v λm hc v=>au v λg hg v=>?_
 ·have af:∀{v f},((x,v)∈G.af∨(x,v)∈G.blt∨∃a xs,(x,a,xs)∈G.me∧v=.ref a)→K (.fr f) S→FR G.prog G.w c f v→wpAny (model G.prog G.w) A (eval (.Name x pos) env) Q E s:=λh k f=>uX r.ok r.env a.aF a.heap hd hk h (p.here a k (.fr f))
  revert v
  cases h1:G.af.lookup x with
  |some u=>exact λv=>af (.inl (ch h1)) v (w6 u)
  |none=>cases h2:G.blt.lookup x with
   |some u=>exact λv=>af (.inr (.inl (ch h2))) v (.lit u)
   |none=>exact λv=>au v λu hu v=>(r.ok.me _ _ _ (ch hu)).elim λ_ q=>q.elim λ_ q=>q.elim λe1 e2=>af (.inr (.inr ⟨u.1,u.2,ch hu,rfl⟩)) v (.az (a.aF.b9 _ _ e1) (a.aF.bj _ _ e1) (e2 c))
 ·obtain ⟨m,k⟩:=m
  obtain ⟨j,o⟩:=g
  refine uW (P:=λo=>OR G.prog G.w c o (c.ρ j)→_) v (λav v g=>?_) (a.aF.d6 hg)
  obtain ⟨u,hu,hr⟩:=g
  cases u with
  |none=>exact hr.elim
  |some u=>exact wpAny_Name (wpAny_loadName_cell (r.env.gd▸r.env.kind) (show env.scope.names.lookup x=_ from r.env.gd▸hk) (r.env.ai▸(a.aF.ai x m k (ch hc)).1) (v:=u) (a.heap▸(show k=j from v.1)▸hu) (p.here a v.2 hr)) hd
theorem Ae.i6 {α:Type}{β:Type}{gg:Cx→α→β→Prop}{vl vr:St→KE→KX→Prop}{tl tr:Sem Value}{vo:AV→AV→St→(α→St→Prop)→KX→Prop}{o:Value→Value→Sem β}
  (hl:Ae (VR G.prog G.w) G PE A fs cl L vl tl) (hr:Ae (VR G.prog G.w) G PE A fs cl L vr tr) (ho:∀c S s a1 v1 a2 v2,At G fs cl L c S s→(VR G.prog G.w) c a1 v1→(VR G.prog G.w) c a2 v2→Ap gg G PE A fs cl L c S s (vo a1 a2 S) (o v1 v2))
  (a:At G fs cl L c S s) {K:α→St→Prop} {X:KX} {Q:β→Shared→Prop} {E:Value→Shared→Prop} (v:vl S (λa1 S1=>vr S1 (λa2 S2=>vo a1 a2 S2 K X) X) X) (p:Ak gg G fs cl L c S s K Q) (x:Ai G PE fs cl L c S s X E):
  wpAny (model G.prog G.w) A tl (λb1 s1=>wpAny (model G.prog G.w) A tr (λb2 s2=>wpAny (model G.prog G.w) A (o b1 b2) Q E s2) E s1) E s:=
 hl c S s a _ X _ E v (λc1 a1 S1 b1 aL k1 e1 R1 a8 r1=>
  have p1:=p.ak a.aF R1 e1 a8 aL
  have x1:=x.ak a.aF R1 e1 a8 aL
  have A1:=a.ak R1 aL
  hr c1 S1 _ A1 _ X _ E k1 (λc2 a2 S2 b2 bG k2 e2 R2 cj r2=>
   ho c2 S2 _ a1 b1 a2 b2 (A1.ak R2 bG) (r1.aw e2.le) r2 K X Q E k2 (p1.ak R1 R2 e2 cj bG) (x1.ak R1 R2 e2 cj bG)) x1) x
def intOp (op:Operator)(x y:Int)(S:St)(K:KE):Prop:=match op with
 |.Add=>K (.fr (.int (x+y))) S
 |.Sub=>K (.fr (.int (x-y))) S
 |.Mult=>Sm x∧Sm y∧K (.fr (.int (x*y))) S
 |.FloorDiv=>y≠0∧Sm y∧K (.fr (.int (x.fdiv y))) S
 |.Mod=>y≠0∧K (.fr (.int (x.fmod y))) S
 |.Pow=>0≤y∧y≤1000∧Sm x∧K (.fr (.int (x ^ y.toNat))) S
 |_=>False
theorem u6 (op:Operator)(x y:Int)(t u:Tok)(a:At G fs cl L c S s):Ap (VR G.prog G.w) G PE A fs cl L c S s (λK _=>intOp op x y S K) (binaryOp op (.int x t) (.int y u)):=by
 intro K X Q E v p _
 cases op with
 |Add=>exact add_int (p.now a v (.fr (.int _ _)) _)
 |Sub=>exact sub_int (p.now a v (.fr (.int _ _)) _)
 |Mult=>obtain ⟨h1,h2,v⟩:=v; exact mul_int (p.now a v (.fr (.int _ _)) _) (h1.mul h2)
 |FloorDiv=>obtain ⟨h1,h2,v⟩:=v; exact floordiv_int h1 (p.now a v (.fr (.int _ _)) _) (.inl h2.div)
 |Mod=>obtain ⟨h1,v⟩:=v; exact mod_int' h1 (p.now a v (.fr (.int _ _)) _)
 |Pow=>
  obtain ⟨h1,h3,h2,v⟩:=v
  refine pow_int h1 ?_ (p.now a v (.fr (.int _ _)) _)
  have hb:Builtin.Int.intBits x≤401:=by
   unfold Builtin.Int.intBits
   have:=h2.log
   split <;> lia
  have:(Builtin.Int.intBits x:Int)*y≤401*1000:=Int.mul_le_mul (by lia) h3 h1 (by lia)
  have h27:(401*1000:Int)≤2 ^ 27:=by decide
  exact Int.le_trans this h27
 |_=>exact v.elim
noncomputable def qt (op:CmpOp)(x y:Int):Option Bool:=match op with
 |.Eq=>some (x==y)
 |.NotEq=>some (x !=y)
 |.Lt=>some (decide (x<y))
 |.LtE=>some (decide (x≤y))
 |.Gt=>some (decide (y<x))
 |.GtE=>some (decide (y≤x))
 |_=>none
end
open PySem.SeqAt (EqAt RcAt RcNeAt)
inductive AW (p:Program) (w:World) (c:Cx):Value→List FV→Prop
 |mk {a:Addr} {vs:List Value} {n:Nat} {xs:List FV}:c.h.get? a=some (listOf vs.toArray n)→Aj p w c xs vs→AW p w c (.ref a) xs
def dB (S:St)(a:AV)(P:List FV→Prop):Prop:=match a with
 |.fr x=>aaM x P
 |.own m k=>bW (S.get m) λr=>gc r.2 λxs=>k=r.1∧P xs
theorem AW.of {p:Program}{w:World}{c:Cx}{xs:List FV}{v:Value}(h:FR p w c (.fl xs) v):AW p w c v xs:=h.el (P:=λv=>AW p w c v xs) λ_ _ _ _ e q=>.mk e q
theorem bP {p:Program}{w:World}{h0:Heap}{fs:List Env}{cl:List (Str×Addr)}{c:Cx}{L:Addr}{S:St}{a:AV}{P:List FV→Prop}{v:Value}(h:dB S a P)(r:VR p w c a v)(R:Ad p w h0 fs cl c L S){G:Prop}(k:∀xs,AW p w c v xs→P xs→G):G:=by
 cases a with
 |fr x=>exact ji (P:=λx=>VR p w c (.fr x) v→G) h (λxs h r=>k xs (.of r.cU) h) r
 |own m j=>
  refine au h λq e h=>?_
  have o:OR p w c q.2 (c.ρ q.1):=R.d6 e
  refine cD (P:=λx=>OR p w c x (c.ρ q.1)→G) h (λxs h o=>?_) o
  obtain ⟨vs,n,e1,e2⟩:=o
  exact k xs (r.bc.1▸h.1▸.mk e1 e2) h.2
def u7 (a:AV)(S:St)(f:Nat→Nat→AO→Prop):Prop:=onO a λm k=>bW (S.get m) λr=>k=r.1∧f m k r.2
theorem gG {p:Program}{w:World}{h0:Heap}{fs:List Env}{cl:List (Str×Addr)}{c:Cx}{L:Addr}{S:St}{a:AV}{f:Nat→Nat→AO→Prop}{v:Value}(h:u7 a S f)(r:VR p w c a v)(R:Ad p w h0 fs cl c L S){Z:Value→Prop}
  (z:∀m k o,S.get m=some (k,o)→OR p w c o (c.ρ k)→f m k o→Z (.ref (c.ρ k))):Z v:=
 js (P:=λa=>VR p w c a v→Z v) h (λm k h r=>r.bc.1▸au h λq e h=>have e:S.get m=some (k,q.2):=h.1▸e; z m k q.2 e (R.d6 e) h.2) r
theorem sz {n:Nat}(h:n≤4000000):n≤sizeLine:=Nat.le_trans h (by rw [sizeLine_eq]; decide)
theorem bt {h:Heap}{a:Addr}{vs:List Value}{n:Nat}(e:h.get? a=some (listOf vs.toArray n)):h.IsList a vs.toArray:=⟨_,e,rfl,n,rfl⟩
def sc1:FV→Prop
 |.none|.int _|.str _=>True
 |_=>False
def nE:FV→Prop
 |.az xs=>∀x∈xs,sc1 x
 |x=>sc1 x
theorem ah9 {P:FV→Prop}{x:FV}(h:sc1 x)(n:P .none)(i:∀i,P (.int i))(s:∀s,P (.str s)):P x:=by
 cases x with
 |none=>exact n
 |int j=>exact i j
 |str j=>exact s j
 |_=>exact h.elim
theorem aha {P:FV→Prop}{x:FV}(h:nE x)(n:∀y,sc1 y→P y)(t:∀xs,(∀x∈xs,sc1 x)→P (.az xs)):P x:=by
 cases x with
 |az xs=>exact t xs h
 |_=>exact n _ h
section
variable {p:Program} {w:World} {c:Cx} {A:Around} {s:Shared} {v u:Value}
theorem all_true (k:Nat):((List.range k).all λ_=>true)=true:=List.all_eq_true.mpr λ_ _=>rfl
theorem w8 {x:FV}(hv:FR p w c x v)(hu:FR p w c x u)(h:sc1 x):EqAt A s v u true:=
 ah9 (P:=λx=>FR p w c x v→FR p w c x u→EqAt A s v u true) h
  (λhv hu=>hv.el (P:=λv=>EqAt A s v u true) (hu.el (P:=λu=>EqAt A s .none u true) (.same _)))
  (λi hv hu=>hv.el (P:=λv=>EqAt A s v u true) λt=>hu.el (P:=λu=>EqAt A s (.int i t) u true) λt'=>beq_self_eq_true i▸EqAt.int_int i t i t')
  (λi hv hu=>hv.el (P:=λv=>EqAt A s v u true) λt=>hu.el (P:=λu=>EqAt A s (.str i t) u true) λt'=>beq_self_eq_true i▸EqAt.str_str i t i t') hv hu
theorem Aj.same {xs:List FV}{vs ws:List Value}(r:Aj p w c xs vs)(r':Aj p w c xs ws){j:Nat}{h1:j<vs.toArray.size}{h2:j<ws.toArray.size}{P:Value→Value→Prop}(k:∀x v u,x∈xs→FR p w c x v→FR p w c x u→P v u):P vs.toArray[j] ws.toArray[j]:=by
 have hx:j<xs.length:=r.len▸h1
 obtain ⟨u1,e1,q1⟩:=r.get (List.getElem?_eq_getElem hx)
 obtain ⟨u2,e2,q2⟩:=r'.get (List.getElem?_eq_getElem hx)
 have e1:=(List.getElem?_eq_some_iff.mp e1).2
 have e2:=(List.getElem?_eq_some_iff.mp e2).2
 show P vs[j] ws[j]
 rw [e1,e2]
 exact k _ _ _ (List.getElem_mem hx) q1 q2
theorem ahb {x:FV}(hc:c.h=s.heap)(hu':A.units+1<cLine)(hv:FR p w c x v)(hu:FR p w c x u)(h:nE x):EqAt A s v u true:=
 aha (P:=λx=>FR p w c x v→FR p w c x u→EqAt A s v u true) h (λ_ h hv hu=>w8 hv hu h) (λxs h hv hu=>by
  refine hv.el (P:=λv=>EqAt A s v u true) λvs a n _ e r=>hu.el (P:=λu=>EqAt A s (.ref a) u true) λws a' n' _ e' r'=>?_
  by_cases q:a=a'
  ·exact q▸.same _
  ·have:=RcAt.tuples (A:=A) (e:=λ_=>true) (⟨_,hc▸e,rfl,n,rfl⟩:s.heap.IsTuple a vs.toArray) (⟨_,hc▸e',rfl,n',rfl⟩:s.heap.IsTuple a' ws.toArray) (Nat.lt_of_succ_lt hu') λj h1 h2=>r.same r' (P:=λv u=>EqAt A.in1 s v u true) λx v u hx q1 q2=>w8 q1 q2 (h x hx)
   rw [show vs.toArray.size=ws.toArray.size from r.len.symm.trans r'.len,beq_self_eq_true,all_true] at this
   exact .of_refs q this) hv hu
theorem w9 {xs:List FV}(hc:c.h=s.heap)(hu':A.units+2<cLine)(hv:AW p w c v xs)(hu:AW p w c u xs)(h:∀x∈xs,nE x):RcAt A s v u true:=by
 cases hv with
 |mk e r=>
  cases hu with
  |mk e' r'=>
   have:=RcAt.lists (A:=A) (e:=λ_=>true) (bt (hc▸e)) (bt (hc▸e')) (r.len.symm.trans r'.len) (Nat.lt_of_le_of_lt (Nat.le_add_right _ 2) hu') λj h1 h2=>r.same r' (P:=λv u=>EqAt A.in1 s v u true) λx v u hx q1 q2=>ahb hc hu' q1 q2 (h x hx)
   rwa [all_true] at this
theorem ahc {xs:List FV}(hc:c.h=s.heap)(hu':A.units<cLine)(hv:AW p w c v xs)(hu:FR p w c (.fl []) u):RcAt A s v u xs.isEmpty:=by
 refine hu.el (P:=λu=>RcAt A s v u xs.isEmpty) λws a' n' _ e' r'=>?_
 cases hv with
 |mk e r=>exact r'.el (P:=λws=>c.h.get? a'=some (listOf ws.toArray n')→RcAt A s _ (.ref a') xs.isEmpty) (λe'=>r.la (P:=λxs vs=>c.h.get? _=some (listOf vs.toArray _)→RcAt A s _ (.ref a') xs.isEmpty)
  (λe=>RcAt.lists (e:=λ_=>true) (bt (hc▸e)) (bt (hc▸e')) rfl hu' λj h1 h2=>absurd h1 (Nat.not_lt_zero _)) (λ_ _ _ e=>RcAt.lists_lengths (bt (hc▸e)) (bt (hc▸e')) rfl hu') e) e'
theorem w' {xs:List FV}(hc:c.h=s.heap)(hu':A.units<cLine)(hv:AW p w c v xs)(hu:FR p w c (.fl []) u):RcNeAt A s v u (!xs.isEmpty):=by
 refine hu.el (P:=λu=>RcNeAt A s v u (!xs.isEmpty)) λws a' n' _ e' r'=>?_
 cases hv with
 |mk e r=>exact r'.el (P:=λws=>c.h.get? a'=some (listOf ws.toArray n')→RcNeAt A s _ (.ref a') (!xs.isEmpty)) (λe'=>r.la (P:=λxs vs=>c.h.get? _=some (listOf vs.toArray _)→RcNeAt A s _ (.ref a') (!xs.isEmpty))
  (λe=>RcNeAt.lists (e:=λ_=>true) (bt (hc▸e)) (bt (hc▸e')) rfl hu' λj h1 h2=>absurd h1 (Nat.not_lt_zero _)) (λ_ _ _ e=>RcNeAt.lists_lengths (bt (hc▸e)) (bt (hc▸e')) rfl hu') e) e'
end
open PySem.SeqAt (EqAt RcAt RcNeAt)
noncomputable def tC:FV→Bool
 |.none=>true
 |.lit v=>v==.none
 |_=>false
def mh:AV→Bool
 |.fr x=>tC x
 |.own _ _=>false
theorem u8 {p:Program}{w:World}{c:Cx}{a:AV}{v:Value}(r:VR p w c a v):(v==.none)=mh a:=
 r.el (P:=λv=>(v==.none)=mh a) (by
  cases a with
  |own m k=>exact λ_=>rfl
  |fr x=>
   refine λv h=>h.el (P:=λv=>(v==.none)=tC x) ?_
   cases x <;> first|exact rfl|exact λ_=>rfl|exact λ_ _ _ _ _ _=>rfl|exact λ_ _ _ _ _ _ _ _=>rfl)
def vIs (a b:AV)(S:St)(P:Bool→Prop):Prop:=match b with
 |.own m' k'=>onO a λm k=>bW (S.get m) λr=>bW (S.get m') λr'=>jt r.2 λ_ _ _=>jt r'.2 λ_ _ _=>k=r.1∧k'=r'.1∧match Nat.beq m m' with
  |true=>P true
  |false=>r.1≠r'.1∧P false
 |.fr y=>match y with
  |.none=>P (mh a)
  |.rc k' _ _=>gw a λx=>ah7 x λk _ _=>k=k'∧P true
  |_=>False
noncomputable def mi:FV→Bool
 |.none|.str _=>true
 |_=>false
theorem tD {P:FV→Prop}{x:FV}(h:mi x=true)(n:P .none)(s:∀s,P (.str s)):P x:=by
 cases x with
 |none=>exact n
 |str y=>exact s y
 |_=>exact Bool.noConfusion h
noncomputable def ahd (x:Str):FV→Bool
 |.str y=>x==y
 |_=>false
noncomputable def ahe:FV→Bool
 |.none=>true
 |_=>false
def vIn (a b:AV)(P:Bool→Prop):Prop:=gw b λy=>wN y λxs=>cV (xs.all mi) <| gw a λx=>match x with
 |.str x=>P (xs.any (ahd x))
 |.none=>P (xs.any ahe)
 |_=>False
noncomputable def ahf:FV→Bool
 |.fl []=>true
 |_=>false
def iq:AV→Bool
 |.fr x=>ahf x
 |.own _ _=>false
theorem lj {b:AV}{P:AV→Prop}(h:iq b=true)(k:P (.fr (.fl []))):P b:=by
 cases b with
 |own=>exact Bool.noConfusion h
 |fr x=>cases x with
  |fl l=>cases l with
   |nil=>exact k
   |cons=>exact Bool.noConfusion h
  |_=>exact Bool.noConfusion h
def eqF (x y:FV)(P:Bool→Prop)(N:Prop):Prop:=match x with
 |.int i=>(match y with|.int j=>P (i==j)|_=>N)
 |.str i=>(match y with|.str j=>P (i==j)|.none=>P false|_=>N)
 |.bytes i=>(match y with|.bytes j=>P (i.toList==j.toList)|_=>N)
 |.none=>(match y with|.none=>P true|.str _=>P false|_=>N)
 |.bool i=>(match y with|.bool j=>P (i==j)|_=>N)
 |_=>N
def vEq (a b:AV)(S:St)(P:Bool→Prop):Prop:=
 let N:=match iq b with
  |true=>dB S a λxs=>P xs.isEmpty
  |false=>dB S b λys=>dB S a λxs=>(∀x∈xs,nE x)∧xs=ys∧P true
 match a with
 |.own _ _=>N
 |.fr x=>match b with
  |.own _ _=>N
  |.fr y=>eqF x y P N
def neF (x y:FV)(P:Bool→Prop)(N:Prop):Prop:=match x with
 |.int i=>(match y with|.int j=>P (i !=j)|_=>N)
 |.str i=>(match y with|.str j=>P (i !=j)|_=>N)
 |_=>N
def vNe (a b:AV)(S:St)(P:Bool→Prop):Prop:=
 let N:=cV (iq b) (dB S a λxs=>P (!xs.isEmpty))
 match a with
 |.own _ _=>N
 |.fr x=>match b with
  |.own _ _=>N
  |.fr y=>neF x y P N
def u' (op:CmpOp)(a b:AV)(S:St)(P:Bool→Prop):Prop:=match op with
 |.Is=>vIs a b S P
 |.IsNot=>vIs a b S λr=>P (!r)
 |.In=>vIn a b P
 |.NotIn=>vIn a b λr=>P (!r)
 |.Eq=>vEq a b S P
 |.NotEq=>vNe a b S P
 |op=>gw a λx=>gw b λy=>gA x λx=>gA y λy=>bW (qt op x y) P
section
variable {G:Ah} {PE:Addr×Nat} {A:Around} {fs:List Env} {cl:List (Str×Addr)} {L:Addr} {c:Cx} {S:St} {s:Shared} {env:Env} {sc:Scope} {n:Nat} {a b:AV} {v u:Value} {P:Bool→Prop}
theorem ll (h:vIs a b S P)(aj:At G fs cl L c S s)(ra:VR G.prog G.w c a v)(rb:VR G.prog G.w c b u){M:Model}{Q:Bool→Shared→Prop}{E:Value→Shared→Prop}(k:∀r,P r→Q r s):wpAny M A (isSame v u) Q E s:=by
 cases b with
 |own m' k'=>
  refine js (P:=λa=>VR G.prog G.w c a v→_) h (λm j h ra=>?_) ra
  refine au h λr e1 h=>au h λr' e2 h=>?_
  have o1:OR G.prog G.w c r.2 _:=aj.aF.d6 e1
  have o2:OR G.prog G.w c r'.2 _:=aj.aF.d6 e2
  refine fE (P:=λo=>OR G.prog G.w c o _→_) h (λ_ _ _ h o1=>?_) o1
  refine fE (P:=λo=>OR G.prog G.w c o _→_) h (λ_ _ _ h o2=>?_) o2
  rw [ra.bc.1,rb.bc.1,h.1,h.2.1]
  have h:=h.2.2
  cases q:Nat.beq m m' with
  |true=>
   rw [q] at h
   have e:r=r':=Option.some.inj (e1.symm.trans (Nat.eq_of_beq_eq_true q▸e2))
   exact e▸wpAny_isSame_ref_self (k _ h)
  |false=>
   rw [q] at h
   exact wpAny_isSame_ref_other (λq=>h.1 (aj.aF.inj _ _ _ _ _ _ (get_mem e1) (get_mem e2) q)) (aj.heap▸o1.1) (aj.heap▸o2.1) (λq=>by cases q) (k _ h.2)
 |fr y=>
  cases y with
  |none=>
   refine rb.dg (P:=λu=>wpAny M A (isSame v u) Q E s) ?_
   show wpAny M A (isSame v .none) Q E s
   rw [isSame_none,u8 ra]
   exact wpAny_pure (k _ h)
  |rc k' C' f'=>
   refine aZ (P:=λa=>VR G.prog G.w c a v→_) h (λx h ra=>?_) ra
   refine tz (P:=λx=>VR G.prog G.w c (.fr x) v→_) h (λj C f h ra=>?_) ra
   exact rb.dg (P:=λu=>wpAny M A (isSame v u) Q E s) λ_ _ _ _ _ _ _ _=>ra.dg (P:=λv=>wpAny M A (isSame v _) Q E s) λ_ _ _ _ _ _ _ _=>h.1▸wpAny_isSame_ref_self (k _ h.2)
  |_=>exact h.elim
noncomputable def fX (x:Str):Value→Bool
 |.str y _=>x==y
 |_=>false
noncomputable def fY:Value→Bool
 |.none=>true
 |_=>false
theorem xa {x:Str}{y:FV}(h:FR G.prog G.w c y v)(hs:mi y=true):fX x v=ahd x y∧∀t,EqAt A s v (.str x t) (fX x v):=
 tD (P:=λy=>FR G.prog G.w c y v→fX x v=ahd x y∧∀t,EqAt A s v (.str x t) (fX x v)) hs (λh=>h.el (P:=λv=>fX x v=false∧∀t,EqAt A s v (.str x t) (fX x v)) ⟨rfl,λt=>EqAt.none_str x t⟩)
  (λy h=>h.el (P:=λv=>fX x v=(x==y)∧∀t,EqAt A s v (.str x t) (fX x v)) λu=>⟨rfl,λt=>(show EqAt A s _ _ (x==y) from BEq.comm (a:=y) (b:=x)▸EqAt.str_str y u x t)⟩) h
theorem vd {y:FV}(h:FR G.prog G.w c y v)(hs:mi y=true):fY v=ahe y∧EqAt A s v .none (fY v):=
 tD (P:=λy=>FR G.prog G.w c y v→fY v=ahe y∧EqAt A s v .none (fY v)) hs (λh=>h.el (P:=λv=>fY v=true∧EqAt A s v .none (fY v)) ⟨rfl,.same _⟩)
  (λy h=>h.el (P:=λv=>fY v=false∧EqAt A s v .none (fY v)) λu=>⟨rfl,EqAt.str_none _ _⟩) h
theorem xb {W:Value→Prop}{f:Value→Bool}{g:FV→Bool}(k:∀y v,FR G.prog G.w c y v→mi y=true→f v=g y∧W v){xs:List FV}{vs:List Value}(r:Aj G.prog G.w c xs vs):xs.all mi=true→vs.any f=xs.any g∧∀v∈vs,W v:=
 r.la (P:=λxs vs=>xs.all mi=true→vs.any f=xs.any g∧∀v∈vs,W v) (λ_=>⟨rfl,λ_ h=>absurd h List.not_mem_nil⟩) λ{x v xs vs} h _ ih e=>
  have e:=(Bool.and_eq_true _ _▸(List.all_cons▸e:(mi x&&xs.all mi)=true):_∧_)
  have q:=k x v h e.1
  ⟨by rw [List.any_cons,List.any_cons,(ih e.2).1,q.1],λu hu=>(List.mem_cons.mp hu).elim (λz=>z▸q.2) ((ih e.2).2 u)⟩
def InK (A:Around)(s:Shared)(P:Bool→Prop)(Z:Value→Prop)(v:Value):Prop:=∀l items n (e:Value→Bool),s.heap.get? l=some {cls:=.type "tuple",data:=.seq items n}→(∀y,y∈items→EqAt A.in1 s y v (e y))→P (items.any e)→Z (.ref l)
theorem tE (h:vIn a b P)(aj:At G fs cl L c S s)(ra:VR G.prog G.w c a v)(rb:VR G.prog G.w c b u){Z:Value→Prop}
  (z:InK A s P Z v):Z u:=by
 refine aZ (P:=λb=>VR G.prog G.w c b u→Z u) h (λy h rb=>nK (P:=λy=>VR G.prog G.w c (.fr y) u→Z u) h (λxs h rb=>aG h λhs h=>?_) rb) rb
 refine aZ (P:=λa=>VR G.prog G.w c a v→Z u) h (λx h ra=>rb.dg (P:=Z) λvs l n _ e r=>?_) ra
 cases x with
 |str x=>
  refine ra.dg (P:=λv=>InK A s P Z v→Z (.ref l)) (λt z=>?_) z
  have q:=xb (W:=λv=>∀t,EqAt A.in1 s v (.str x t) (fX x v)) (λy v h=>xa h) r hs
  exact z l vs.toArray n (fX x) (aj.heap▸e) (λy hy=>q.2 y (List.mem_toArray.mp hy) t) (by rw [List.any_toArray,q.1]; exact h)
 |none=>
  refine ra.dg (P:=λv=>InK A s P Z v→Z (.ref l)) (λz=>?_) z
  have q:=xb (W:=λv=>EqAt A.in1 s v .none (fY v)) (λy v h=>vd h) r hs
  exact z l vs.toArray n fY (aj.heap▸e) (λy hy=>q.2 y (List.mem_toArray.mp hy)) (by rw [List.any_toArray,q.1]; exact h)
 |_=>exact h.elim
theorem ahg {x y:FV}{N:Prop}{Z:Value→Value→Prop}(h:eqF x y P N)(hx:FR G.prog G.w c x v)(hy:FR G.prog G.w c y u)(n:N→Z v u)(ii:∀i t j u,P (i==j)→Z (.int i t) (.int j u))(ss:∀i t j u,P (i==j)→Z (.str i t) (.str j u))
  (bb:∀i t j u,P (i.toList==j.toList)→Z (.bytes i t) (.bytes j u)) (nn:P true→Z .none .none) (oo:∀i j,P (i==j)→Z (.bool i) (.bool j)) (ns:∀i t,P false→Z .none (.str i t)) (sn:∀i t,P false→Z (.str i t) .none):Z v u:=by
 cases x with
 |int i=>cases y with
  |int j=>exact hx.el (P:=λv=>Z v u) λt=>hy.el (P:=λu=>Z _ u) λt'=>ii _ _ _ _ h
  |_=>exact n h
 |str i=>cases y with
  |str j=>exact hx.el (P:=λv=>Z v u) λt=>hy.el (P:=λu=>Z _ u) λt'=>ss _ _ _ _ h
  |none=>exact hx.el (P:=λv=>Z v u) λt=>hy.el (P:=λu=>Z _ u) (sn _ _ h)
  |_=>exact n h
 |bytes i=>cases y with
  |bytes j=>exact hx.el (P:=λv=>Z v u) λt=>hy.el (P:=λu=>Z _ u) λt'=>bb _ _ _ _ h
  |_=>exact n h
 |bool i=>cases y with
  |bool j=>exact hx.el (P:=λv=>Z v u) (hy.el (P:=λu=>Z _ u) (oo _ _ h))
  |_=>exact n h
 |none=>cases y with
  |str j=>exact hx.el (P:=λv=>Z v u) (hy.el (P:=λu=>Z _ u) λt'=>ns _ _ h)
  |none=>exact hx.el (P:=λv=>Z v u) (hy.el (P:=λu=>Z _ u) (nn h))
  |_=>exact n h
 |_=>exact n h
theorem aaP (h:vEq a b S P)(aj:At G fs cl L c S s)(hr:A.units+2<cLine)(ra:VR G.prog G.w c a v)(rb:VR G.prog G.w c b u){Z:Prop}(z:∀r,P r→RcAt A s v u r→Z):Z:=by
 have n:(match iq b with|true=>dB S a λxs=>P xs.isEmpty|false=>dB S b λys=>dB S a λxs=>(∀x∈xs,nE x)∧xs=ys∧P true)→Z:=by
  cases q:iq b with
  |true=>exact λh=>bP h ra aj.aF λxs lx h=>z _ h (ahc aj.heap (Nat.lt_of_le_of_lt (Nat.le_add_right _ 2) hr) lx (lj (P:=λb=>VR G.prog G.w c b u→FR G.prog G.w c (.fl []) u) q VR.cU rb))
  |false=>exact λh=>bP h rb aj.aF λys ly h=>bP h ra aj.aF λxs lx h=>z _ h.2.2 (w9 aj.heap hr lx (h.2.1▸ly) h.1)
 cases a with
 |own=>exact n h
 |fr x=>cases b with
  |own=>exact n h
  |fr y=>
   exact ahg (Z:=λv u=>(∀r,P r→RcAt A s v u r→Z)→Z) h ra.cU rb.cU (λh _=>n h) (λi t j u h z=>z _ h (RcAt.int_int _ _ _ _)) (λi t j u h z=>z _ h (RcAt.str_str _ _ _ _)) (λi t j u h z=>z _ h λprog w E Q q=>eq_bytes q)
    (λh z=>z _ h RcAt.none_none) (λi j h z=>z _ h (RcAt.bool_bool _ _)) (λi t h z=>z _ h (RcAt.none_str _ _)) (λi t h z=>z _ h (RcAt.str_none _ _)) z
theorem aaQ (h:vNe a b S P)(aj:At G fs cl L c S s)(hr:A.units+2<cLine)(ra:VR G.prog G.w c a v)(rb:VR G.prog G.w c b u){Q E:Value→Shared→Prop}(k:∀r,P r→Q (.bool r) s):wpAny (model G.prog G.w) A (compareOp .NotEq v u) Q E s:=by
 have n:cV (iq b) (dB S a λxs=>P (!xs.isEmpty))→wpAny (model G.prog G.w) A (compareOp .NotEq v u) Q E s:=λh=>aG h λq h=>bP h ra aj.aF λxs lx h=>
  w' aj.heap (Nat.lt_of_le_of_lt (Nat.le_add_right _ 2) hr) lx (lj (P:=λb=>VR G.prog G.w c b u→FR G.prog G.w c (.fl []) u) q VR.cU rb) G.prog G.w E Q (k _ h)
 cases a with
 |own=>exact n h
 |fr x=>cases b with
  |own=>exact n h
  |fr y=>cases x with
   |int i=>cases y with
    |int j=>exact ra.dg (P:=λv=>wpAny (model G.prog G.w) A (compareOp .NotEq v u) Q E s) λt=>rb.dg (P:=λu=>wpAny (model G.prog G.w) A (compareOp .NotEq _ u) Q E s) λt'=>ne_int (k _ h)
    |_=>exact n h
   |str i=>cases y with
    |str j=>exact ra.dg (P:=λv=>wpAny (model G.prog G.w) A (compareOp .NotEq v u) Q E s) λt=>rb.dg (P:=λu=>wpAny (model G.prog G.w) A (compareOp .NotEq _ u) Q E s) λt'=>ne_str (k _ h)
    |_=>exact n h
   |_=>exact n h
theorem aaR {op:CmpOp}{x y:Int}{r:Bool}(h:qt op x y=some r)(t u:Tok){Q E:Value→Shared→Prop}(k:Q (.bool r) s):wpAny (model G.prog G.w) A (compareOp op (.int x t) (.int y u)) Q E s:=by
 cases op with
 |Eq=>exact eq_int (Option.some.inj h▸k)
 |NotEq=>exact ne_int (Option.some.inj h▸k)
 |Lt=>exact lt_int (Option.some.inj h▸k)
 |LtE=>exact le_int (Option.some.inj h▸k)
 |Gt=>exact gt_int (Option.some.inj h▸k)
 |GtE=>exact ge_int (Option.some.inj h▸k)
 |_=>exact nS h
theorem tF (hr:A.units+2<cLine)(op:CmpOp)(h:u' op a b S P)(aj:At G fs cl L c S s)(ra:VR G.prog G.w c a v)(rb:VR G.prog G.w c b u){Q E:Value→Shared→Prop}(dJ:∀r,P r→Q (.bool r) s):
  wpAny (model G.prog G.w) A (compareOp op v u) Q E s:=by
 have ahh:∀op',(gw a λx=>gw b λy=>gA x λx=>gA y λy=>bW (qt op' x y) P)→wpAny (model G.prog G.w) A (compareOp op' v u) Q E s:=λop' h=>
  aZ (P:=λa=>VR G.prog G.w c a v→_) h (λx h ra=>aZ (P:=λb=>VR G.prog G.w c b u→_) h (λy h rb=>d4 (P:=λx=>VR G.prog G.w c (.fr x) v→_) h (λx h ra=>d4 (P:=λy=>VR G.prog G.w c (.fr y) u→_) h (λy h rb=>au h λr hc h=>
   ra.dg (P:=λv=>wpAny (model G.prog G.w) A (compareOp op' v u) Q E s) λt=>rb.dg (P:=λu=>wpAny (model G.prog G.w) A (compareOp op' _ u) Q E s) λt'=>aaR hc _ _ (dJ _ h)) rb) ra) rb) ra
 cases op with
 |Is=>exact wpAny_bind (ll h aj ra rb λr k=>wpAny_pure (dJ r k))
 |IsNot=>exact wpAny_bind (ll (P:=λr=>P (!r)) h aj ra rb λr k=>wpAny_pure (dJ _ k))
 |In=>exact tE (A:=A) h aj ra rb (Z:=λu=>wpAny (model G.prog G.w) A (compareOp .In v u) Q E s) λl items n e h1 h2 h3=>SeqAt.in_tupleAt e ⟨_,h1,rfl,n,rfl⟩ h2 (dJ _ h3)
 |NotIn=>exact tE (A:=A) (P:=λr=>P (!r)) h aj ra rb (Z:=λu=>wpAny (model G.prog G.w) A (compareOp .NotIn v u) Q E s) λl items n e h1 h2 h3=>SeqAt.notIn_tupleAt e ⟨_,h1,rfl,n,rfl⟩ h2 (dJ _ h3)
 |Eq=>exact aaP (A:=A) h aj hr ra rb λr h1 h2=>h2 G.prog G.w E Q (dJ r h1)
 |NotEq=>exact aaQ h aj hr ra rb dJ
 |_=>exact ahh _ h
theorem aaS (hr:A.units+2<cLine)(op:CmpOp)(aj:At G fs cl L c S s)(ra:VR G.prog G.w c a v)(rb:VR G.prog G.w c b u):
  Ap (VR G.prog G.w) G PE A fs cl L c S s (λK _=>u' op a b S λr=>K (.fr (.bool r)) S) (compareOp op v u):=
 λ_ _ _ _ h p _=>tF hr op h aj ra rb λr k=>p.here aj k (.fr (.bool r))
end
def jv (a:AV)(S:St)(K:FV→St→Prop):Prop:=match a with
 |.fr x=>K x S
 |.own m k=>bW (S.get m) λr=>match r.2 with
  |.list xs=>k=r.1∧K (.fl xs) (S.kH m)
  |.dict fs=>k=r.1∧K (.ds fs) (S.kH m)
  |.inst C dn di=>k=r.1∧bW ((S.kH m).get dn) λq=>aaO q.2 λl=>di=q.1∧bW (nI l) λff=>K (.rc k C ff) ((S.kH m).kH dn)
  |_=>False
def lm:List AV→St→(List FV→St→Prop)→Prop
 | [],S,K=>K [] S
 |a::r,S,K=>jv a S λx S1=>lm r S1 λxs S2=>K (x::xs) S2
theorem jj {S:St}{m:Nat}:(S.kH m).ai=S.ai∧(S.kH m).loc=S.loc∧(S.kH m).aa=S.aa:=by
 unfold St.kH
 cases eY m S.am <;> exact ⟨rfl,rfl,rfl⟩
section
variable {p:Program} {w:World} {h0:Heap} {fs:List Env} {cl:List (Str×Addr)} {c:Cx} {L:Addr} {S:St} {Z:Prop}
theorem cN {a:AV}{v:Value}{K:FV→St→Prop}(h:jv a S K)(r:VR p w c a v)(R:Ad p w h0 fs cl c L S)
  (z:∀c' x S',K x S'→FR p w c' x v→Ad p w h0 fs cl c' L S'→Am fs c S L c' S'→c'.h=c.h→S'.ai=S.ai→Z):Z:=by
 cases a with
 |fr x=>exact z c _ S h r.cU R (.refl ..) rfl rfl
 |own m k=>
  refine au h λq e h=>?_
  obtain ⟨j,o⟩:=q
  have ev:=r.bc.1
  cases o with
  |list xs=>exact R.arI e λc' q R' E' hh=>z c' _ _ h.2 (ev▸h.1▸q) R' E' hh jj.1
  |dict xs=>exact R.arJ e λc' q R' E' hh=>z c' _ _ h.2 (ev▸h.1▸q) R' E' hh jj.1
  |inst C dn di=>
   refine au h.2 λq e2 h2=>?_
   obtain ⟨i,o⟩:=q
   refine ma (P:=λo=>(S.kH m).get dn=some (i,o)→Z) h2 (λl h2 e2=>au h2.2 λff hf h3=>?_) e2
   exact R.arK (k:=k) (di:=di) ((show j=k from h.1.symm)▸e) ((show i=di from h2.1.symm)▸e2) hf λc' q R' E' hh=>z c' _ _ h3 (ev▸q) R' E' hh (jj.1.trans jj.1)
  |_=>exact h.elim
def C4 (p:Program)(w:World)(h0:Heap)(fs:List Env)(cl:List (Str×Addr))(c:Cx)(L:Addr)(S:St)(K:List FV→St→Prop)(Z:Prop)(vs:List Value):Prop:=
 ∀c' xs S',K xs S'→Aj p w c' xs vs→Ad p w h0 fs cl c' L S'→Am fs c S L c' S'→c'.h=c.h→S'.ai=S.ai→Z
theorem lp {as:List AV}:∀{vs:List Value} {c:Cx} {S:St} {K:List FV→St→Prop},lm as S K→Al p w c as vs→Ad p w h0 fs cl c L S→C4 p w h0 fs cl c L S K Z vs→Z:=by
 induction as with
 |nil=>exact λ{vs c S K} h r R z=>z c [] S h (r.el (P:=λvs=>Aj p w c [] vs) .nil) R (.refl ..) rfl rfl
 |cons a as ih=>
  intro vs c S K h r R z
  refine r.el (P:=λvs=>C4 p w h0 fs cl c L S K Z vs→Z) (λv vs r rs z=>?_) z
  exact cN h r R λc1 x S1 h1 r1 R1 E1 e1 g1=>ih h1 (rs.aw E1.le) R1 λc2 xs S2 h2 r2 R2 E2 e2 g2=>
   z c2 (x::xs) S2 h2 (.cons (r1.aw E2.le) r2) R2 (E1.trans R.kn R1.kn E2) (e2.trans e1) (g2.trans g1)
end
section
variable {G:Ah} {PE:Addr×Nat} {A:Around} {fs:List Env} {cl:List (Str×Addr)} {L:Addr} {c:Cx} {S:St} {s:Shared} {env:Env} {sc:Scope} {n:Nat}
theorem Ak.same {α β:Type}{gg:Cx→α→β→Prop}{K:α→St→Prop}{Q:β→Shared→Prop}(p:Ak gg G fs cl L c S s K Q)(a:At G fs cl L c S s){c1:Cx}{S1:St}(R1:Ad G.prog G.w G.h0 fs cl c1 L S1)(e:Am fs c S L c1 S1)(hc:S1.ai=S.ai)(hh:c1.h=c.h):
  Ak gg G fs cl L c1 S1 s K Q:=by
 have:=p.ak a.aF R1 e hc s.toks
 rw [hh,a.heap] at this
 exact this
theorem Ai.same {X:KX}{E:Value→Shared→Prop}(p:Ai G PE fs cl L c S s X E)(a:At G fs cl L c S s){c1:Cx}{S1:St}(R1:Ad G.prog G.w G.h0 fs cl c1 L S1)(e:Am fs c S L c1 S1)(hc:S1.ai=S.ai)(hh:c1.h=c.h):
  Ai G PE fs cl L c1 S1 s X E:=by
 have:=p.ak a.aF R1 e hc s.toks
 rw [hh,a.heap] at this
 exact this
theorem At.same (a:At G fs cl L c S s){c1:Cx}{S1:St}(R1:Ad G.prog G.w G.h0 fs cl c1 L S1)(hh:c1.h=c.h):At G fs cl L c1 S1 s:=⟨R1,hh.trans a.heap⟩
theorem bl (h:Heap)(o:Obj):h.objs.size<(h.push o).objs.size:=Heap.size_push h o▸Nat.lt_succ_self _
theorem Ad.jk (R:Ad G.prog G.w G.h0 fs cl c L S)(o:Obj):Ad G.prog G.w G.h0 fs cl {c with h:=c.h.push o,fz:=λa=>c.fz a∨a=c.h.objs.size} L S∧Am fs c S L {c with h:=c.h.push o,fz:=λa=>c.fz a∨a=c.h.objs.size} S:=
 R.ice (h':=c.h.push o) (F:=λa=>a=c.h.objs.size) (Nat.le_of_lt (bl _ _)) (λb q e=>Heap.get?_push_of_some _ e) λa e=>⟨Nat.le_of_eq e.symm,e.symm▸bl _ _⟩
theorem xc (nm:Nat){xs:List FV}{vs:List Value}(aj:At G fs cl L c S s)(r:Aj G.prog G.w c xs vs){K:AV→St→Prop}{Q:Value→Shared→Prop}(h:K (.own nm S.aa) (S.i4 nm (.list xs)))(p:Ak (VR G.prog G.w) G fs cl L c S s K Q)(tk:Nat):
  Q (.ref s.heap.objs.size) {s with heap:=s.heap.push {cls:=.type "list",data:=.seq vs.toArray},toks:=tk}:=by
 obtain ⟨R,hh⟩:=aj
 obtain ⟨c',R',E',e1,e2,e3⟩:=R.i4 (m:=nm) (o:=.list xs) (h':=c.h.push {cls:=.type "list",data:=.seq vs.toArray}) (a:=c.h.objs.size) (Nat.le_of_lt (bl _ _)) (λb o e=>Heap.get?_push_of_some _ e) (Nat.le_refl _) (bl _ _)
  λc' l q1 q2 q3 q4=>⟨vs,0,q1▸Heap.get?_push_size _ rfl,r.aw l⟩
 have:=p c' _ _ (.ref (c'.ρ S.aa)) tk h E' R' (cM R.eW R.dO).2.ai (.own nm S.aa (e3▸Nat.lt_succ_self _))
 rw [e1,e2,hh] at this
 exact this
theorem ahi {xs:List FV}{vs:List Value}(aj:At G fs cl L c S s)(r:Aj G.prog G.w c xs vs){K:AV→St→Prop}{Q:Value→Shared→Prop}(h:K (.fr (.fl xs)) S)(p:Ak (VR G.prog G.w) G fs cl L c S s K Q)(tk:Nat):
  Q (.ref s.heap.objs.size) {s with heap:=s.heap.push {cls:=.type "list",data:=.seq vs.toArray},toks:=tk}:=by
 obtain ⟨R,hh⟩:=aj
 obtain ⟨R',E'⟩:=R.jk {cls:=.type "list",data:=.seq vs.toArray}
 have:=p _ _ _ (.ref c.h.objs.size) tk h E' R' rfl (.fr (.fl (.inr rfl) (Heap.get?_push_size _ rfl) (r.aw E'.le)))
 rw [←hh]
 exact this
def jw (nm:Nat)(xs:List FV)(S:St)(K:KE):Prop:=match nm with
 |0=>K (.fr (.fl xs)) S
 |m+1=>K (.own (m+1) S.aa) (S.i4 (m+1) (.list xs))
theorem mj (nm:Nat){xs:List FV}{vs:List Value}(aj:At G fs cl L c S s)(r:Aj G.prog G.w c xs vs){K:AV→St→Prop}{Q:Value→Shared→Prop}(h:jw nm xs S K)(p:Ak (VR G.prog G.w) G fs cl L c S s K Q)(tk:Nat):
  Q (.ref s.heap.objs.size) {s with heap:=s.heap.push {cls:=.type "list",data:=.seq vs.toArray},toks:=tk}:=by
 cases nm with
 |zero=>exact ahi aj r h p tk
 |succ m=>exact xc (m+1) aj r h p tk
theorem ml {xs:List FV}{vs:List Value}(aj:At G fs cl L c S s)(r:Aj G.prog G.w c xs vs){K:AV→St→Prop}{Q:Value→Shared→Prop}(h:K (.fr (.az xs)) S)(p:Ak (VR G.prog G.w) G fs cl L c S s K Q)(tk:Nat):
  Q (.ref s.heap.objs.size) {s with heap:=s.heap.push {cls:=.type "tuple",data:=.seq vs.toArray},toks:=tk}:=by
 obtain ⟨R,hh⟩:=aj
 obtain ⟨R',E'⟩:=R.jk {cls:=.type "tuple",data:=.seq vs.toArray}
 have:=p _ _ _ (.ref c.h.objs.size) tk h E' R' rfl (.fr (.az (.inr rfl) (Heap.get?_push_size _ rfl) (r.aw E'.le)))
 rw [←hh]
 exact this
def dC (vE:Expr→St→KE→KX→Prop):List Expr→St→(List AV→St→Prop)→KX→Prop
 | [],S,K,_=>K [] S
 |e::r,S,K,X=>vE e S (λa S1=>dC vE r S1 (λas S2=>K (a::as) S2) X) X
noncomputable def bn:Expr→Bool
 |.Starred _ _=>false
 |_=>true
theorem dU {e:Expr}{r:List Expr}(h:bn e=true):starEach (e::r) env=(false,eval e env)::starEach r env:=by
 cases e with
 |Starred=>exact Bool.noConfusion h
 |_=>rfl
theorem eZ {vE:Expr→St→KE→KX→Prop}{pos:Pos}(es:List Expr):(∀e,e∈es→bn e=true∧Ae (VR G.prog G.w) G PE A fs cl L (vE e) (eval e env))→
  Ae (λc as vs=>Al G.prog G.w c as vs∧vs.length=es.length) G PE A fs cl L (dC vE es) (spliced (backTo pos (starEach es env))):=by
 induction es with
 |nil=>exact λ_ c S s a K X Q E v p x=>spliced_nil (p.here a v ⟨.nil,rfl⟩)
 |cons e r ih=>
  intro h c S s a K X Q E v p x
  rw [dU (h e (.head _)).1]
  exact Calls.spliced_cons ((h e (.head _)).2 c S s a _ X _ E v (λc1 a1 S1 b1 aL k1 e1 R1 a8 r1=>ih (λe' h'=>h e' (.tail _ h')) c1 S1 _ (a.ak R1 aL) _ X _ E k1 (λc2 a2 S2 b2 bG k2 e2 R2 cj r2=>
   p.ak a.aF R1 e1 a8 aL c2 (a1::a2) S2 (b1::b2) bG k2 e2 R2 cj ⟨.cons (r1.aw e2.le) r2.1,congrArg Nat.succ r2.2⟩) (x.ak a.aF R1 e1 a8 aL)) x)
def xd (es:List Expr):Bool:=Nat.ble es.length 1000&&es.all bn
theorem ir {es:List Expr}(h:xd es=true):es.length≤sizeLine∧∀e,e∈es→bn e=true:=
 have h:=Bool.and_eq_true_iff.mp h
 ⟨Nat.le_trans (Nat.le_of_ble_eq_true h.1) (by rw [sizeLine_eq]; decide),List.all_eq_true.mp h.2⟩
def ahj (vE:Expr→St→KE→KX→Prop)(es:List Expr)(S:St)(K:List FV→St→Prop)(X:KX):Prop:=cV (xd es) (dC vE es S (λas S1=>lm as S1 K) X)
theorem tG {vE:Expr→St→KE→KX→Prop}{pos:Pos}(es:List Expr)(h:∀e,e∈es→Ae (VR G.prog G.w) G PE A fs cl L (vE e) (eval e env)):
  Ae (λc as vs=>Aj G.prog G.w c as vs∧vs.length≤sizeLine) G PE A fs cl L (ahj vE es) (spliced (backTo pos (starEach es env))):=λc S s a K X Q E v p x=>aG v λhb v=>
 eZ es (λe he=>⟨(ir hb).2 e he,h e he⟩) c S s a _ X _ E v (λc1 as S1 vs aL k1 e1 R1 a8 r1=>lp k1 r1.1 R1 λc2 xs S2 k2 r2 R2 E2 h2 g2=>
  h2▸p.ak a.aF R1 e1 a8 aL c2 xs S2 vs aL k2 E2 R2 g2 ⟨r2,r1.2▸(ir hb).1⟩) x
def adJ (vE:Expr→St→KE→KX→Prop)(nm:Nat)(es:List Expr)(S:St)(K:KE)(X:KX):Prop:=ahj vE es S (λxs S2=>jw nm xs S2 K) X
def alK (vE:Expr→St→KE→KX→Prop)(es:List Expr)(S:St)(K:KE)(X:KX):Prop:=ahj vE es S (λxs S2=>K (.fr (.az xs)) S2) X
theorem xe {vE:Expr→St→KE→KX→Prop}{nm:Nat}{pos:Pos}(es:List Expr)(h:∀e,e∈es→Ae (VR G.prog G.w) G PE A fs cl L (vE e) (eval e env)):Ae (VR G.prog G.w) G PE A fs cl L (adJ vE nm es) (eval (.List es pos) env):=λc S s a K X Q E v p x=>
 wpAny_List_spliced (tG es h c S s a _ X _ E v (λc1 xs S1 vs aL k1 e1 R1 a8 r1=>⟨r1.2,mj nm (a.ak R1 aL) r1.1 k1 (p.ak a.aF R1 e1 a8 aL) aL⟩) x)
theorem aaT {vE:Expr→St→KE→KX→Prop}{x1}{pos:Pos}(es:List Expr)(h:∀e,e∈es→Ae (VR G.prog G.w) G PE A fs cl L (vE e) (eval e env)):Ae (VR G.prog G.w) G PE A fs cl L (alK vE es) (eval (.Tuple es x1 pos) env):=λc S s a K X Q E v p x=>
 wpAny_Tuple_spliced (tG es h c S s a _ X _ E v (λc1 xs S1 vs aL k1 e1 R1 a8 r1=>⟨r1.2,ml (a.ak R1 aL) r1.1 k1 (p.ak a.aF R1 e1 a8 aL) aL⟩) x)
end
noncomputable def itemAt {α:Type}(xs:List α):Int→Option α
 |.ofNat n=>xs[n]?
 |.negSucc n=>match Nat.ble (n+1) xs.length with
  |true=>xs[xs.length-(n+1)]?
  |false=>none
theorem iu {α:Type}{xs:List α}{k:Int}{x:α}(h:itemAt xs k=some x){Z:Prop}(z:∀j:Nat,(∀{β:Type} (ys:List β),ys.length=xs.length→itemAt ys k=ys[j]?)→xs[j]?=some x→(0≤k∧j=k.toNat)∨(k<0 ∧ -(xs.length:Int)≤k∧j=(k+xs.length).toNat)→Z):Z:=by
 cases k with
 |ofNat n=>exact z n (λ_ _=>rfl) h (.inl ⟨Int.natCast_nonneg n,rfl⟩)
 |negSucc n=>
  have h:(match Nat.ble (n+1) xs.length with|true=>xs[xs.length-(n+1)]? |false=>none)=some x:=h
  cases hb:Nat.ble (n+1) xs.length with
  |true=>
   rw [hb] at h
   refine z (xs.length-(n+1)) (λys e=>?_) h (.inr ⟨Int.negSucc_lt_zero n,?_,?_⟩)
   ·show (match Nat.ble (n+1) ys.length with|true=>ys[ys.length-(n+1)]? |false=>none)=_
    rw [e,hb]
   ·exact Int.neg_le_neg (Int.ofNat_le.mpr (Nat.le_of_ble_eq_true hb))
   ·have:=Nat.le_of_ble_eq_true hb
    lia
  |false=>rw [hb] at h; exact nS h
def fits (k:Int):Prop := -(2 ^ 62)≤k∧k≤2 ^ 62
theorem jx {k:Int}{n:Nat}(h0:0≤k)(h1:k.toNat<n):seqIndex? k n=some k.toNat:=by
 unfold seqIndex?
 have h:¬k<0:=by lia
 have h2:k<n:=by lia
 simp [h,h0,h2]
theorem qu {k:Int}{n:Nat}(h0:k<0)(h1 : -(n:Int)≤k):seqIndex? k n=some (k+n).toNat:=by
 unfold seqIndex?
 have h2:0≤k+n:=by lia
 have h3:k+n<n:=by lia
 simp [h0,h2,h3]
noncomputable def smI:Int→Bool
 |.ofNat n=>Nat.ble n 1000000
 |.negSucc n=>Nat.ble n 1000000
def aaU (k:Int)(P:Prop):Prop:=match smI k with
 |true=>P
 |false=>fits k∧P
theorem nR {k:Int}{P:Prop}(h:aaU k P):fits k∧P:=by
 cases hb:smI k with
 |true=>
  refine ⟨?_,(show (match smI k with|true=>P|false=>fits k∧P)=P by rw [hb])▸h⟩
  cases k with
  |ofNat n=>exact ⟨by lia,Int.le_trans (Int.ofNat_le.mpr (Nat.le_of_ble_eq_true hb)) (by decide)⟩
  |negSucc n=>exact ⟨Int.le_trans (by decide) (Int.neg_le_neg (Int.ofNat_le.mpr (Nat.succ_le_succ (Nat.le_of_ble_eq_true hb)))),by lia⟩
 |false=>exact (show (match smI k with|true=>P|false=>fits k∧P)=(fits k∧P) by rw [hb])▸h
theorem gH {k:Int}{P:Prop}(h:fits k∧P):aaU k P:=by
 unfold aaU
 cases smI k with
 |true=>exact h.2
 |false=>exact h
def cZ (o i:AV)(S:St)(K:KE):Prop:=gw i λy=>match y with
 |.int k=>aaU k <| match o with
  |.fr x=>match x with
   |.az xs=>bW (itemAt xs k) λx=>K (.fr x) S
   |.fl xs=>bW (itemAt xs k) λx=>K (.fr x) S
   |_=>False
  |.own m j=>bW (S.get m) λr=>match r.2 with
   |.list xs=>j=r.1∧bW (itemAt xs k) λx=>K (.fr x) S
   |.a9 ks=>j=r.1∧bW (itemAt ks k) λx=>K (.own x.1 x.2) S
   |_=>False
 |.str w=>match o with
  |.fr x=>ah6 x λfs=>bW (fs.lookup w) λx=>K (.fr x) S
  |.own m j=>bW (S.get m) λr=>wP r.2 λfs=>j=r.1∧bW (fs.lookup w) λx=>K (.fr x) S
 |_=>False
noncomputable def d7:Expr→Bool
 |.Slice _ _ _ _=>false
 |_=>true
theorem gI {ba:Expr}(h:d7 ba=true)(o i:Value):subscripted ba false o i=operate [o,i] (getItem o i):=by
 cases ba with
 |Slice=>exact Bool.noConfusion h
 |_=>rfl
theorem gJ {prog:Program}{w:World}{A:Around}{E:Value→Shared→Prop}{s:Shared}{value ba:Expr}{o i:Value}{T id:String}{Q:Value→Shared→Prop}(hT:s.TypeIs o T)
  (hl:typeLookup (.type T) "__getitem__" = pure (some (.builtin id))) (h:wpAny (model prog w) A (getItem o i) Q E s) (hn:d7 ba=true):wpAny (model prog w) A (subscriptTail value ba o i) Q E s:=by
 unfold subscriptTail
 refine wpAny_bind ?_
 rw [getitemInPython_of_ne hT.not_modules]
 refine wpAny_bind (wpAny_specialOf hT hl ?_)
 have dJ:wpAny (model prog w) A (subscripted ba false o i) (λr s₃=>wpAny (model prog w) A (letTemporaryGo value o r >>= λ_=>pure r) Q E s₃) E s:=by
  rw [gI hn]
  exact wpAny_operating (wpAny_mono h (λr s₃ h₃=>wpAny_bind (wpAny_letTemporaryGo (wpAny_pure h₃))) λ_ _ x=>x)
 first
  |exact wpAny_pure (wpAny_bind dJ)
  |exact wpAny_bind (wpAny_pure (wpAny_bind dJ))
  |exact wpAny_bind dJ
section
variable {G:Ah} {PE:Addr×Nat} {A:Around} {fs:List Env} {cl:List (Str×Addr)} {L:Addr} {c:Cx} {S:St} {s:Shared} {env:Env} {sc:Scope} {n:Nat}
theorem lq {l:Addr}{vs:List Value}{n:Nat}{k:Int}{t:Tok}{x:Value}{Q E:Value→Shared→Prop}(e:s.heap.get? l=some (listOf vs.toArray n))(hf:fits k)(hx:itemAt vs k=some x)(h:Q x s):
  wpAny (model G.prog G.w) A (getItem (.ref l) (.int k t)) Q E s:=
 iu hx λj _ h1 hj=>hj.elim (λhj=>wpAny_getItem_list (bt e) hj.1 (by have:=hf.2; lia) (by rw [List.getElem?_toArray]; exact hj.2▸h1) h)
  λhj=>wpAny_getItem_list_neg (bt e) hj.1 hj.2.1 (by have:=hf.1; lia) (by rw [List.getElem?_toArray]; exact hj.2.2▸h1) h
theorem jy {α β:Type}{xs:List α}{ys:List β}(hl:xs.length=ys.length){k:Int}{x:α}(h:itemAt xs k=some x){Z:Prop}(z:∀(y:β) (j:Nat),itemAt ys k=some y→xs[j]?=some x→ys[j]?=some y→Z):Z:=
 iu h λj h0 h1 _=>have e:=List.getElem?_eq_getElem (l:=ys) (i:=j) (hl▸(List.getElem?_eq_some_iff.mp h1).1); z _ j ((h0 ys hl.symm).trans e) h1 e
theorem tH {xs:List FV}{vs:List Value}(r:Aj G.prog G.w c xs vs){k:Int}{x:FV}(h:itemAt xs k=some x){Z:Prop}(z:∀v,itemAt vs k=some v→FR G.prog G.w c x v→Z):Z:=
 jy r.len h λy j h1 h2 h3=>let ⟨u,h4,h5⟩:=r.get h2; z y h1 (Option.some.inj (h4.symm.trans h3)▸h5)
theorem nT {K:Type}[DecidableEq K]{fs:List (K×FV)}:∀{vs:List Value},Aj G.prog G.w c (fs.map (·.2)) vs→∀{k:K} {x:FV},fs.lookup k=some x→∃v,valueAt ((fs.map (·.1)).zip vs) k=some v∧FR G.prog G.w c x v:=by
 induction fs with
 |nil=>exact λ_ _ _ e=>nS e
 |cons f fs ih=>
  intro vs h k x e
  refine h.el (P:=λvs=>∃v,valueAt ((f.1::fs.map (·.1)).zip vs) k=some v∧FR G.prog G.w c x v) λu us hu hr=>?_
  have e:(match k==f.1 with|true=>some f.2|false=>fs.lookup k)=some x:=e
  show ∃v,((match decide (f.1=k) with|true=>some (f.1,u)|false=>((fs.map λ(q:K×FV)=>q.1).zip us).find? λ(q:K×Value)=>q.1=k).map λ(q:K×Value)=>q.2)=some v∧FR G.prog G.w c x v
  by_cases q:f.1=k
  ·rw [q,beq_self_eq_true] at e
   rw [decide_eq_true q]
   exact ⟨u,rfl,Option.some.inj e▸hu⟩
  ·rw [beq_false_of_ne (Ne.symm q)] at e
   rw [decide_eq_false q]
   exact ih hr e
theorem xf {l:Addr}{vs:List Value}{n:Nat}{k:Int}{t:Tok}{x:Value}{Q E:Value→Shared→Prop}(e:s.heap.get? l=some {cls:=.type "tuple",data:=.seq vs.toArray n})(hf:fits k)(hx:itemAt vs k=some x)(h:Q x s):
  wpAny (model G.prog G.w) A (getItem (.ref l) (.int k t)) Q E s:=
 iu hx λj _ h1 hj=>getItem_tuple (j:=j) ⟨_,e,rfl,n,rfl⟩ (by have:=hf.1; lia) (by have:=hf.2; lia)
  (hj.elim (λhj=>hj.2▸jx hj.1 (hj.2▸(List.getElem?_eq_some_iff.mp h1).1)) λhj=>hj.2.2▸qu hj.1 hj.2.1) (by rw [List.getElem?_toArray]; exact h1) h
theorem xg {value ba:Expr}{o i:AV}{v u:Value}(aj:At G fs cl L c S s)(hn:d7 ba=true)(ro:VR G.prog G.w c o v)(ri:VR G.prog G.w c i u):Ap (VR G.prog G.w) G PE A fs cl L c S s (λK _=>cZ o i S K) (subscriptTail value ba v u):=by
 intro K X Q E h p _
 refine aZ (P:=λi=>VR G.prog G.w c i u→_) h (λy h ri=>?_) ri
 have lst:∀{a vs n xs k},s.heap.get? a=some (listOf vs.toArray n)→Aj G.prog G.w c xs vs→fits k→(bW (itemAt xs k) λx=>K (.fr x) S)→∀t,wpAny (model G.prog G.w) A (subscriptTail value ba (.ref a) (.int k t)) Q E s:=λe r hf h t=>
  au h λx hx h=>tH r hx λy h1 h2=>gJ (T := "list") ⟨_,e,rfl⟩ slot_list_getitem.lookup (lq e hf h1 (p.here aj h (.fr h2))) hn
 have dct:∀{a vs} {fl:List (Str×FV)} {w},c.h.DictOf (strKind G.prog G.w) a ((fl.map (·.1)).zip vs)→Aj G.prog G.w c (fl.map (·.2)) vs→(bW (fl.lookup w) λx=>K (.fr x) S)→∀t,wpAny (model G.prog G.w) A (subscriptTail value ba (.ref a) (.str w t)) Q E s:=λd r h t=>
  au h λx hx h=>(nT r hx).elim λy q=>q.elim λh1 h2=>have d:=aj.heap▸d; gJ (T := "dict") d.mapOf.typeIs slot_dict_getitem.lookup (wpAny_getItem_of (strKind_is _ _ _ _) d.mapOf h1 (p.now aj h (.fr h2) _)) hn
 cases y with
 |int k=>
  have hf:=(nR h).1
  have h:=(nR h).2
  refine ri.dg (P:=λu=>wpAny (model G.prog G.w) A (subscriptTail value ba v u) Q E s) λt=>?_
  cases o with
  |fr x=>cases x with
   |az xs=>exact au h λx hx h=>ro.dg (P:=λv=>wpAny (model G.prog G.w) A (subscriptTail value ba v (.int k t)) Q E s) λvs a m _ e r=>tH r hx λy h1 h2=>
     have e:=aj.heap▸e; gJ (T := "tuple") ⟨_,e,rfl⟩ slot_tuple_getitem.lookup (xf e hf h1 (p.here aj h (.fr h2))) hn
   |fl xs=>exact ro.dg (P:=λv=>wpAny (model G.prog G.w) A (subscriptTail value ba v (.int k t)) Q E s) λvs a m _ e r=>lst (aj.heap▸e) r hf h t
   |_=>exact h.elim
  |own m j=>
   rw [ro.bc.1]
   refine au h λq e0 h=>?_
   obtain ⟨j',o⟩:=q
   have g:=aj.aF.d6 e0
   cases o with
   |list xs=>obtain ⟨vs,q,e,r⟩:=g; exact h.1▸lst (aj.heap▸e) r hf h.2 t
   |a9 ks=>
    obtain ⟨q,e,r⟩:=g
    have e:=aj.heap▸e
    refine au h.2 λx hx h2=>jy (ys:=ks.map λk=>Value.ref (c.ρ k.2)) (List.length_map _).symm hx λy j0 h1 h4 h3=>h.1▸gJ (T := "list") ⟨_,e,rfl⟩ slot_list_getitem.lookup (lq e hf h1 (p.here aj h2 ?_)) hn
    rw [List.getElem?_map,h4] at h3
    exact Option.some.inj h3▸.own x.1 x.2 (r x (List.mem_of_getElem? h4))
   |_=>exact h.elim
 |str wd=>
  refine ri.dg (P:=λu=>wpAny (model G.prog G.w) A (subscriptTail value ba v u) Q E s) λt=>?_
  cases o with
  |fr x=>
   exact ty (P:=λx=>VR G.prog G.w c (.fr x) v→_) h (λfl h ro=>ro.dg (P:=λv=>wpAny (model G.prog G.w) A (subscriptTail value ba v (.str wd t)) Q E s) λvs a _ _ d r=>dct d r h t) ro
  |own m j=>
   rw [ro.bc.1]
   refine au h λq e0 h=>?_
   obtain ⟨j',o⟩:=q
   refine uV (P:=λo=>OR G.prog G.w c o (c.ρ j')→_) h (λfl h g=>?_) (aj.aF.d6 e0)
   obtain ⟨vs,d,_,r⟩:=g
   exact (show j'=j from h.1.symm)▸dct d r h.2 t
 |_=>exact h.elim
end
def lr (op:Operator)(P:Prop):Prop:=match op with
 |.Add=>P
 |_=>False
theorem gK {op:Operator}{P:Prop}{Z:Operator→Prop}(h:lr op P)(k:P→Z .Add):Z op:=by
 cases op with
 |Add=>exact k h
 |_=>exact h.elim
def aaV (nm:Nat)(op:Operator)(a b:AV)(S:St)(K:KE):Prop:=
 let N:=lr op (dB S a λxs=>dB S b λys=>xs.length+ys.length≤1000000∧jw nm (xs++ys) S K)
 match a with
 |.own _ _=>N
 |.fr x=>match b with
  |.own _ _=>N
  |.fr y=>match x with
   |.int i=>(match y with|.int j=>intOp op i j S K|_=>N)
   |.az xs=>(match y with|.az ys=>lr op (xs.length+ys.length≤1000000∧K (.fr (.az (xs++ys))) S)|_=>N)
   |_=>N
def vUn (op:PySem.UnaryOp)(a:AV)(S:St)(K:KE):Prop:=match op with
 |.USub=>gw a λx=>gA x λi=>K (.fr (.int (-i))) S
 |_=>False
def mq (a:AV)(S:St)(K:Bool→St→Prop):Prop:=gw a λx=>adG x λb=>K b S
section
variable {G:Ah} {PE:Addr×Nat} {A:Around} {fs:List Env} {cl:List (Str×Addr)} {L:Addr} {c:Cx} {S:St} {s:Shared} {env:Env} {sc:Scope} {n:Nat} {a b:AV} {v u:Value}
theorem xh {c:Cx}{xs:List FV}{vs:List Value}(r:Aj G.prog G.w c xs vs)(h:vs.toArray.isEmpty=true):xs=[]:=by
 cases r with
 |nil=>rfl
 |cons=>exact nomatch h
theorem aaW {xs ys:List FV}{K:KE}{Q E:Value→Shared→Prop}(aj:At G fs cl L c S s)(ra:VR G.prog G.w c (.fr (.az xs)) v)(rb:VR G.prog G.w c (.fr (.az ys)) u)(hl:xs.length+ys.length≤1000000)(h:K (.fr (.az (xs++ys))) S)(p:Ak (VR G.prog G.w) G fs cl L c S s K Q):wpAny (model G.prog G.w) A (binaryOp .Add v u) Q E s:=
 ra.dg (P:=λv=>wpAny (model G.prog G.w) A (binaryOp .Add v u) Q E s) λvs a m f e r=>rb.dg (P:=λu=>wpAny (model G.prog G.w) A (binaryOp .Add _ u) Q E s) λws b m' f' e' r'=>by
  have e1:=aj.heap▸e
  have e1':=aj.heap▸e'
  by_cases q:vs.toArray.isEmpty=true
  ·refine concat_meets ⟨_,e1,rfl⟩ ⟨_,e1',rfl⟩ noFill_tuple_add seq_tuple_add PySem.F.slot_tuple_add PySem.F.entry_tuple_add (PySem.F.args_tuple_add_2 _ _) (tuple_addW0 a b vs.toArray ws.toArray m m' none none #[] #[] q) ⟨e1,e1',?_⟩
   exact p.here aj h (xh r q▸.fr (.az f' e' r'))
  ·by_cases q':ws.toArray.isEmpty=true
   ·refine concat_meets ⟨_,e1,rfl⟩ ⟨_,e1',rfl⟩ noFill_tuple_add seq_tuple_add PySem.F.slot_tuple_add PySem.F.entry_tuple_add (PySem.F.args_tuple_add_2 _ _) (tuple_addW1 a b vs.toArray ws.toArray m m' none none #[] #[] q q') ⟨e1,e1',?_⟩
    exact p.here aj h (xh r' q'▸(List.append_nil xs).symm▸.fr (.az f e r))
   ·refine concat_meets ⟨_,e1,rfl⟩ ⟨_,e1',rfl⟩ noFill_tuple_add seq_tuple_add PySem.F.slot_tuple_add PySem.F.entry_tuple_add (PySem.F.args_tuple_add_2 _ _) (tuple_addW2 a b vs.toArray ws.toArray m m' none none #[] #[] q q' (show vs.length+ws.length≤_ by rw [sizeLine_eq,←r.len,←r'.len]; exact Nat.le_trans hl (by decide))) ⟨e1,e1',?_⟩
    rw [List.append_toArray]
    exact ml aj (r.append r') h p s.toks
theorem aaX (nm:Nat)(op:Operator)(aj:At G fs cl L c S s)(ra:VR G.prog G.w c a v)(rb:VR G.prog G.w c b u):Ap (VR G.prog G.w) G PE A fs cl L c S s (λK _=>aaV nm op a b S K) (binaryOp op v u):=by
 intro K X Q E h p x
 have n:lr op (dB S a λxs=>dB S b λys=>xs.length+ys.length≤1000000∧jw nm (xs++ys) S K)→wpAny (model G.prog G.w) A (binaryOp op v u) Q E s:=λh=>
  gK (Z:=λop=>wpAny (model G.prog G.w) A (binaryOp op v u) Q E s) h λh=>bP h ra aj.aF λxs l1 h=>bP h rb aj.aF λys l2 h=>by
   cases l1 with
   |mk e r=>cases l2 with
    |mk e' r'=>
     have e:=aj.heap▸e
     have e':=aj.heap▸e'
     refine concat_meets ⟨_,e,rfl⟩ ⟨_,e',rfl⟩ noFill_list_add seq_list_add PySem.F.slot_list_add PySem.F.entry_list_add (PySem.F.args_list_add_2 _ _) (list_addW _ _ _ _ _ _ none none #[] #[] (show List.length _+List.length _≤_ by rw [sizeLine_eq,←r.len,←r'.len]; exact Nat.le_trans h.1 (by decide))) ⟨e,e',?_⟩
     rw [List.append_toArray]
     exact mj nm aj (r.append r') h.2 p s.toks
 cases a with
 |own=>exact n h
 |fr x=>cases b with
  |own=>exact n h
  |fr y=>cases x with
   |int i=>cases y with
    |int j=>exact ra.dg (P:=λv=>wpAny (model G.prog G.w) A (binaryOp op v u) Q E s) λt=>rb.dg (P:=λu=>wpAny (model G.prog G.w) A (binaryOp op _ u) Q E s) λt'=>u6 (PE:=PE) op _ _ _ _ aj K X Q E h p x
    |_=>exact n h
   |az i=>cases y with
    |az j=>exact gK (Z:=λop=>wpAny (model G.prog G.w) A (binaryOp op v u) Q E s) h λh=>aaW aj ra rb h.1 h.2 p
    |_=>exact n h
   |_=>exact n h
theorem ahk (op:PySem.UnaryOp)(aj:At G fs cl L c S s)(ra:VR G.prog G.w c a v):Ap (VR G.prog G.w) G PE A fs cl L c S s (λK _=>vUn op a S K) (unaryOp op v):=by
 cases op with
 |USub=>exact λK X Q E h p x=>aZ (P:=λa=>VR G.prog G.w c a v→_) h (λy h ra=>d4 (P:=λy=>VR G.prog G.w c (.fr y) v→_) h (λi h ra=>ra.dg (P:=λv=>wpAny (model G.prog G.w) A (unaryOp .USub v) Q E s) λt=>neg_int (p.now aj h (.fr (.int _ _)) _)) ra) ra
 |_=>exact λK X Q E h _ _=>h.elim
abbrev BR:Cx→Bool→Bool→Prop:=λ_ a b=>a=b
theorem ls (aj:At G fs cl L c S s)(ra:VR G.prog G.w c a v):Ap BR G PE A fs cl L c S s (λK _=>mq a S K) (truthy v):=λK X Q E h p x=>
 aZ (P:=λa=>VR G.prog G.w c a v→_) h (λy h ra=>wM (P:=λy=>VR G.prog G.w c (.fr y) v→_) h (λi h ra=>ra.dg (P:=λv=>wpAny (model G.prog G.w) A (truthy v) Q E s) (wpAny_truthy_bool (p.here aj h rfl))) ra) ra
noncomputable def fg:Expr→Bool
 |.Name _ _|.Attribute _ _ _|.Call _ _ _ _|.Constant _ _ _|.Subscript _ _ _=>true
 |_=>false
def aaY (t:Expr→St→(Bool→St→Prop)→KX→Prop)(op:PySem.BoolOp):List Expr→St→(Bool→St→Prop)→KX→Prop
 | [],S,K,_=>match op with|.And=>K true S|.Or=>K false S
 |e::r,S,K,X=>t e S (λb S1=>match op with
  |.And=>(match b with|true=>aaY t op r S1 K X|false=>K false S1)
  |.Or=>(match b with|true=>K true S1|false=>aaY t op r S1 K X)) X
def vT (vE:Expr→St→KE→KX→Prop):Nat→Expr→St→(Bool→St→Prop)→KX→Prop
 |0=>λ_ _ _ _=>False
 |f+1=>λe S K X=>match e with
  |.UnaryOp op e _=>(match op with|.Not=>vT vE f e S (λb S1=>K (!b) S1) X|_=>False)
  |.BoolOp op es _=>aaY (vT vE f) op es S K X
  |.Compare l wC rs _=>wJ wC λop=>wJ rs λr=>vOk (behindInMarks op r) (vE l S (λa S1=>vE r S1 (λb S2=>u' op a b S2 λt=>K t S2) X) X)
  |e=>cV (fg e) (vE e S (λa S1=>mq a S1 K) X)
theorem aaZ {t:Expr→St→(Bool→St→Prop)→KX→Prop}(op:PySem.BoolOp)(es:List Expr):(∀e,e∈es→Ae BR G PE A fs cl L (t e) (isTrue e env (eval e env)))→Ae BR G PE A fs cl L (aaY t op es) (allTrue op es env):=by
 induction es with
 |nil=>
  cases op with
  |And=>exact λ_ c S s a K X Q E v p x=>wpAny_pure (p.here a v rfl)
  |Or=>exact λ_ c S s a K X Q E v p x=>wpAny_pure (p.here a v rfl)
 |cons e r ih=>
  intro h
  have ih:=ih λe' h'=>h e' (.tail _ h')
  have he:=h e (.head _)
  cases op with
  |And=>exact λc S s a K X Q E v p x=>wpAny_allTrue_And_cons (he c S s a _ X _ E v (λc1 b S1 b' aL k1 e1 R1 a8 r1=>
    have p1:=p.ak a.aF R1 e1 a8 aL
    match b,r1,k1 with
    |true,rfl,k1=>ih c1 S1 _ (a.ak R1 aL) K X Q E k1 p1 (x.ak a.aF R1 e1 a8 aL)
    |false,rfl,k1=>p1.here (a.ak R1 aL) k1 rfl) x)
  |Or=>exact λc S s a K X Q E v p x=>wpAny_allTrue_Or_cons (he c S s a _ X _ E v (λc1 b S1 b' aL k1 e1 R1 a8 r1=>
    have p1:=p.ak a.aF R1 e1 a8 aL
    match b,r1,k1 with
    |true,rfl,k1=>p1.here (a.ak R1 aL) k1 rfl
    |false,rfl,k1=>ih c1 S1 _ (a.ak R1 aL) K X Q E k1 p1 (x.ak a.aF R1 e1 a8 aL)) x)
theorem qv {e:Expr}{env:Env}{jz:Sem Value}(h:fg e=true):isTrue e env jz=(do let v ←jz; standAt e.pos; holding [v] (truthy v)):=by
 cases e with
 |UnaryOp|BoolOp|Compare=>exact Bool.noConfusion h
 |_=>first|rfl|exact Bool.noConfusion h
theorem tI {vE:Expr→St→KE→KX→Prop}(hr:A.units+2<cLine)(hE:∀e,Ae (VR G.prog G.w) G PE A fs cl L (vE e) (eval e env))(f:Nat):∀e,Ae BR G PE A fs cl L (vT vE f e) (isTrue e env (eval e env)):=by
 induction f with
 |zero=>exact λ_ _ _ _ _ _ _ _ _ v _ _=>v.elim
 |succ f ih=>
  have plain:∀e,(∀S K X,vT vE (f+1) e S K X→cV (fg e) (vE e S (λa S1=>mq a S1 K) X))→Ae BR G PE A fs cl L (vT vE (f+1) e) (isTrue e env (eval e env)):=λe h c S s a K X Q E v p x=>aG (h S K X v) λht v=>
   wpAny_isTrue_value (Ae.seq (rel':=BR) (k:=truthy) (hE e) (λc a S b s h r=>ls h r) a v p x) (qv ht)
  intro e
  cases e with
  |UnaryOp op e' pos=>cases op with
   |Not=>exact λc S s a K X Q E v p x=>wpAny_isTrue_Not (ih e' c S s a _ X _ E v (λc1 b S1 b' aL k1 e1 R1 a8 r1=>p c1 (!b) S1 (!b') aL k1 e1 R1 a8 (congrArg _ r1)) x)
   |_=>exact λc S s a K X Q E v p x=>v.elim
  |BoolOp op es pos=>exact λc S s a K X Q E v p x=>wpAny_isTrue_BoolOp (aaZ op es (λe _=>ih e) c S s a K X Q E v p x)
  |Compare l wC rs pos=>
   intro c S s a K X Q E v p x
   refine dT (P:=λwC=>wpAny (model G.prog G.w) A (isTrue (.Compare l wC rs pos) env (eval (.Compare l wC rs pos) env)) Q E s) v λop v=>dT (P:=λrs=>wpAny (model G.prog G.w) A (isTrue (.Compare l [op] rs pos) env (eval (.Compare l [op] rs pos) env)) Q E s) v λr v=>?_
   have v:=cg v
   refine wpAny_isTrue_Compare1 (hE l c S s a _ X _ E v.2 (λc1 a1 S1 b1 aL k1 e1 R1 a8 r1=>?_) x) v.1
   have p1:=p.ak a.aF R1 e1 a8 aL
   exact hE r c1 S1 _ (a.ak R1 aL) _ X _ E k1 (λc2 a2 S2 b2 bG k2 e2 R2 cj r2=>tF hr op k2 (a.ak R2 bG) (r1.aw e2.le) r2 λt k=>wpAny_truthy_bool ((p1.ak R1 R2 e2 cj bG).here (a.ak R2 bG) k rfl)) (x.ak a.aF R1 e1 a8 aL)
  |_=>exact plain _ λ_ _ _ h=>h
end
set_option backward.match.sparseCases true
def jA (S:St)(av:AV)(P:Addr→List (Str×AV)→Prop):Prop:=match av with
 |.fr x=>ah7 x λ_ C l=>P C (wW l)
 |.own m k=>bW (S.get m) λr=>jt r.2 λC dn di=>k=r.1∧bW (S.get dn) λq=>aaO q.2 λl=>di=q.1∧P C l
abbrev Au:=AV→List AV→St→KE→KX→Prop
def xi (G:Ah)(call:Au)(av:AV)(a:Str)(S:St)(K:KE):Prop:=jA S av λC l=>bW (iR C G.cls) λci=>match ci.attrs.contains a with
 |true=>bW (l.lookup a) λv=>vOk (wV v) (K v S)
 |false=>bW (ci.wU.lookup a) λf=>call (.fr (.lit (.ref f))) [av] S (λv S1=>vOk (wV v) (K v S1)) (λ_ _=>False)
theorem fh {G:Ah}{fs:List Env}{cl:List (Str×Addr)}{L:Addr}{c:Cx}{S:St}{av:AV}{v:Value}{P:Addr→List (Str×AV)→Prop}(h:jA S av P)(r:VR G.prog G.w c av v)(R:Ad G.prog G.w G.h0 fs cl c L S){Z:Value→Prop}
  (z:∀x C dx l,AH G.prog G.w c x C dx l→P C l→Z (.ref x)):Z v:=by
 cases av with
 |fr x=>exact tz (P:=λx=>VR G.prog G.w c (.fr x) v→Z v) h (λk C l h r=>AH.rc r.cU λx dx I=>z x _ dx _ I h) r
 |own m k=>
  rw [r.bc.1]
  refine au h λq e h=>?_
  obtain ⟨j,o⟩:=q
  refine fE (P:=λo=>S.get m=some (j,o)→Z (.ref (c.ρ k))) h (λC dn di h e=>au h.2 λq e2 h2=>?_) e
  obtain ⟨i,o⟩:=q
  exact ma (P:=λo=>S.get dn=some (i,o)→Z (.ref (c.ρ k))) h2 (λl h2 e2=>z _ C _ l (AH.of R ((show j=k from h.1.symm)▸e) ((show i=di from h2.1.symm)▸e2)) h2.2) e2
def Ag (G:Ah)(PE:Addr×Nat)(n:Nat)(q:Bool)(vc:Au):Prop:=
 ∀(A:Around) (fs:List Env) (env:Env) (sc:Scope) (cl:List (Str×Addr)) (L:Addr),Run G A fs env sc cl L n q→∀(f:AV) (v:Value) (args:List AV) (vs:List Value) (c:Cx) (S:St) (s:Shared),At G fs cl L c S s→VR G.prog G.w c f v→Al G.prog G.w c args vs→
  ∀(K:KE) (X:KX) (Q E:Value→Shared→Prop),vc f args S K X→Ak (VR G.prog G.w) G fs cl L c S s K Q→Ai G PE fs cl L c S s X E→
   codeAny (model G.prog G.w) A (.call v ⟨vs,[]⟩) (λr s'=>match r with|.ok (.ret u)=>Q u s'|.ok _=>False|.error e=>E e s') s
theorem Ag.call {G:Ah}{PE:Addr×Nat}{n:Nat}{q:Bool}{vc:Au}(h:Ag G PE n q vc){A:Around}{fs:List Env}{env:Env}{sc:Scope}{cl:List (Str×Addr)}{L:Addr}(r:Run G A fs env sc cl L n q){f:AV}{v:Value}{args:List AV}{vs:List Value}{c:Cx}{S:St}{s:Shared}
  (a:At G fs cl L c S s) (hf:VR G.prog G.w c f v) (hv:Al G.prog G.w c args vs):Ap (VR G.prog G.w) G PE A fs cl L c S s (vc f args S) (PySem.call v vs):=
 λK X Q E k p x=>wpAny_call (h A fs env sc cl L r f v args vs c S s a hf hv K X Q E k p x)
theorem Run.in1 {G:Ah}{A:Around}{fs:List Env}{env:Env}{sc:Scope}{cl:List (Str×Addr)}{L:Addr}{n:Nat}{q:Bool}(r:Run G A fs env sc cl L (n+1) q):Run G A.in1 fs env sc cl L n q:=
 ⟨r.ok,r.env,r.frames,by
  obtain ⟨a,b⟩:=r.kK
  refine ⟨?_,?_⟩
  ·show A.depth+n<recursionLimit; lia
  ·show A.units+1+8*n+8<cLine; lia,r.i5⟩
theorem Run.less {G:Ah}{A:Around}{fs:List Env}{env:Env}{sc:Scope}{cl:List (Str×Addr)}{L:Addr}{n:Nat}{q:Bool}(r:Run G A fs env sc cl L (n+1) q):Run G A fs env sc cl L n q:=
 ⟨r.ok,r.env,r.frames,by obtain ⟨a,b⟩:=r.kK; exact ⟨by lia,by lia⟩,r.i5⟩
theorem Run.u2 {G:Ah}{A:Around}{fs:List Env}{env:Env}{sc:Scope}{cl:List (Str×Addr)}{L:Addr}{n:Nat}{q:Bool}(r:Run G A fs env sc cl L n q):A.units+2<cLine:=by obtain ⟨a,b⟩:=r.kK; lia
set_option backward.match.sparseCases false in
noncomputable def gM:Expr→Bool
 |.Call _ [] [] _=>false
 |_=>true
theorem lu {value:Expr}(h:gM value=true)(bY:Str)(env:Env)(jz:Sem Value):attributeBase value bY env jz=jz:=by
 cases value with
 |Call f args kws pos=>cases f with
  |Name=>cases args with
   |nil=>cases kws with
    |nil=>exact Bool.noConfusion h
    |cons=>rfl
   |cons=>rfl
  |_=>rfl
 |_=>rfl
theorem lw {prog:Program}{w:World}{A:Around}{E:Value→Shared→Prop}{s:Shared}{env:Env}{value:Expr}{bY:Str}{pos:Pos}{Q:Value→Shared→Prop}(hn:gM value=true)
  (h:wpAny (model prog w) A (eval value env) (λo s₁=>wpAny (model prog w) A (getAttr o bY true) Q E s₁) E s):wpAny (model prog w) A (eval (.Attribute value bY pos) env) Q E s:=by
 rw [arm_eval_Attribute,lu hn]
 exact wpAny_bind (wpAny_mono h (λo s₁ h₁=>wpAny_bind (wpAny_standAt (wpAny_bind (wpAny_holding (wpAny_mono h₁ (λr s₂ h₂=>wpAny_bind (wpAny_letTemporaryGo (wpAny_pure h₂))) λ_ _ y=>y))))) λ_ _ y=>y)
section
variable {G:Ah} {PE:Addr×Nat} {A:Around} {fs:List Env} {cl:List (Str×Addr)} {L:Addr} {c:Cx} {S:St} {s:Shared} {env:Env} {sc:Scope} {n:Nat} {q:Bool}
theorem tJ (r:Run G A fs env sc cl L (n+1) q){vc:Au}(hc:Ag G PE n q vc){av:AV}{v:Value}{a:Str}{b:Bool}(aj:At G fs cl L c S s)(ra:(VR G.prog G.w) c av v):
  Ap (VR G.prog G.w) G PE A fs cl L c S s (λK _=>xi G vc av a S K) (getAttr v a b):=by
 intro K X Q E h p x
 refine fh (Z:=λv=>VR G.prog G.w c av v→wpAny (model G.prog G.w) A (getAttr v a b) Q E s) h ra aj.aF (λy C dx l I h ra=>au h λci hci h=>?_) ra
 have hm:=fG hci
 have O:=r.ok.cls C ci hm
 cases ha:ci.attrs.contains a with
 |true=>
  rw [ha] at h
  exact au h λu hu h=>wY r.ok aj.aF aj.heap I hm (List.contains_iff_mem.mp ha) hu (cg h).1 λw hw=>p.now aj (cg h).2 hw _
 |false=>
  rw [ha] at h
  refine au h λf hf h=>I.kJ aj.heap a λod vs J _ _ _=>?_
  obtain ⟨pp,rest,q1,q2,q3,q4⟩:=O.arM a f (ch hf)
  have X':=aj.aF.nD r.ok aj.heap
  have qw:(clsIn G.K C).isSome=true:=let ⟨cd,hcd,_⟩:=any_some O.cd; hcd▸rfl
  refine get_bind X' J O.ga (findObj_data qw q1 q3 q4) O.gh (wpAny_call (prop_get (s:={s with toks:=s.toks+1}) X' q2 ?_))
  refine hc A.in1 fs env sc cl L r.in1 _ _ [av] [.ref y] c S {s with toks:=s.toks+1} ⟨aj.aF,aj.heap⟩ (.fr (.lit (.ref f))) (.cons ra .nil) _ (λ_ _=>False) _ _ h (λc1 a1 S1 b1 aL k1 e1 R1 a8 r1=>?_) ⟨x.1,λ_ _ _ _ _ k=>k.elim⟩
  exact handed_on (li r1 (cg k1).1) (p c1 a1 S1 b1 aL (cg k1).2 e1 R1 a8 r1)
end
set_option backward.match.sparseCases false
noncomputable def mu {α β:Type}(o:Option α)(a b:β):β:=match o with
 |none=>a
 |some _=>b
def jB {α:Type}(sl:List (Str×α))(nd:Str×α):List (Str×α):=mu (sl.lookup nd.1) (sl++[nd]) sl
def fH {α:Type}(names:List Str)(vs ds:List α):List (Str×α):=
 ((names.drop (names.length-(ds.drop (ds.length-names.length)).length)).zip (ds.drop (ds.length-names.length))).foldl jB (names.zip vs)
def dc {α:Type}(names:List Str)(vs ds:List α):List (Str×α):=names.filterMap λn=>((fH names vs ds).lookup n).map λv=>(n,v)
noncomputable def gj {α:Type}(names:List Str)(vs ds:List α):Bool:=
 Nat.ble vs.length names.length&&((names.take (names.length-(ds.drop (ds.length-names.length)).length)).filter λn=>((names.zip vs).lookup n).isNone).isEmpty
noncomputable def d8 (p:Arguments):Bool:=p.posonlyargs.isEmpty&&p.kwonlyargs.isEmpty&&p.vararg.isNone&&p.kwarg.isNone
theorem nU {M:Model}{A:Around}{E:Value→Shared→Prop}{s:Shared}{Q:List (Str×Value)→Shared→Prop}(l:List (Str×Value)):∀(sl:List (Str×Value)),Q (l.foldl jB sl) s→
  wpAny M A (forIn l sl (λx r=>if (r.lookup x.1).isNone=true then (pure (ForInStep.yield (r++[(x.1,x.2)])):Sem _) else pure (ForInStep.yield r))) Q E s:=by
 induction l with
 |nil=>exact λsl h=>wpAny_pure h
 |cons x l ih=>
  intro sl h
  rw [List.forIn_cons]
  refine wpAny_bind (wpAny_of_eq (a:=ForInStep.yield (jB sl x)) ?_ (ih _ h))
  unfold jB
  cases sl.lookup x.1 <;> rfl
theorem plain_el {C:Arguments→Prop}(k:∀ar kd df,C ⟨[],ar,none,[],kd,none,df⟩){p:Arguments}(h:d8 p=true):C p:=by
 obtain ⟨po,ar,va,ko,kd,kw,df⟩:=p
 have h:=Bool.and_eq_true_iff.mp h
 have hq:=Bool.and_eq_true_iff.mp h.1
 have hr:=Bool.and_eq_true_iff.mp hq.1
 cases List.isEmpty_iff.mp hr.1
 cases List.isEmpty_iff.mp hr.2
 cases Option.isNone_iff_eq_none.mp hq.2
 cases Option.isNone_iff_eq_none.mp h.2
 exact k ar kd df
theorem gk {fd:FuncData}{vs ds:List Value}{s:Shared}(hp:d8 fd.params=true)(ho:gj (fd.params.args.map (·.arg)) vs ds=true)
  (hd:∀(M:Model) (A:Around) (E:Value→Shared→Prop) (Q:Option (Array Value)→Shared→Prop),(∀r,r.getD #[]=ds.toArray→Q r s)→wpAny M A (seqItems? fd.defaults) Q E s):
  BindsTo s fd ⟨vs,[]⟩ (dc (fd.params.args.map (·.arg)) vs ds):=by
 cases fd with|mk nm qn params body scope globals closure defaults kwd doc mod ann code ct blt=>
 refine plain_el (C:=λparams=>gj (params.args.map (·.arg)) vs ds=true→BindsTo s ⟨nm,qn,params,body,scope,globals,closure,defaults,kwd,doc,mod,ann,code,ct,blt⟩ ⟨vs,[]⟩ (dc (params.args.map (·.arg)) vs ds)) (λar kd df ho=>?_) hp ho
 intro M A E Q q
 have o:=Bool.and_eq_true_iff.mp ho
 refine wpAny_bind (wpAny_of_eq (a:=((ar.map (·.arg)).zip vs,[])) rfl (wpAny_bind (hd _ _ _ _ λr hr=>?_)))
 rw [hr]
 refine nH (λh=>Nat.not_lt.mpr (Nat.le_of_ble_eq_true o.1) (of_decide_eq_true (Bool.and_eq_true_iff.mp h).1)) ?_
 refine nH (λh=>Bool.noConfusion ((o.2.symm.trans ((Bool.not_eq_true' _).mp h):true=false))) ?_
 refine wpAny_bind (nU _ _ ?_)
 refine wpAny_bind (wpAny_of_eq (a:=(fH (ar.map (·.arg)) vs ds,[])) rfl (wpAny_pure ?_))
 show Q (List.filterMap _ (ar.map (·.arg)++[])) s
 rw [List.append_nil]
 exact q
section
variable {p:Program} {w:World} {c:Cx}
inductive AR (p:Program) (w:World) (c:Cx):List (Str×AV)→List (Str×Value)→Prop
 |nil:AR p w c [] []
 |cons {n:Str} {a:AV} {v:Value} {l:List (Str×AV)} {m:List (Str×Value)}:VR p w c a v→AR p w c l m→AR p w c ((n,a)::l) ((n,v)::m)
theorem AR.zip {names:List Str}:∀{as:List AV} {vs:List Value},Al p w c as vs→AR p w c (names.zip as) (names.zip vs):=by
 induction names with
 |nil=>exact λ{as vs} _=>.nil
 |cons n names ih=>exact λh=>h.la (P:=λas vs=>AR p w c ((n::names).zip as) ((n::names).zip vs)) .nil λh r _=>.cons h (ih r)
theorem AR.append {l l':List (Str×AV)}{m m':List (Str×Value)}(h:AR p w c l m)(h':AR p w c l' m'):AR p w c (l++l') (m++m'):=
 AR.rec (motive:=λl m _=>AR p w c (l++l') (m++m')) h' (λa _ ih=>.cons a ih) h
theorem AR.kJ {l:List (Str×AV)}{m:List (Str×Value)}(h:AR p w c l m)(n:Str){Z:Option AV→Option Value→Prop}(z0:Z none none)(z:∀a v,VR p w c a v→Z (some a) (some v)):Z (l.lookup n) (m.lookup n):=
 AR.rec (motive:=λl m _=>Z (l.lookup n) (m.lookup n)) z0 (λ{y a v l m} r _ ih=>by
  show Z (match n==y with|true=>some a|false=>l.lookup n) (match n==y with|true=>some v|false=>m.lookup n)
  cases n==y with
  |true=>exact z a v r
  |false=>exact ih) h
theorem AR.i4 {l:List (Str×AV)}{m:List (Str×Value)}(h:AR p w c l m){n:Str}{a:AV}{v:Value}(hv:VR p w c a v):AR p w c (jB l (n,a)) (jB m (n,v)):=
 h.kJ n (Z:=λx y=>AR p w c (mu x (l++[(n,a)]) l) (mu y (m++[(n,v)]) m)) (h.append (.cons hv .nil)) λ_ _ _=>h
theorem AR.fold {q:List (Str×AV)}{r:List (Str×Value)}(hq:AR p w c q r):∀{l:List (Str×AV)} {m:List (Str×Value)},AR p w c l m→AR p w c (q.foldl jB l) (r.foldl jB m):=
 AR.rec (motive:=λq r _=>∀{l:List (Str×AV)} {m:List (Str×Value)},AR p w c l m→AR p w c (q.foldl jB l) (r.foldl jB m)) id (λa _ ih _ _ h=>ih (AR.i4 h a)) hq
theorem Al.drop {x:List AV}{v:List Value}(h:Al p w c x v):∀n,Al p w c (x.drop n) (v.drop n):=
 h.la (P:=λx v=>∀n,Al p w c (x.drop n) (v.drop n)) (λn=>by rw [List.drop_nil,List.drop_nil]; exact .nil) λh b r n=>match n with
  |0=>.cons h b
  |n+1=>r n
theorem tK {α β:Type}{f:α→Option β}{a:α}{l:List α}:(a::l).filterMap f=(f a).elim (l.filterMap f) (· :: l.filterMap f):=by
 rw [List.filterMap_cons]
 cases f a <;> rfl
theorem AR.ahl {l:List (Str×AV)}{m:List (Str×Value)}(hs:AR p w c l m)(names:List Str):AR p w c (names.filterMap λn=>(l.lookup n).map λv=>(n,v)) (names.filterMap λn=>(m.lookup n).map λv=>(n,v)):=by
 induction names with
 |nil=>exact .nil
 |cons n r ih=>
  rw [tK,tK]
  exact hs.kJ n (Z:=λx y=>AR p w c ((x.map λv=>(n,v)).elim _ (· :: _)) ((y.map λv=>(n,v)).elim _ (· :: _))) ih λ_ _ hv=>.cons hv ih
theorem AR.bind {names:List Str}{as ds:List AV}{vs es:List Value}(h:Al p w c as vs)(h':Al p w c ds es):AR p w c (dc names as ds) (dc names vs es):=
 AR.ahl (by
  unfold fH
  rw [List.length_drop,List.length_drop,h'.len]
  exact AR.fold (AR.zip (h'.drop _)) (AR.zip h)) names
theorem AR.ok {names:List Str}{as ds:List AV}{vs es:List Value}(h:Al p w c as vs)(h':Al p w c ds es):gj names as ds=gj names vs es:=by
 unfold gj
 rw [h.len,List.length_drop,List.length_drop,h'.len,show (λn=>((names.zip as).lookup n).isNone)=λn=>((names.zip vs).lookup n).isNone from funext λn=>(AR.zip (names:=names) h).kJ n (Z:=λx y=>x.isNone=y.isNone) rfl λ_ _ _=>rfl]
theorem AR.names {l:List (Str×AV)}{m:List (Str×Value)}(h:AR p w c l m):l.map (·.1)=m.map (·.1):=
 AR.rec (motive:=λl m _=>l.map (·.1)=m.map (·.1)) rfl (λ_ _ ih=>congrArg _ ih) h
end
theorem AD.same {fs:List Env}{b:Addr}{o o':Obj}(x:AD fs b o o')(h:b ∉ fP fs):o'=o:=x.elim id λq=>absurd q.1 h
theorem OR.nV {p:Program}{w:World}{c c':Cx}(l:Le c c'){fs:List Env}{o:AO}{a:Addr}(h:a ∉ fP fs)(k:∀q,c.h.get? a=some q→∃q',c'.h.get? a=some q'∧AD fs a q q')(r:OR p w c o a):OR p w c' o a:=
 r.aw l λq e=>by
  obtain ⟨q',e',x⟩:=k q e
  rw [x.same h] at e'; exact e'
noncomputable def St.enter (S:St)(loc:List (Str×AV)):St:={loc:=loc,ai:=[],am:=[],af:=S.af,aa:=S.aa}
noncomputable def St.aq (S S1:St):St:={loc:=S.loc,ai:=S.ai,am:=S.am,af:=S1.af,aa:=S1.aa}
section
variable {p:Program} {w:World} {h0:Heap} {fs all:List Env} {cl:List (Str×Addr)} {c:Cx} {L:Addr} {S:St}
structure An (fs all:List Env)(L:Addr):Prop where
 is:all=fs∨∃fe,all=fe::fs∧fe.frame=some L∧fe.scope.kind≠.module
theorem An.mem (x:An fs all L):∀b,b∈fP all→b∈fP fs∨b=L:=λb hb=>by
 rcases x.is with rfl|⟨fe,rfl,hf,_⟩
 ·exact .inl hb
 ·unfold fP at hb
  rw [List.filterMap_cons,hf] at hb
  rcases List.mem_cons.mp hb with rfl|hb
  ·exact .inr rfl
  ·exact .inl hb
theorem An.sub (x:An fs all L):∀b,b∈fP fs→b∈fP all:=λb hb=>by
 rcases x.is with rfl|⟨fe,rfl,hf,_⟩
 ·exact hb
 ·unfold fP
  rw [List.filterMap_cons,hf]
  exact .tail _ hb
theorem An.tail (x:An fs all L){h b9:Heap}(y:h.FunFrames b9 all):h.FunFrames b9 fs:=by
 rcases x.is with rfl|⟨fe,rfl,_,_⟩
 ·exact y
 ·exact y.2.2
theorem An.jz (x:An fs all L){h b9:Heap}{m:Str→Option Value}(y:h.FunFrames b9 fs)(n:h.Ns L m)(hb:b9.get? L=none):h.FunFrames b9 all:=by
 rcases x.is with rfl|⟨fe,rfl,hf,hk⟩
 ·exact y
 ·exact Heap.FunFrames.cons hk hf n hb y
theorem Ad.enter (R:Ad p w h0 fs cl c L S)(Z:An fs all L){binds:List (Str×Value)}{loc:List (Str×AV)}(hb:AR p w c loc binds){h':Heap}(hn:h'.Ns c.h.objs.size (λx=>binds.reverse.lookup x))(k:∀b o,c.h.get? b=some o→h'.get? b=some o):
  Ad p w h0 all [] {c with h:=h'} c.h.objs.size (S.enter loc.reverse):=by
 have hs:c.h.objs.size≤h'.objs.size:=Nat.le_of_lt hn.lt
 have l:Le c {c with h:=h'}:=⟨Nat.le_refl _,λ_ _=>rfl,λ_ h=>h,λa o _ e=>k a o e⟩
 have sub:∀x,x∈(S.enter loc.reverse).objs→x∈S.objs:=λx hx=>List.mem_append_right _ (by simpa [St.enter,St.objs] using hx)
 obtain ⟨vs,n1,n2⟩:=R.loc
 have BS:=n1.lt
 refine ⟨λb o e=>k b o (R.bj b o e),R.n,⟨binds.reverse.map (·.2),?_,?_⟩,λm j o h=>(R.objs m j o (sub _ h)).aw l λq=>k _ q,λm j o h=>?_,λm k o m' k' o' h h'=>R.inj m k o m' k' o' (sub _ h) (sub _ h'),?_,⟨?_,λf=>Nat.lt_irrefl _ (R.ez _ f)⟩,λa f=>Nat.lt_of_lt_of_le (R.ez a f) hs,?_,λb hbm=>?_,λx m k h=>(nomatch h),R.b9⟩
 ·have e:(λx=>binds.reverse.lookup x)=zl ((S.enter loc.reverse).loc.map (·.1)) (binds.reverse.map (·.2)):=by
   funext x
   show _=((loc.reverse.map (·.1)).zip (binds.reverse.map (·.2))).lookup x
   rw [List.map_reverse,hb.names,←List.map_reverse]
   congr 1
   generalize binds.reverse=q
   induction q with
   |nil=>rfl
   |cons a r ih=>simp [←ih]
  rw [←e]; exact hn
 ·show Al p w _ (loc.reverse.map (·.2)) _
  have:∀{l:List (Str×AV)} {m:List (Str×Value)},AR p w c l m→Al p w c (l.reverse.map (·.2)) (m.reverse.map (·.2)):=λh=>by
   induction h with
   |nil=>exact .nil
   |cons a _ ih=>rw [List.reverse_cons,List.reverse_cons,List.map_append,List.map_append]; exact ih.append (.cons a .nil)
  exact (this hb).aw l
 ·obtain ⟨a,b,d,e,f⟩:=R.aP m j o (sub _ h)
  exact ⟨a,b,Nat.ne_of_lt f,e,Nat.lt_of_lt_of_le f hs⟩
 ·have:=(ip R.eW).2.1
  simpa [St.enter,St.objs] using this
 ·cases q:h0.get? c.h.objs.size with
  |none=>rfl
  |some o=>exact absurd (Heap.lt_size (R.bj _ o q)) (Nat.lt_irrefl _)
 ·exact Z.jz (dh R.kG λb _ o e=>⟨o,k b o e,rfl⟩) (iQ n1 λo=>k _ o) R.im.1
 ·rcases Z.mem b hbm with hb|rfl
  ·obtain ⟨a1,a2,a3,a4⟩:=R.cW b hb
   exact ⟨Nat.ne_of_lt a3,a2,Nat.lt_of_lt_of_le a3 hs,λm k o h=>a4 m k o (sub _ h)⟩
  ·exact ⟨Nat.ne_of_lt BS,R.im.2,Nat.lt_of_lt_of_le BS hs,λm k o h=>(R.aP m k o (sub _ h)).2.2.1.symm⟩
end
structure Bv (fs:List Env)(c:Cx)(S:St)(c1:Cx)(S1:St):Prop where
 le:Le c c1
 size:c.h.objs.size≤c1.h.objs.size
 keep:∀b o,c.h.get? b=some o→(∀m k q,(m,k,q)∈S.af→b≠c.ρ k)→∃o',c1.h.get? b=some o'∧AD fs b o o'
 fresh:∀a,c1.fz a→c.fz a∨c.h.objs.size≤a∨∃m k q,(m,k,q)∈S.af∧a=c.ρ k
 aP:∀m k o,(m,k,o)∈S1.af→(∃m' q,(m',k,q)∈S.af)∨c.h.objs.size≤c1.ρ k
section
variable {p:Program} {w:World} {h0:Heap} {fs all:List Env} {cl cl':List (Str×Addr)} {c c1:Cx} {L L':Addr} {S S1:St}
theorem Ad.xj (R:Ad p w h0 fs cl c L S)(Z:An fs all L)(R1:Ad p w h0 all cl' c1 L' S1)(E:Bv all c S c1 S1):
  Ad p w h0 fs cl c1 L (S.aq S1)∧Am fs c S L c1 (S.aq S1):=by
 obtain ⟨nt,ng,nd⟩:=ip R.eW
 obtain ⟨_,ng1,_⟩:=ip R1.eW
 have gl:∀{m k o},(m,k,o)∈S.af→(m,k,o)∈S.objs:=λh=>List.mem_append_right _ h
 have tm:∀{m k o},(m,k,o)∈S.am→(m,k,o)∈S.objs:=λh=>List.mem_append_left _ h
 have g1:∀{m k o},(m,k,o)∈S1.af→(m,k,o)∈S1.objs:=λh=>List.mem_append_right _ h
 obtain ⟨vs,n1,n2⟩:=R.loc
 have BS:=n1.lt
 have rho:∀{m k o},(m,k,o)∈S.objs→c1.ρ k=c.ρ k:=λh=>E.le.ρ _ (R.kn _ _ _ h)
 -- a temporary object's place is no long-lived one's
 have xk:∀{m k o},(m,k,o)∈S.am→∀m' k' q',(m',k',q')∈S.af→c.ρ k≠c.ρ k':=λh m' k' q' h' e=>by
  have:=R.inj _ _ _ _ _ _ (tm h) (gl h') e
  subst this
  exact nd _ (bR h) (bR h')
 have ahm:∀m' k' q',(m',k',q')∈S.af→L≠c.ρ k':=λm' k' q' h=>(R.aP _ _ _ (gl h)).2.2.1.symm
 have fzL:¬c1.fz L:=λf=>by
  rcases E.fresh L f with f|f|⟨m,k,q,hq,e⟩
  ·exact R.im.2 f
  ·exact Nat.lt_irrefl _ (Nat.lt_of_lt_of_le BS f)
  ·exact ahm m k q hq e
 have mem:∀{m k o},(m,k,o)∈(S.aq S1).objs→(m,k,o)∈S.am∨(m,k,o)∈S1.af:=λh=>List.mem_append.mp h
 have xl:∀{m k o m' k' o'},(m,k,o)∈S.am→(m',k',o')∈S1.af→c1.ρ k=c1.ρ k'→False:=λ{m k o m' k' o'} h h' e=>by
  rw [rho (tm h)] at e
  rcases E.aP _ _ _ h' with ⟨m'',q,hq⟩|hz
  ·rw [rho (gl hq)] at e
   exact xk h _ _ _ hq e
  ·rw [←e] at hz
   exact Nat.lt_irrefl _ (Nat.lt_of_lt_of_le (R.aP _ _ _ (tm h)).2.2.2.2 hz)
 refine ⟨⟨R1.bj,R1.n,⟨vs,wR n1 λo e=>E.keep L o e ahm,n2.aw E.le⟩,λm k o h=>?_,λm k o h=>?_,λm k o m' k' o' h h' e=>?_,?_,⟨R.im.1,fzL⟩,R1.ez,Z.tail R1.kG,λb hb=>?_,λx m k h=>?_,R1.b9⟩,
  ⟨E.le,E.size,λb o e hL hb=>by
   obtain ⟨o',e',x⟩:=E.keep b o e λm k q hq=>hb m k q (gl hq)
   refine ⟨o',e',x.elim .inl λq=>.inr ⟨(Z.mem b q.1).elim id λz=>absurd z hL,q.2⟩⟩,λa h=>?_,λm k o h=>?_⟩⟩
 ·rcases mem h with h|h
  ·rw [rho (tm h)]
   refine (R.objs _ _ _ (tm h)).nV E.le (fs:=all) (λhb=>?_) λq e=>E.keep _ q e (xk h)
   rcases Z.mem _ hb with hb|e
   ·exact (R.cW _ hb).2.2.2 _ _ _ (tm h) rfl
   ·exact (R.aP _ _ _ (tm h)).2.2.1 e
  ·exact R1.objs _ _ _ (g1 h)
 ·rcases mem h with h|h
  ·obtain ⟨a1,a2,a3,a4,a5⟩:=R.aP _ _ _ (tm h)
   rw [rho (tm h)]
   refine ⟨Nat.lt_of_lt_of_le a1 E.le.n,a2,a3,λf=>?_,Nat.lt_of_lt_of_le a5 E.size⟩
   rcases E.fresh _ f with f|f|⟨m',k',q,hq,e⟩
   ·exact a4 f
   ·exact Nat.lt_irrefl _ (Nat.lt_of_lt_of_le a5 f)
   ·exact xk h _ _ _ hq e
  ·obtain ⟨a1,a2,a3,a4,a5⟩:=R1.aP _ _ _ (g1 h)
   refine ⟨a1,a2,λe=>?_,a4,a5⟩
   rcases E.aP _ _ _ h with ⟨m',q,hq⟩|hz
   ·rw [rho (gl hq)] at e; exact ahm _ _ _ hq e.symm
   ·rw [e] at hz; exact Nat.lt_irrefl _ (Nat.lt_of_lt_of_le BS hz)
 ·rcases mem h with h|h <;> rcases mem h' with h'|h'
  ·rw [rho (tm h),rho (tm h')] at e; exact R.inj _ _ _ _ _ _ (tm h) (tm h') e
  ·exact (xl h h' e).elim
  ·exact (xl h' h e.symm).elim
  ·exact R1.inj _ _ _ _ _ _ (g1 h) (g1 h') e
 ·show (dy (S.am++S1.af)).Nodup
  rw [dN,List.nodup_append]
  refine ⟨nt,ng1,λa ha b hb=>?_⟩
  rintro rfl
  obtain ⟨⟨m,k,o⟩,h,rfl⟩:=List.mem_map.mp ha
  obtain ⟨⟨m',k',o'⟩,h',e⟩:=List.mem_map.mp hb
  dsimp only at e
  subst e
  exact xl h h' rfl
 ·obtain ⟨a1,a2,a3,a4⟩:=R.cW b hb
  obtain ⟨b1,b2,b3,b4⟩:=R1.cW b (Z.sub b hb)
  refine ⟨a1,b2,b3,λm k o h=>?_⟩
  rcases mem h with h|h
  ·rw [rho (tm h)]; exact a4 _ _ _ (tm h)
  ·exact b4 _ _ _ (g1 h)
 ·obtain ⟨a1,a2⟩:=R.ai x m k h
  exact ⟨by rw [E.le.ρ k a2]; exact a1,Nat.lt_of_lt_of_le a2 E.le.n⟩
 ·rcases E.fresh a h with h|h|⟨m,k,q,hq,e⟩
  ·exact .inl h
  ·exact .inr (.inl h)
  ·exact .inr (.inr ⟨m,k,q,gl hq,e⟩)
 ·rcases mem h with h|h
  ·exact .inl ⟨m,o,tm h⟩
  ·rcases E.aP _ _ _ h with ⟨m',q,hq⟩|hz
   ·exact .inl ⟨m',q,gl hq⟩
   ·exact .inr hz
end
set_option backward.match.sparseCases true
section
variable {p:Program} {w:World} {h0:Heap} {fs:List Env} {cl:List (Str×Addr)} {c c':Cx} {L:Addr} {S S':St}
theorem Ac.fQ {a:Addr}(x:Ac h0 fs L c S a)(R:Ad p w h0 fs cl c L S)(R':Ad p w h0 fs cl c' L S')(E:Am fs c S L c' S'):Ac h0 fs L c' S' a:=by
 refine ⟨Nat.lt_of_lt_of_le x.lt E.size,λf=>?_,x.h0,x.ne,λm k o h e=>?_,x.fr⟩
 ·rcases E.fresh a f with f|f|⟨m,k,q,hq,e⟩
  ·exact x.fz f
  ·exact Nat.lt_irrefl _ (Nat.lt_of_lt_of_le x.lt f)
  ·exact x.obj m k q hq e
 ·rcases E.aP m k o h with ⟨m',q,hq⟩|hz
  ·rw [E.le.ρ k (R.kn _ _ _ hq)] at e
   exact x.obj _ _ _ hq e
  ·rw [←e] at hz
   exact Nat.lt_irrefl _ (Nat.lt_of_lt_of_le x.lt hz)
theorem Ac.get {a:Addr}{o:Obj}(x:Ac h0 fs L c S a)(E:Am fs c S L c' S')(e:c.h.get? a=some o):c'.h.get? a=some o:=by
 obtain ⟨o',e',k⟩:=E.keep a o e x.ne x.obj
 rw [k.same x.fr] at e'; exact e'
theorem Ac.new (R:Ad p w h0 fs cl c L S){h':Heap}{a:Addr}(ha:c.h.objs.size≤a)(hl:a<h'.objs.size):Ac h0 fs L {c with h:=h'} S a:=by
 obtain ⟨vs,n1,n2⟩:=R.loc
 have BS:=n1.lt
 refine ⟨hl,λf=>Nat.lt_irrefl _ (Nat.lt_of_lt_of_le (R.ez a f) ha),?_,λe=>Nat.lt_irrefl _ (Nat.lt_of_lt_of_le (e▸BS) ha),λm k o h e=>Nat.lt_irrefl _ (Nat.lt_of_lt_of_le (e▸(R.aP m k o h).2.2.2.2) ha),λh=>Nat.lt_irrefl _ (Nat.lt_of_lt_of_le (R.cW a h).2.2.1 ha)⟩
 cases q:h0.get? a with
 |none=>rfl
 |some o=>exact absurd (Heap.lt_size (R.bj a o q)) (Nat.not_lt.mpr ha)
theorem Ad.jC (R:Ad p w h0 fs cl c L S){h':Heap}{F:Addr→Prop}(hF:∀b,F b→Ac h0 fs L c S b)(hs:c.h.objs.size≤h'.objs.size)(k:∀b o,c.h.get? b=some o→¬F b→h'.get? b=some o):
  Ad p w h0 fs cl {c with h:=h'} L S∧(∀a,Ac h0 fs L c S a→Ac h0 fs L {c with h:=h'} S a):=by
 have l:Le c {c with h:=h'}:=⟨Nat.le_refl _,λ_ _=>rfl,λ_ h=>h,λa o f e=>k a o e λz=>(hF a z).fz f⟩
 obtain ⟨vs,n1,n2⟩:=R.loc
 refine ⟨⟨λb o e=>k b o (R.bj b o e) λz=>(by have:=(hF b z).h0; rw [e] at this; cases this),R.n,⟨vs,iQ n1 λo e=>k _ o e λz=>(hF L z).ne rfl,n2.aw l⟩,λm j o h=>(R.objs m j o h).aw l λq e=>k _ q e λz=>(hF _ z).obj m j o h rfl,
  λm j o h=>(R.aP m j o h).elim λa q=>q.elim λb q=>q.elim λd q=>q.elim λe f=>⟨a,b,d,e,Nat.lt_of_lt_of_le f hs⟩,R.inj,R.eW,R.im,λa h=>Nat.lt_of_lt_of_le (R.ez a h) hs,dh R.kG λb hb o e=>⟨o,k b o e λz=>(hF b z).fr hb,rfl⟩,λb h=>((R.cW b h).elim λa1 q=>q.elim λa2 q=>q.elim λa3 a4=>⟨a1,a2,Nat.lt_of_lt_of_le a3 hs,a4⟩),R.ai,R.b9⟩,
  λa x=>⟨Nat.lt_of_lt_of_le x.lt hs,x.fz,x.h0,x.ne,x.obj,x.fr⟩⟩
theorem Am.jC {c0:Cx}{S0:St}(E:Am fs c0 S0 L c S){h':Heap}{F:Addr→Prop}(hF:∀b,F b→Ac h0 fs L c S b∧c0.h.objs.size≤b)(hs:c.h.objs.size≤h'.objs.size)(k:∀b o,c.h.get? b=some o→¬F b→h'.get? b=some o):
  Am fs c0 S0 L {c with h:=h'} S:=by
 have l:Le c {c with h:=h'}:=⟨Nat.le_refl _,λ_ _=>rfl,λ_ h=>h,λa o f e=>k a o e λz=>(hF a z).1.fz f⟩
 refine ⟨E.le.trans l,Nat.le_trans E.size hs,λb o e hL hb=>?_,E.fresh,E.aP⟩
 obtain ⟨o',e',q⟩:=E.keep b o e hL hb
 exact ⟨o',k b o' e' λz=>Nat.lt_irrefl _ (Nat.lt_of_lt_of_le (Heap.lt_size e) (hF b z).2),q⟩
theorem Ad.eA (R:Ad p w h0 fs cl c L S){F:Addr→Prop}(hF:∀b,F b→Ac h0 fs L c S b):Ad p w h0 fs cl {c with fz:=λa=>c.fz a∨F a} L S:=by
 have l:Le c {c with fz:=λa=>c.fz a∨F a}:=⟨Nat.le_refl _,λ_ _=>rfl,λ_ h=>.inl h,λa o _ e=>e⟩
 obtain ⟨vs,n1,n2⟩:=R.loc
 exact ⟨R.bj,R.n,⟨vs,n1,n2.aw l⟩,λm j o h=>(R.objs m j o h).aw l λq e=>e,
  λm j o h=>(R.aP m j o h).elim λa q=>q.elim λb q=>q.elim λd q=>q.elim λe f=>⟨a,b,d,λz=>z.elim e λz=>(hF _ z).obj m j o h rfl,f⟩,R.inj,R.eW,⟨R.im.1,λz=>z.elim R.im.2 λz=>(hF _ z).ne rfl⟩,λa h=>h.elim (R.ez a) λz=>(hF a z).lt,R.kG,
  λb h=>(R.cW b h).elim λa1 q=>q.elim λa2 q=>q.elim λa3 a4=>⟨a1,λz=>z.elim a2 λz=>(hF b z).fr h,a3,a4⟩,R.ai,λa o e=>.inl (R.b9 a o e)⟩
theorem Am.eA {c0:Cx}{S0:St}(E:Am fs c0 S0 L c S){F:Addr→Prop}(hF:∀b,F b→c0.h.objs.size≤b):Am fs c0 S0 L {c with fz:=λa=>c.fz a∨F a} S:=
 ⟨⟨E.le.n,E.le.ρ,λa f=>.inl (E.le.fz a f),E.le.aj⟩,E.size,E.keep,λa h=>h.elim (E.fresh a) λh=>.inr (.inl (hF a h)),E.aP⟩
def Cc (fr:List Addr)(b:Addr)(o o':Obj):Prop:=o'=o∨(b∈fr∧∃sl,o'={o with slots:=sl})
structure AS (X:Addr→Prop)(fr:List Addr)(h h':Heap):Prop where
 keep:∀b o,¬X b→h.get? b=some o→∃o',h'.get? b=some o'∧Cc fr b o o'
 size:h.objs.size≤h'.objs.size
theorem AS.trans {X:Addr→Prop}{fr:List Addr}{h h1 h2:Heap}(a:AS X fr h h1)(b:AS X fr h1 h2):AS X fr h h2:=
 ⟨λz o hz e=>(a.keep z o hz e).elim λo1 q=>q.elim λe1 k1=>(b.keep z o1 hz e1).elim λo2 q=>q.elim λe2 k2=>⟨o2,e2,k1.elim (λq=>q▸k2) λ⟨hf,sl,q⟩=>.inr ⟨hf,k2.elim (λr=>⟨sl,r.trans q⟩) λ⟨_,sl',r⟩=>⟨sl',r.trans (q▸rfl)⟩⟩⟩,Nat.le_trans a.size b.size⟩
theorem AS.same {X:Addr→Prop}{fr:List Addr}{h h':Heap}(t:AS X fr h h'){b:Addr}{o:Obj}(hx:¬X b)(hf:b ∉ fr)(e:h.get? b=some o):h'.get? b=some o:=
 (t.keep b o hx e).elim λ_ q=>q.elim λe' k=>e'.trans (congrArg some (k.elim id λq=>absurd q.1 hf))
theorem AS.nV {X:Addr→Prop}{h h':Heap}(t:AS X (L::fP fs) h h'){b:Addr}{o:Obj}(hx:¬X b)(hL:b≠L)(e:h.get? b=some o):∃o',h'.get? b=some o'∧AD fs b o o':=
 (t.keep b o hx e).elim λo' q=>q.elim λe' k=>⟨o',e',k.imp id λq=>⟨(List.mem_cons.mp q.1).elim (λz=>absurd z hL) id,q.2⟩⟩
theorem Ad.aA (R:Ad p w h0 fs cl c L S){h':Heap}{X:Addr→Prop}(hX:∀b,X b→Ac h0 fs L c S b)(t:AS X (L::fP fs) c.h h'):Le c {c with h:=h'}∧Ad p w h0 fs cl {c with h:=h'} L S:=by
 have nf:∀{b},b≠L→b ∉ fP fs→b ∉ L::fP fs:=λhL hf h=>(List.mem_cons.mp h).elim hL hf
 have l:Le c {c with h:=h'}:=⟨Nat.le_refl _,λ_ _=>rfl,λ_ f=>f,λa o f e=>t.same (λz=>(hX a z).fz f) (nf (λz=>R.im.2 (z▸f)) λz=>(R.cW a z).2.1 f) e⟩
 obtain ⟨us,⟨o,es,ep,q1,q2,q3⟩,n2⟩:=R.loc
 have st:∀{b o},h0.get? b=some o→h0.get? b≠none:=λe z=>sN (e.symm.trans z)
 refine ⟨l,λb o hb=>t.same (λz=>st hb (hX b z).h0) (nf (λz=>st hb (z▸R.im.1)) λz=>st hb (R.kG.mem z).1) (R.bj b o hb),R.n,⟨us,?_,n2.aw l⟩,λm k o h=>(R.objs m k o h).aw l λq e=>t.same (λz=>(hX _ z).obj m k o h rfl) (nf (R.aP m k o h).2.2.1 λz=>(R.cW _ z).2.2.2 m k o h rfl) e,
  λm k o h=>((R.aP m k o h).elim λa q=>q.elim λb q=>q.elim λd q=>q.elim λf g=>⟨a,b,d,f,Nat.lt_of_lt_of_le g t.size⟩),R.inj,R.eW,R.im,λa f=>Nat.lt_of_lt_of_le (R.ez a f) t.size,dh R.kG λb hb o e=>?_,λb hb=>((R.cW b hb).elim λa1 q=>q.elim λa2 q=>q.elim λa3 a4=>⟨a1,a2,Nat.lt_of_lt_of_le a3 t.size,a4⟩),R.ai,R.b9⟩
 ·obtain ⟨o',e',k⟩:=t.keep L o (λz=>(hX L z).ne rfl) q1
  exact ⟨o',es,ep,e',(k.elim (λq=>q▸rfl) λ⟨_,sl,q⟩=>q▸rfl:o'.data=o.data).trans q2,q3⟩
 ·obtain ⟨o',e',k⟩:=t.nV (λz=>(hX b z).fr hb) (R.cW b hb).1 e
  exact ⟨o',e',k.data⟩
theorem Am.aA {c0:Cx}{S0:St}(E:Am fs c0 S0 L c S){h':Heap}{X:Addr→Prop}(l:Le c {c with h:=h'})(hX:∀b,X b→c0.h.objs.size≤b)(t:AS X (L::fP fs) c.h h'):Am fs c0 S0 L {c with h:=h'} S:=
 ⟨E.le.trans l,Nat.le_trans E.size t.size,λb o e hL hb=>(E.keep b o e hL hb).elim λo1 q=>q.elim λq1 q2=>(t.nV (λz=>Nat.not_le.mpr (Heap.lt_size e) (hX b z)) hL q1).elim λo2 q=>q.elim λq3 q4=>⟨o2,q3,q2.trans q4⟩,E.fresh,E.aP⟩
end
def Cs (e:Addr)(vs:Array Value)(b:Addr):Prop:=b=e∨vs[1]?=some (.ref b)
structure Bn (h h':Heap)(e:Addr)(oe mw:Obj)(vs vs':Array Value)(T:Addr)(mk:Value):Prop where
 aj:h'.get? e=some mw
 cls:mw.cls=oe.cls
 dict:mw.dict=oe.dict
 data:mw.data=.fields vs'
 tb:vs'[1]?=some (.ref T)
 ne:T≠e
 qk:h.objs.size≤T∨vs[1]?=some (.ref T)
 it:∃oT ts,h'.get? T=some oT∧oT.data=.fields ts∧ts[3]?=some mk
theorem jD (f:Array Value→Array Value)(o:Obj):(o.mapFields f).dict=o.dict:=by
 obtain ⟨c,d,dt,sl⟩:=o
 cases dt <;> rfl
theorem xm {ts:Array Value}{i:Nat}(h:i<ts.size)(v:Value):(ts.setIfInBounds i v)[i]?=some v:=by simp [h]
section
variable {M:Model} {A:Around} {E:Value→Shared→Prop} {s:Shared} {b9:Heap} {env:Env} {outer:List Env} {L e:Addr} {oe:Obj} {vs:Array Value} {Q:Unit→Shared→Prop}
abbrev Bw (s:Shared)(env:Env)(outer:List Env)(e:Addr)(oe:Obj)(vs:Array Value)(mk:Value)(Q:Unit→Shared→Prop):Prop:=
 ∀h' mw vs' T,AS (Cs e vs) (fP (env::outer)) s.heap h'→Bn s.heap h' e oe mw vs vs' T mk→Q () {s with heap:=h'}
theorem jE {head:Value}{ab0:Bool}(hfr:A.frames=some (env::outer))(hl:s.heap.FunFrames b9 (env::outer))(hf:env.frame=some L)(he:s.heap.get? e=some oe)(hd:oe.data=.fields vs)(hsz:1<vs.size)(h:Bw s env outer e oe vs (rawInt L) Q):
  wpAny M A (do let a ←frameOf env; let pl ←entryPlaceOf L ab0; let b ←EntryCells.newEntry head a .none (rawInt L) .none pl; setField (.ref e) 1 b) Q E s:=by
 have arN:e ∉ fP (env::outer):=λhm=>(hl.mem hm).elim λ_ q=>q.elim λo q=>q.elim λho hnf=>hnf vs (Option.some.inj (ho.symm.trans he)▸hd)
 refine wpAny_bind (wpAny_frameOf_fun hfr hl hf λh₁ wD=>wpAny_bind (wpAny_entryPlaceOf λpl hpl=>wpAny_bind (wpAny_newObj_type ?_ (hpl.sizeOk5 _ _ _ _ _))))
 have he₁:h₁.get? e=some oe:=(wD.2.1 e arN).trans he
 have he₂:=Heap.get?_push_of_some (h:=h₁) {cls:=.type "traceback",dict:=none,data:=.fields ([head,.ref L,.none,rawInt L,.none]++(if pl.isEmpty then List.replicate 6 Value.none else pl)).toArray} he₁
 refine wpAny_setField he₂ hd hsz ?_
 have hTe:h₁.objs.size≠e:=Nat.ne_of_gt (Heap.lt_size he₁)
 have alL:s.heap.objs.size≤h₁.objs.size:=Nat.le_of_eq wD.1.symm
 have keep:∀b o,b≠e→h₁.get? b=some o→((h₁.push {cls:=.type "traceback",dict:=none,data:=.fields ([head,.ref L,.none,rawInt L,.none]++(if pl.isEmpty then List.replicate 6 Value.none else pl)).toArray}).update e (Obj.mapFields (·.setIfInBounds 1 (Value.ref h₁.objs.size)))).get? b=some o:=λb o hbe hb=>
  (Heap.get?_update_other _ _ (Ne.symm hbe)).trans (Heap.get?_push_of_some _ hb)
 have hd₃:=Obj.data_mapFields hd (·.setIfInBounds 1 (Value.ref h₁.objs.size))
 refine h _ _ _ h₁.objs.size ⟨λb o hb e=>?_,Nat.le_trans alL (Nat.le_trans (Nat.le_of_lt (bl _ _)) (Nat.le_of_eq (gy _ _ _).symm))⟩ ⟨Heap.get?_update_self _ he₂ (Obj.isFreed_of_fields hd₃),Obj.cls_mapFields _ _,jD _ _,hd₃,xm hsz _,hTe,.inl alL,_,_,(Heap.get?_update_other _ _ (Ne.symm hTe)).trans (Heap.get?_push_size h₁ rfl),rfl,?_⟩
 ·by_cases hf:b∈fP (env::outer)
  ·obtain ⟨sl,hs⟩:=wD.2.2 b o e
   exact ⟨_,keep b _ (λz=>hb (.inl z)) hs,.inr ⟨hf,sl,rfl⟩⟩
  ·exact ⟨o,keep b o (λz=>hb (.inl z)) ((wD.2.1 b hf).trans e),.inl rfl⟩
 ·rcases hpl with rfl|⟨_,_,_,_,_,_,_,rfl⟩ <;> rfl
theorem lA {T:Addr}{oT:Obj}{ts:Array Value}(h:Heap)(he:h.get? e=some oe)(hd:oe.data=.fields vs)(h1:vs[1]?=some (.ref T))(hTe:T≠e)(hT:h.get? T=some oT)(xn:oT.data=.fields ts)(h3:3<ts.size)(x:Value)(fr:List Addr):
  AS (Cs e vs) fr h (h.update T (Obj.mapFields (·.setIfInBounds 3 x)))∧Bn h (h.update T (Obj.mapFields (·.setIfInBounds 3 x))) e oe oe vs vs T x:=
 have hd₃:=Obj.data_mapFields xn (·.setIfInBounds 3 x)
 ⟨⟨λb o hb e=>⟨o,(Heap.get?_update_other _ _ λz:T=b=>hb (.inr (z▸h1))).trans e,.inl rfl⟩,Nat.le_of_eq (gy _ _ _).symm⟩,
  (Heap.get?_update_other _ _ hTe).trans he,rfl,rfl,hd,h1,hTe,.inr h1,_,_,Heap.get?_update_self _ hT (Obj.isFreed_of_fields hd₃),hd₃,xm h3 _⟩
theorem tb3 {ts:Array Value}(h:ts[3]?=some .none∨ts[3]?=some (rawInt L)):3<ts.size:=h.elim (λh=>(Array.getElem?_eq_some_iff.mp h).1) λh=>(Array.getElem?_eq_some_iff.mp h).1
theorem xo (hfr:A.frames=some (env::outer))(hl:s.heap.FunFrames b9 (env::outer))(hf:env.frame=some L)(he:s.heap.get? e=some oe)(hd:oe.data=.fields vs)
  (ht:vs[1]?=some .none∨∃T,vs[1]?=some (.ref T)∧BQ s.heap L e T) (h:Bw s env outer e oe vs (rawInt L) Q):wpAny M A (noteFrame (.ref e) env) Q E s:=by
 unfold noteFrame
 rw [hf]
 rcases ht with h1|⟨T,h1,hTe,oT,ts,hT,xn,h3⟩
 ·exact wpAny_bind (wpAny_field he hd h1 (nH (by decide) (jE hfr hl hf he hd (Array.getElem?_eq_some_iff.mp h1).1 h)))
 refine wpAny_bind (wpAny_field he hd h1 (ify (by rfl) ?_))
 rcases h3 with h3|h3
 ·refine wpAny_bind (wpAny_field hT xn h3 (nH (by simp [rawInt]) (wpAny_bind (wpAny_setField hT xn (tb3 (L:=L) (.inl h3)) ?_))))
  have m:=lA s.heap he hd h1 hTe hT xn (tb3 (L:=L) (.inl h3)) .none (fP (env::outer))
  exact jE hfr (hl.of_keeps λb o hb hnf=>⟨o,(Heap.get?_update_other _ _ λz:T=b=>hnf ts (Option.some.inj ((z▸hT).symm.trans hb)▸xn)).trans hb,rfl⟩) hf m.2.aj hd (Array.getElem?_eq_some_iff.mp h1).1 λh' mw vs' T' t n=>
   h h' mw vs' T' (m.1.trans t) ⟨n.aj,n.cls,n.dict,n.data,n.tb,n.ne,n.qk.imp (Nat.le_trans m.1.size) id,n.it⟩
 ·exact wpAny_bind (wpAny_field hT xn h3 (ify (beq_self_eq_true _) (wpAny_pure (h s.heap oe vs T ⟨λb o _ e=>⟨o,e,.inl rfl⟩,Nat.le_refl _⟩ ⟨he,rfl,rfl,hd,h1,hTe,.inr h1,oT,ts,hT,xn,h3⟩))))
theorem xq {T oT ts}{x:Option Addr}(he:s.heap.get? e=some oe)(hd:oe.data=.fields vs)(h1:vs[1]?=some (.ref T))(hTe:T≠e)(hT:s.heap.get? T=some oT)(xn:oT.data=.fields ts)(h3:3<ts.size)(h:Bw s env outer e oe vs (x.elim Value.none λf=>rawInt f) Q):
  wpAny M A (setFlight (.ref e) x) Q E s:=
 have m:=lA s.heap he hd h1 hTe hT xn h3 (x.elim Value.none λf=>rawInt f) (fP (env::outer))
 wpAny_bind (wpAny_field he hd h1 (ify (by rfl) (wpAny_setField hT xn h3 (h _ oe vs T m.1 m.2))))
end
set_option backward.match.sparseCases false
inductive Fl where
 |next|brk|cont|ret (a:AV)
section
variable (p:Program) (w:World)
inductive AC (c:Cx):Fl→Flow→Prop
 |next:AC c .next .next
 |brk:AC c .brk .brk
 |cont:AC c .cont .cont
 |ret {a:AV} {v:Value}:VR p w c a v→AC c (.ret a) (.ret v)
end
def arO (a:AV)(S S1:St)(K:KE):Prop:=match a with
 |.fr x=>K (.fr x) (S.aq S1)
 |.own m k=>match Nat.blt m 100 with
  |true=>K (.own m k) (S.aq S1)
  |false=>jv (.own m k) S1 λx S2=>K (.fr x) (S.aq S2)
structure Cd (G:Ah)(a:Addr)(fd:FuncData)(body:List Stmt)(sc:Scope):Prop where
 aj:∃oc od osl,G.K.lookup a=some ⟨oc,od,.func fd,osl⟩
 body:fd.body=.stmts body
 gd:fd.scope=sc
 code:codeIn G.K fd.code fd.qualname=true
 kind:sc.kind=.function
 co:sc.isCoroutine=false
 gen:sc.isGenerator=false
 cells:∀x∈sc.names,x.2≠.cell
 glo:fd.globals=mainGlobals
 blt:fd.builtins=builtinsNs
 clo:fd.closure=[]
 args:d8 fd.params=true
 loc:∀x∈fd.params.args.map (·.arg),sc.names.lookup x=some .local
theorem nW {α:Type}{names:List Str}{vs ds:List α}{q:Str×α}(h:q∈dc names vs ds):q.1∈names:=by
 unfold dc at h
 obtain ⟨n,hn,e⟩:=List.mem_filterMap.mp h
 obtain ⟨v,_,rfl⟩:=Option.map_eq_some_iff.mp e
 exact hn
theorem Run.qx {G:Ah}{A:Around}{fs:List Env}{env:Env}{sc:Scope}{cl:List (Str×Addr)}{L:Addr}{n:Nat}{q:Bool}(r:Run G A fs env sc cl L n q){all:List Env}(ha:A.frames=some all):An fs all L:=
 (r.frames).elim λ_ q=>q.elim λh hz=>
 have e:=Option.some.inj (ha.symm.trans h)
 ⟨hz.imp e.trans λhz=>⟨env,e.trans hz.1,hz.2,by rw [r.env.gd,r.env.kind]; decide⟩⟩
theorem Run.deeper {G:Ah}{A:Around}{fs:List Env}{env:Env}{sc iw:Scope}{cl cl':List (Str×Addr)}{L L':Addr}{n:Nat}{q:Bool}(r:Run G A fs env sc cl L (n+1) q){all:List Env}(ha:A.frames=some all){eR:Env}(he:Bh eR iw cl' L')(hfm:eR.frame=some L'):
  Run G (A.deeper eR) all eR iw cl' L' n q:=
 ⟨r.ok,he,⟨eR::all,by show A.frames.map (eR :: ·)=_; rw [ha]; rfl,.inr ⟨rfl,hfm⟩⟩,by
  obtain ⟨a,b⟩:=r.kK
  refine ⟨?_,?_⟩
  ·show A.depth+1+n<recursionLimit; lia
  ·show A.units+3+8*n+8<cLine; lia,r.i5⟩
abbrev VE:=Expr→St→KE→KX→Prop
abbrev SubL:=AV→AV→St→KE→Prop
def Aw (L:SubL):Prop:=∀a b S K,L a b S K→cZ a b S K
abbrev Bf:=Expr→St→(Bool→St→Prop)→KX→Prop
section
variable {G:Ah} {PE:Addr×Nat} {A:Around} {fs:List Env} {cl:List (Str×Addr)} {L:Addr} {c:Cx} {S:St} {s:Shared} {env:Env} {sc:Scope} {n:Nat} {q:Bool} {vE:VE} {vt:Bf}
theorem xr (nm:Nat)(l r:Expr)(op:Operator)(pos:Pos)(hl:Ae (VR G.prog G.w) G PE A fs cl L (vE l) (eval l env))(hr:Ae (VR G.prog G.w) G PE A fs cl L (vE r) (eval r env)):
  Ae (VR G.prog G.w) G PE A fs cl L (λS K X=>vE l S (λa S1=>vE r S1 (λb S2=>aaV nm op a b S2 K) X) X) (eval (.BinOp l op r pos) env):=
 λ_ _ _ a _ _ _ _ v p x=>wpAny_BinOp (Ae.i6 (vo:=λa b S2 K _=>aaV nm op a b S2 K) (o:=binaryOp op) hl hr (λ_ _ _ _ _ _ _ aj r1 r2=>aaX nm op aj r1 r2) a v p x)
theorem ab1 (op:PySem.UnaryOp)(e:Expr)(pos:Pos)(he:Ae (VR G.prog G.w) G PE A fs cl L (vE e) (eval e env)):
  Ae (VR G.prog G.w) G PE A fs cl L (λS K X=>vE e S (λa S1=>vUn op a S1 K) X) (eval (.UnaryOp op e pos) env):=
 λ_ _ _ a _ _ _ _ v p x=>wpAny_UnaryOp (Ae.seq (vc':=λa S1 K _=>vUn op a S1 K) (k:=unaryOp op) he (λ_ _ _ _ _ aj r1=>ahk op aj r1) a v p x)
theorem xu (hu:A.units+2<cLine)(l r:Expr)(op:CmpOp)(pos:Pos)(hm:behindInMarks op r=false)(hl:Ae (VR G.prog G.w) G PE A fs cl L (vE l) (eval l env))(hr:Ae (VR G.prog G.w) G PE A fs cl L (vE r) (eval r env)):
  Ae (VR G.prog G.w) G PE A fs cl L (λS K X=>vE l S (λa S1=>vE r S1 (λb S2=>u' op a b S2 λt=>K (.fr (.bool t)) S2) X) X) (eval (.Compare l [op] [r] pos) env):=
 λ_ _ _ a _ _ _ _ v p x=>wpAny_Compare1 (Ae.i6 (vo:=λa b S2 K _=>u' op a b S2 λt=>K (.fr (.bool t)) S2) (o:=compareOp op) hl hr (λ_ _ _ _ _ _ _ aj r1 r2=>aaS hu op aj r1 r2) a v p x) hm
theorem xw {L0:SubL}(h0:Aw L0)(value ba:Expr)(pos:Pos)(hn:d7 ba=true)(hl:Ae (VR G.prog G.w) G PE A fs cl L (vE value) (eval value env))(hr:Ae (VR G.prog G.w) G PE A fs cl L (vE ba) (eval ba env)):
  Ae (VR G.prog G.w) G PE A fs cl L (λS K X=>vE value S (λa S1=>vE ba S1 (λb S2=>L0 a b S2 K) X) X) (eval (.Subscript value ba pos) env):=
 λ_ _ _ a _ _ _ _ v p x=>Subscript_ (Ae.i6 (vo:=λa b S2 K _=>L0 a b S2 K) (o:=subscriptTail value ba) hl hr (λ_ _ _ _ _ _ _ aj r1 r2=>λK X Q E h p x=>xg aj hn r1 r2 K X Q E (h0 _ _ _ _ h) p x) a v p x)
theorem vf {vc:Au}(r:Run G A fs env sc cl L (n+1) q)(hc:Ag G PE n q vc)(value:Expr)(bY:Str)(pos:Pos)(hn:gM value=true)(hl:Ae (VR G.prog G.w) G PE A fs cl L (vE value) (eval value env)):
  Ae (VR G.prog G.w) G PE A fs cl L (λS K X=>vE value S (λa S1=>xi G vc a bY S1 K) X) (eval (.Attribute value bY pos) env):=
 λ_ _ _ a _ _ _ _ v p x=>lw hn (Ae.seq (vc':=λa S1 K _=>xi G vc a bY S1 K) (k:=λo=>getAttr o bY true) hl (λ_ _ _ _ _ aj r1=>tJ r hc aj r1) a v p x)
theorem qy (t b o:Expr)(pos:Pos)(ht:Ae BR G PE A fs cl L (vt t) (isTrue t env (eval t env)))(hb:Ae (VR G.prog G.w) G PE A fs cl L (vE b) (eval b env))(ho:Ae (VR G.prog G.w) G PE A fs cl L (vE o) (eval o env)):
  Ae (VR G.prog G.w) G PE A fs cl L (λS K X=>vt t S (λr S1=>match r with|true=>vE b S1 K X|false=>vE o S1 K X) X) (eval (.IfExp t b o pos) env):=by
 intro c S s a K X Q E v p x
 refine wpAny_IfExp (ht c S s a _ X _ E v (λc1 r S1 r' aL k1 e1 R1 a8 q=>?_) x)
 cases q
 have p1:=p.ak a.aF R1 e1 a8 aL
 have x1:=x.ak a.aF R1 e1 a8 aL
 cases r with
 |true=>exact hb c1 S1 _ (a.ak R1 aL) K X Q E k1 p1 x1
 |false=>exact ho c1 S1 _ (a.ak R1 aL) K X Q E k1 p1 x1
end
abbrev KF:=Fl→St→Prop
abbrev Bo:=Stmt→St→KF→KX→Prop
def dD (vs:Bo):List Stmt→St→KF→KX→Prop
 | [],S,K,_=>K .next S
 |st::r,S,K,X=>vs st S (λf S1=>match f with
  |.next=>dD vs r S1 K X
  |f=>K f S1) X
section
variable {G:Ah} {PE:Addr×Nat} {A:Around} {fs:List Env} {cl:List (Str×Addr)} {L:Addr} {c:Cx} {S:St} {s:Shared} {env:Env} {sc:Scope} {n:Nat} {q:Bool} {vE:VE} {vt:Bf} {vs:Bo}
theorem my (l:List Stmt):(∀st,st∈l→Ae (AC G.prog G.w) G PE A fs cl L (vs st) (exec st env))→Ae (AC G.prog G.w) G PE A fs cl L (dD vs l) (execs l env):=by
 induction l with
 |nil=>exact λ_ c S s a K X Q E v p x=>wpAny_execs_nil (p.here a v .next)
 |cons st l ih=>
  intro h c S s a K X Q E v p x
  refine wpAny_execs_cons (h st (.head _) c S s a _ X _ E v (λc1 f S1 f' aL k1 e1 R1 a8 q=>?_) x)
  have p1:=p.ak a.aF R1 e1 a8 aL
  cases q with
  |next=>exact ih (λst' h'=>h st' (.tail _ h')) c1 S1 _ (a.ak R1 aL) K X Q E k1 p1 (x.ak a.aF R1 e1 a8 aL)
  |brk=>exact p1.here (a.ak R1 aL) k1 .brk
  |cont=>exact p1.here (a.ak R1 aL) k1 .cont
  |ret hv=>exact p1.here (a.ak R1 aL) k1 (.ret hv)
theorem nX (e:Expr)(pos:Pos)(he:Ae (VR G.prog G.w) G PE A fs cl L (vE e) (eval e env)):Ae (AC G.prog G.w) G PE A fs cl L (λS K X=>vE e S (λa S1=>K (.ret a) S1) X) (exec (.Return (some e) pos) env):=
 λc S s a K X Q E v p x=>wpAny_Return_some (he c S s a _ X _ E v (λc1 b S1 u aL k1 e1 R1 a8 q=>p c1 (.ret b) S1 (.ret u) aL k1 e1 R1 a8 (.ret q)) x)
theorem mz (pos:Pos):Ae (AC G.prog G.w) G PE A fs cl L (λS K _=>K (.ret (.fr .none)) S) (exec (.Return none pos) env):=
 λc S s a K X Q E v p x=>wpAny_Return_none (p.here a v (.ret (.fr .none)))
theorem vg (pos:Pos):Ae (AC G.prog G.w) G PE A fs cl L (λS K _=>K .next S) (exec (.Pass pos) env):=
 λc S s a K X Q E v p x=>wpAny_Pass (p.here a v .next)
theorem qz (pos:Pos):Ae (AC G.prog G.w) G PE A fs cl L (λS K _=>K .brk S) (exec (.Break pos) env):=
 λc S s a K X Q E v p x=>wpAny_Break (p.here a v .brk)
theorem ab2 (t:Expr)(b o:List Stmt)(pos:Pos)(ht:Ae BR G PE A fs cl L (vt t) (isTrue t env (eval t env)))(hb:Ae (AC G.prog G.w) G PE A fs cl L (dD vs b) (execs b env))(ho:Ae (AC G.prog G.w) G PE A fs cl L (dD vs o) (execs o env)):
  Ae (AC G.prog G.w) G PE A fs cl L (λS K X=>vt t S (λr S1=>match r with|true=>dD vs b S1 K X|false=>dD vs o S1 K X) X) (exec (.If t b o pos) env):=by
 intro c S s a K X Q E v p x
 refine wpAny_If (ht c S s a _ X _ E v (λc1 r S1 r' aL k1 e1 R1 a8 q=>?_) x)
 cases q
 have p1:=p.ak a.aF R1 e1 a8 aL
 have x1:=x.ak a.aF R1 e1 a8 aL
 cases r with
 |true=>exact hb c1 S1 _ (a.ak R1 aL) K X Q E k1 p1 x1
 |false=>exact ho c1 S1 _ (a.ak R1 aL) K X Q E k1 p1 x1
end
noncomputable def fJ:Expr→Bool
 |.ListComp _ _ _ _|.SetComp _ _ _ _|.DictComp _ _ _ _ _=>false
 |_=>true
theorem nY {e:Expr}(h:fJ e=true)(t:Option Expr)(n:Nat)(env:Env):swapsWith e t n env=pure false:=by
 cases e with
 |ListComp|SetComp|DictComp=>exact Bool.noConfusion h
 |_=>rfl
def fi (sc:Scope)(x:Str)(a:AV)(S:St)(K:St→Prop):Prop:=u5 (sc.names.lookup x) (K {S with loc:=cC x a S.loc}) False
 (bW (S.ai.lookup x) λp=>bW (S.get p.1) λr=>match r.2 with
  |.cell _=>p.2=r.1∧K (S.set p.1 (.cell (some a)))
  |_=>False)
section
variable {G:Ah} {PE:Addr×Nat} {A:Around} {fs:List Env} {cl:List (Str×Addr)} {L:Addr} {c:Cx} {S:St} {s:Shared} {env:Env} {sc:Scope} {n:Nat} {q:Bool} {vE:VE}
abbrev UR:Cx→Unit→Unit→Prop:=λ_ _ _=>True
theorem dz (r:Run G A fs env sc cl L n q)(x:Str){a:AV}{v:Value}(aj:At G fs cl L c S s)(ra:(VR G.prog G.w) c a v):Ap UR G PE A fs cl L c S s (λK _=>fi sc x a S (K ())) (storeName env x v):=by
 intro K X Q E h p _
 refine gF h (λhk h=>?_) (λ_ h=>h.elim) λhk h=>au h λm hc h=>au h λg hg h=>?_
 ·obtain ⟨us,n1,n2⟩:=aj.aF.loc
  refine wpAny_storeName_local (m:=zl (S.loc.map (·.1)) us) (show env.scope.names.lookup x=_ from r.env.gd▸hk) (r.env.loc▸aj.heap▸n1) (λh' hn sb=>?_) (by rw [r.env.gd,r.env.kind]; rfl)
  obtain ⟨ws,f,q⟩:=jr ra n2
  obtain ⟨R',E'⟩:=aj.aF.frame (loc:=cC x a S.loc) (h':=h') (aj.heap▸r.env.loc▸sb) λl=>⟨ws,(funext f:zl ((cC x a S.loc).map (·.1)) ws=_)▸r.env.loc▸hn,q.aw l⟩
  exact p _ () _ () _ h E' R' rfl trivial
 ·obtain ⟨m,k⟩:=m
  obtain ⟨j,o⟩:=g
  cases o with
  |cell y=>
   obtain ⟨u,⟨o,hu,hd⟩,_⟩:=aj.aF.d6 hg
   refine wpAny_storeName_cell (r.env.gd▸r.env.kind) (show env.scope.names.lookup x=_ from r.env.gd▸hk) (r.env.ai▸(show k=j from h.1)▸(aj.aF.ai x m k (ch hc)).1) (v₀:=u) ⟨o,aj.heap▸hu,hd⟩ λh' nQ sb=>?_
   obtain ⟨R',E'⟩:=aj.aF.set (o':=.cell (some a)) hg (h':=h') (aj.heap▸sb) λl=>⟨some v,nQ,ra.aw l⟩
   exact p _ () _ () s.toks h.2 E' R' (gC aj.aF.eW hg).2.ai trivial
  |_=>exact h.elim
end
section
variable {G:Ah} {PE:Addr×Nat} {A:Around} {fs:List Env} {cl:List (Str×Addr)} {L:Addr} {c:Cx} {S:St} {s:Shared} {env:Env} {sc:Scope} {n:Nat} {q:Bool} {vE:VE}
theorem i7 (r:Run G A fs env sc cl L n q):interactive env=false:=by
 unfold interactive
 rw [r.env.gd,r.env.kind]
 rfl
theorem vh (r:Run G A fs env sc cl L n q)(e:Expr)(pos:Pos)(hn:fJ e=true)(he:Ae (VR G.prog G.w) G PE A fs cl L (vE e) (eval e env)):
  Ae (AC G.prog G.w) G PE A fs cl L (λS K X=>vE e S (λ_ S1=>K .next S1) X) (exec (.Expr e pos) env):=by
 intro c S s a K X Q E v p xp
 exact wpAny_Expr_any (he c S s a _ X _ E v (λc1 b S1 u aL k1 e1 R1 a8 q=>p c1 .next S1 .next aL k1 e1 R1 a8 .next) xp) (i7 r) (nY hn _ _ _)
end
theorem dW {M:Model}{A:Around}{E:Value→Shared→Prop}{s:Shared}{env:Env}{f:Value}{pos:Pos}{es:List Expr}{Q:Args→Shared→Prop}(hs:es.all bn=true)
  (h:wpAny M A (spliced (backTo pos (starEach es env))) (λvs s'=>Q ⟨vs,[]⟩ s') E s):wpAny M A (evalArgs f true (backTo pos (starEach es env)) []) Q E s:=by
 cases es with
 |nil=>
  unfold evalArgs
  show wpAny M A (spliced [] >>= _) Q E s
  refine wpAny_bind (wpAny_mono h (λvs s' h'=>?_) λ_ _ x=>x)
  refine wpAny_bind (wpAny_pure ?_)
  refine wpAny_holding ?_
  exact wpAny_bind (wpAny_pure (wpAny_pure h'))
 |cons e r=>
  rw [List.all_cons,Bool.and_eq_true] at hs
  rw [dU hs.1] at h ⊢
  exact Calls.evalArgs_plain h
set_option backward.match.sparseCases true

set_option backward.match.sparseCases false
def ix (vE:VE)(op:PySem.BoolOp):List Expr→St→KE→KX→Prop
 | [],_,_,_=>False
 |e::r,S,K,X=>match r with
  | []=>vE e S K X
  |_::_=>vE e S (λa S1=>mq a S1 λb S2=>match op with
   |.And=>(match b with|true=>ix vE op r S2 K X|false=>K a S2)
   |.Or=>(match b with|true=>K a S2|false=>ix vE op r S2 K X)) X
abbrev VB:=String→List AV→St→KE→Prop
def ab3 (G:Ah)(vE:VE)(vc:Au)(vb xy:VB)(es:List Expr)(f:AV)(first:List AV)(S:St)(K:KE)(X:KX):Prop:=cV (es.all bn) <| gw f λx=>lb x λv=>match v with
 |.ref a=>cV (keepIn G.K (.ref a)) <| dC vE es S (λas S1=>vc (.fr (.lit v)) (first++as) S1 K X) X
 |.builtin id=>dC vE es S (λas S1=>vb id (first++as) S1 K) X
 |.type T=>dC vE es S (λas S1=>xy T (first++as) S1 K) X
 |_=>False
theorem eB {env:Env}{pos:Pos}{es:List Expr}:es.all bn=true→(backTo pos (starEach es env)).any (·.1)=false∧(backTo pos (starEach es env)).all (λx => !x.1)=true:=by
 induction es with
 |nil=>exact λ_=>⟨rfl,rfl⟩
 |cons e r ih=>
  intro h
  rw [List.all_cons] at h
  have h:=Bool.and_eq_true_iff.mp h
  rw [dU h.1]
  exact ih h.2
def Bp (G:Ah)(PE:Addr×Nat)(n:Nat)(q:Bool)(vb:VB):Prop:=
 ∀(A:Around) (fs:List Env) (env:Env) (sc:Scope) (cl:List (Str×Addr)) (L:Addr),Run G A fs env sc cl L n q→∀(id:String) (args:List AV) (vs:List Value) (c:Cx) (S:St) (s:Shared),At G fs cl L c S s→Al G.prog G.w c args vs→
  Ap (VR G.prog G.w) G PE A fs cl L c S s (λK _=>vb id args S K) (PySem.call (.builtin id) vs)
def Bq (G:Ah)(PE:Addr×Nat)(n:Nat)(q:Bool)(vb:VB):Prop:=
 ∀(A:Around) (fs:List Env) (env:Env) (sc:Scope) (cl:List (Str×Addr)) (L:Addr),Run G A fs env sc cl L n q→∀(id:String) (args:List AV) (vs:List Value) (c:Cx) (S:St) (s:Shared),At G fs cl L c S s→Al G.prog G.w c args vs→
  Ap (VR G.prog G.w) G PE A fs cl L c S s (λK _=>vb id args S K) (PySem.call (.type id) vs)
section
variable {G:Ah} {PE:Addr×Nat} {A:Around} {fs:List Env} {cl:List (Str×Addr)} {L:Addr} {c:Cx} {S:St} {s:Shared} {env:Env} {sc:Scope} {n:Nat} {q:Bool} {vE:VE} {vc:Au} {vb xy:VB}
theorem qA (op:PySem.BoolOp)(pos:Pos)(es:List Expr):(∀e,e∈es→Ae (VR G.prog G.w) G PE A fs cl L (vE e) (eval e env))→Ae (VR G.prog G.w) G PE A fs cl L (ix vE op es) (eval (.BoolOp op es pos) env):=by
 induction es with
 |nil=>exact λ_ _ _ _ _ _ _ _ _ v _ _=>v.elim
 |cons e r ih=>
  intro h
  cases r with
  |nil=>exact λc S s a K X Q E v p x=>BoolOp_one (h e (.head _) c S s a K X Q E v p x)
  |cons e2 r=>
   have ih:=ih λe' h'=>h e' (.tail _ h')
   intro c S s a K X Q E v p x
   have step:∀(R:Value→Bool→Shared→Prop),(∀c2 S2 bG a1 b1 b,(match op with
    |.And=>(match b with|true=>ix vE op (e2::r) S2 K X|false=>K a1 S2)
    |.Or=>(match b with|true=>K a1 S2|false=>ix vE op (e2::r) S2 K X))→(VR G.prog G.w) c2 a1 b1→Ad G.prog G.w G.h0 fs cl c2 L S2→Am fs c S L c2 S2→S2.ai=S.ai→R b1 b {s with heap:=c2.h,toks:=bG})→
    wpAny (model G.prog G.w) A (eval e env) (λv s₁=>wpAny (model G.prog G.w) A (truthy v) (λc s₂=>R v c s₂) E s₁) E s:=λR hR=>
    h e (.head _) c S s a _ X _ E v (λc1 a1 S1 b1 aL k1 e1 R1 a8 r1=>ls (PE:=PE) (a.ak R1 aL) r1 _ X _ E k1 (λc2 b S2 b' bG k2 e2' R2 cj r2=>
     hR c2 S2 bG a1 b1 b' (r2▸k2) (r1.aw e2'.le) R2 (e1.trans a.aF.kn R1.kn e2') (cj.trans a8)) (x.ak a.aF R1 e1 a8 aL)) x
   cases op with
   |And=>
    refine BoolOp_and (step (λv c s₂=>if c then wpAny (model G.prog G.w) A (eval (.BoolOp .And (e2::r) pos) env) Q E s₂ else Q v s₂) λc2 S2 bG a1 b1 b k2 r2 R2 E2 g2=>?_)
    cases b with
    |true=>exact ih c2 S2 _ (a.ak R2 bG) K X Q E k2 (p.ak a.aF R2 E2 g2 bG) (x.ak a.aF R2 E2 g2 bG)
    |false=>exact p c2 a1 S2 b1 bG k2 E2 R2 g2 r2
   |Or=>
    refine BoolOp_or (step (λv c s₂=>if c then Q v s₂ else wpAny (model G.prog G.w) A (eval (.BoolOp .Or (e2::r) pos) env) Q E s₂) λc2 S2 bG a1 b1 b k2 r2 R2 E2 g2=>?_)
    cases b with
    |true=>exact p c2 a1 S2 b1 bG k2 E2 R2 g2 r2
    |false=>exact ih c2 S2 _ (a.ak R2 bG) K X Q E k2 (p.ak a.aF R2 E2 g2 bG) (x.ak a.aF R2 E2 g2 bG)
theorem tM (r:Run G A fs env sc cl L (n+1) q)(hc:Ag G PE n q vc)(hb:Bp G PE n q vb)(ht:Bq G PE n q xy)(pos:Pos)(es:List Expr)(he:∀e,e∈es→Ae (VR G.prog G.w) G PE A fs cl L (vE e) (eval e env))
  {f:AV} {v:Value} {first:List AV} {fv:List Value} (a:At G fs cl L c S s) (rf:(VR G.prog G.w) c f v) (rs:Al G.prog G.w c first fv):
  Ap (VR G.prog G.w) G PE A fs cl L c S s (ab3 G vE vc vb xy es f first S) (callWith pos v fv (backTo pos (starEach es env)) []):=by
 intro K X Q E k p x
 refine aG k λhs k=>aZ (P:=λf=>VR G.prog G.w c f v→_) k (λy k rf=>d5 (P:=λy=>VR G.prog G.w c (.fr y) v→_) k (λu k rf=>rf.dg (P:=λv=>wpAny (model G.prog G.w) A (callWith pos v fv (backTo pos (starEach es env)) []) Q E s) ?_) rf) rf
 obtain ⟨s1,s2⟩:=eB (env:=env) (pos:=pos) hs
 have args:∀{kk:List AV→St→Prop} {QQ:Args→Shared→Prop} v,dC vE es S kk X→(∀c2 as S2 vs bG,kk as S2→Am fs c S L c2 S2→Ad G.prog G.w G.h0 fs cl c2 L S2→S2.ai=S.ai→Al G.prog G.w c2 (first++as) (fv++vs)→QQ ⟨vs,[]⟩ {s with heap:=c2.h,toks:=bG})→
   wpAny (model G.prog G.w) A (evalArgs v true (backTo pos (starEach es env)) []) QQ E s:=λv k h=>
  dW hs (eZ es (λe h'=>⟨List.all_eq_true.mp hs e h',he e h'⟩) c S s a _ X _ E k (λc2 as S2 vs bG k2 e2 R2 cj r2=>h c2 as S2 vs bG k2 e2 R2 cj ((rs.aw e2.le).append r2.1)) x)
 cases u with
 |ref fa=>exact aG k λhk k=>callWith_of (P:=λh=>G.K.In h) (by rw [s1]; rfl) (keeps_K hk) (args _ k λc2 as S2 vs bG k2 e2 R2 cj r2=>⟨R2.nD r.ok rfl,hc.call r.less (a.ak R2 bG) (.fr (.lit _)) r2 K X Q E k2 (p.ak a.aF R2 e2 cj bG) (x.ak a.aF R2 e2 cj bG)⟩)
 |builtin id=>exact Calls.callWith_builtin s1 (args _ k λc2 as S2 vs bG k2 e2 R2 cj r2=>hb A fs env sc cl L r.less id _ _ c2 S2 _ (a.ak R2 bG) r2 K X Q E k2 (p.ak a.aF R2 e2 cj bG) (x.ak a.aF R2 e2 cj bG))
 |type T=>exact PySem.callWith_type s1 (args _ k λc2 as S2 vs bG k2 e2 R2 cj r2=>ht A fs env sc cl L r.less T _ _ c2 S2 _ (a.ak R2 bG) r2 K X Q E k2 (p.ak a.aF R2 e2 cj bG) (x.ak a.aF R2 e2 cj bG))
 |_=>exact k.elim
theorem qB (r:Run G A fs env sc cl L (n+1) q)(hc:Ag G PE n q vc)(hb:Bp G PE n q vb)(ht:Bq G PE n q xy)(x:Str)(np pos:Pos)(es:List Expr)(hn:Ae (VR G.prog G.w) G PE A fs cl L (vE (.Name x np)) (eval (.Name x np) env))(he:∀e,e∈es→Ae (VR G.prog G.w) G PE A fs cl L (vE e) (eval e env)):
  Ae (VR G.prog G.w) G PE A fs cl L (λS K X=>vE (.Name x np) S (λf S1=>ab3 G vE vc vb xy es f [] S1 K X) X) (eval (.Call (.Name x np) es [] pos) env):=by
 intro c S s a K X Q E v p xp
 refine wpAny_Call_ofName (hn c S s a _ X _ E v (λc1 f S1 u aL k1 e1 R1 a8 q=>?_) xp)
 exact tM r hc hb ht pos es he (a.ak R1 aL) q .nil K X Q E k1 (p.ak a.aF R1 e1 a8 aL) (xp.ak a.aF R1 e1 a8 aL)
noncomputable def lmL (name:Str):Option String:=match name==Str.ofString "append" with
 |true=>some "list.append"
 |false=>match name==Str.ofString "extend" with
  |true=>some "list.extend"
  |false=>match name==Str.ofString "pop" with
   |true=>some "list.pop"
   |false=>none
noncomputable def lmD (name:Str):Option String:=match name==Str.ofString "get" with
 |true=>some "dict.get"
 |false=>none
def alM (T:Nat)(name:Str):Option String:=match T with
 |0=>lmL name
 |_+1=>lmD name
noncomputable def ahn:FV→Option Nat
 |.fl _=>some 0
 |.ds _=>some 1
 |.db _=>some 1
 |_=>none
noncomputable def xz:AO→Option Nat
 |.list _=>some 0
 |.a9 _=>some 0
 |.dict _=>some 1
 |_=>none
def xA (S:St):AV→Option Nat
 |.fr x=>ahn x
 |.own m _=>(S.get m).bind λr=>xz r.2
def xB (S:St)(ov:AV)(K:Prop):Prop:=match ov with
 |.own m k=>bW (S.get m) λr=>k=r.1∧K
 |.fr _=>K
def xC (G:Ah)(name:Str)(ov:AV)(S:St)(K:AV→List AV→Prop):Prop:=match xA S ov with
 |some T=>bW (alM T name) λid=>xB S ov (K (.fr (.lit (.builtin id))) [ov])
 |none=>jA S ov λC l=>bW (iR C G.cls) λci=>bW (ci.wT.lookup name) λf=>match l.lookup name with
  |none=>K (.fr (.lit (.ref f))) [ov]
  |some _=>False
end
noncomputable def nZ {α:Type}:List α→Option (List α×α)
 | []=>none
 |a::r=>match nZ r with
  |none=>some ([],a)
  |some p=>some (a::p.1,p.2)
theorem vi {α:Type}{l:List α}(h:nZ l=none):l=[]:=by
 cases l with
 |nil=>rfl
 |cons a r=>
  have h:(match nZ r with|none=>some ([],a)|some p=>some (a::p.1,p.2))=none:=h
  revert h
  cases nZ r <;> exact λh=>sN h
theorem vj {α:Type}{l:List α}:∀{p:List α×α},nZ l=some p→l=p.1++[p.2]:=by
 induction l with
 |nil=>exact λh=>nS h
 |cons b r ih=>
  intro p h
  have h:(match nZ r with|none=>some ([],b)|some p=>some (b::p.1,p.2))=some p:=h
  cases e:nZ r with
  |none=>
   rw [e] at h
   have e:=vi e
   subst e
   exact Option.some.inj h▸rfl
  |some q=>rw [e] at h; exact Option.some.inj h▸congrArg _ (ih e)
noncomputable def klO (ks:List (Nat×Nat)):AO:=match ks with
 | []=>.list []
 |k::r=>.a9 (k::r)
theorem xD {p:Program}{w:World}{c:Cx}{ks:List (Nat×Nat)}{a:Addr}{n:Nat}(e:c.h.get? a=some (listOf (ks.map λk=>Value.ref (c.ρ k.2)).toArray n))(h:∀k,k∈ks→k.2<c.n):OR p w c (klO ks) a:=by
 cases ks with
 |nil=>exact ⟨[],n,e,.nil⟩
 |cons=>exact ⟨n,e,h⟩
noncomputable def adK (xs:List FV)(x:AV):Option (Nat×Nat):=match x with
 |.own m k=>match xs with
  | []=>cond (Nat.blt m 90) (some (m,k)) none
  |_::_=>none
 |.fr _=>none
theorem xE {xs:List FV}{x:AV}{p:Nat×Nat}(h:adK xs x=some p):xs=[]∧x=.own p.1 p.2:=by
 cases x with
 |fr=>exact nS h
 |own m k=>cases xs with
  |cons=>exact nS h
  |nil=>
   have h:cond (Nat.blt m 90) (some (m,k)) none=some p:=h
   cases q:Nat.blt m 90 with
   |false=>rw [q] at h; exact nS h
   |true=>rw [q] at h; exact ⟨rfl,Option.some.inj h▸rfl⟩
def n4 {α:Type}(o:Option α)(n:Prop)(f:α→Prop):Prop:=match o with
 |some y=>f y
 |none=>n
theorem n5 {α:Type}{o:Option α}{n:Prop}{f:α→Prop}{Z:Prop}(h:n4 o n f)(kn:o=none→n→Z)(ks:∀y,o=some y→f y→Z):Z:=by
 cases o with
 |some y=>exact ks y rfl h
 |none=>exact kn rfl h
def n6 (l x:AV)(S:St)(K:KE):Prop:=u7 l S λm k o=>match o with
 |.list xs=>n4 (adK xs x) (jv x S λy S1=>bW (S1.get m) λr=>gc r.2 λys=>k=r.1∧ys.length≤1000000∧K (.fr .none) (S1.set m (.list (ys++[y])))) λp=>K (.fr .none) (S.set m (.a9 [p]))
 |.a9 ks=>onO x λmx kx=>ks.length≤1000000∧K (.fr .none) (S.set m (.a9 (ks++[(mx,kx)])))
 |_=>False
def adL (l:AV)(S:St)(K:KE):Prop:=u7 l S λm _ o=>match o with
 |.list xs=>xs.length≤1000000∧∃ys y,xs=ys++[y]∧K (.fr y) (S.set m (.list ys))
 |.a9 ks=>ks.length≤1000000∧bW (nZ ks) λp=>K (.own p.2.1 p.2.2) (S.set m (klO p.1))
 |_=>False
noncomputable def n8 {α:Type}:List α→Nat→Option (List α×α)
 | [],_=>none
 |a::r,n=>match n with
  |0=>some (r,a)
  |n+1=>match n8 r n with
   |some p=>some (a::p.1,p.2)
   |none=>none
theorem qC {α:Type}{l:List α}:∀{n:Nat} {i:List α×α},n8 l n=some i→∃p r,l=p++i.2::r∧i.1=p++r∧p.length=n:=by
 induction l with
 |nil=>exact λh=>nS h
 |cons b r ih=>
  intro n i h
  cases n with
  |zero=>have h:=Option.some.inj h; subst h; exact ⟨[],r,rfl,rfl,rfl⟩
  |succ n=>
   have h:(match n8 r n with|some p=>some (b::p.1,p.2)|none=>none)=some i:=h
   cases e:n8 r n with
   |none=>rw [e] at h; exact nS h
   |some q=>
    rw [e] at h
    obtain ⟨p,s,e1,e2,e3⟩:=ih e
    exact Option.some.inj h▸⟨b::p,s,congrArg _ e1,congrArg _ e2,congrArg Nat.succ e3⟩
def tN (l i:AV)(S:St)(K:KE):Prop:=u7 l S λm _ o=>alI o λks=>ks.length≤1000000∧gw i λy=>gA y λj=>match j with
 |.ofNat j=>bW (n8 ks j) λp=>K (.own p.2.1 p.2.2) (S.set m (klO p.1))
 |_=>False
def iy (S:St)(a:AV)(P:List FV→Prop):Prop:=match a with
 |.fr x=>match x with
  |.az xs=>P xs
  |.fl xs=>P xs
  |_=>False
 |.own m k=>dB S (.own m k) P
def n9 (l x:AV)(S:St)(K:KE):Prop:=u7 l S λm _ o=>gc o λxs=>iy S x λys=>xs.length+ys.length≤1000000∧K (.fr .none) (S.set m (.list (xs++ys)))
def adM (d k x:AV)(S:St)(K:KE):Prop:=gw d λd=>gw k λy=>match d with
 |.db fs=>adF y λb=>n4 (fs.lookup b.toList) (K x S) λy=>K (.fr y) S
 |.ds fs=>onStr y λw=>n4 (fs.lookup w) (K x S) λy=>K (.fr y) S
 |_=>False
section
variable {G:Ah} {PE:Addr×Nat} {A:Around} {fs:List Env} {cl:List (Str×Addr)} {L:Addr} {c:Cx} {S:St} {s:Shared} {env:Env} {sc:Scope} {n:Nat} {q:Bool}
theorem dj {α β:Type}{gg:Cx→α→β→Prop}(aj:At G fs cl L c S s){m k:Nat}{o o':AO}(e:S.get m=some (k,o)){h':Heap}(hs:Heap.SameBut (c.ρ k) s.heap h')(ho:Le c {c with h:=h'}→OR G.prog G.w {c with h:=h'} o' (c.ρ k))
  {K:α→St→Prop} {Q:β→Shared→Prop} {a:α} {b:β} (k1:K a (S.set m o')) (p:Ak gg G fs cl L c S s K Q) (r:∀c',Le c c'→gg c' a b) (tk:Nat):Q b {s with heap:=h',toks:=tk}:=by
 obtain ⟨R',E'⟩:=aj.aF.set (o':=o') e (h':=h') (aj.heap▸hs) ho
 exact p _ a _ b tk k1 E' R' (gC (o:=o') aj.aF.eW e).2.ai (r _ E'.le)
theorem fK {h:Heap}{l:Addr}{vs:List Value}{n:Nat}(e:h.get? l=some (listOf vs.toArray n)){f:Array Value→Array Value}{ws:List Value}(hf:f vs.toArray=ws.toArray):∃n',(h.update l (Obj.mapSeq f)).get? l=some (listOf ws.toArray n'):=by
 have q:=PySem.IsL.update e f
 rw [hf] at q
 exact ⟨_,q⟩
theorem xF {p:Program}{w:World}{c c':Cx}(lc:Le c c'){m k:Nat}(h:k<c.n):VR p w c' (.own m k) (.ref (c.ρ k)):=lc.ρ k h▸.own m k (Nat.lt_of_lt_of_le h lc.n)
theorem qD {l x:AV}{v u:Value}(aj:At G fs cl L c S s)(rl:VR G.prog G.w c l v)(rx:VR G.prog G.w c x u):Ap (VR G.prog G.w) G PE A fs cl L c S s (λK _=>n6 l x S K) (PySem.call (.builtin "list.append") [v,u]):=by
 intro K X Q E h p _
 refine gG (Z:=λv=>wpAny (model G.prog G.w) A (PySem.call (.builtin "list.append") [v,u]) Q E s) h rl aj.aF λm k o e g h=>?_
 cases o with
 |list xs=>
  refine n5 h (λ_ h=>cN h rx aj.aF λc1 y S1 h1 r1 R1 E1 hh g1=>au h1 λq e' h1=>cD (P:=λo=>S1.get m=some (q.1,o)→_) h1 (λys h1 e'=>?_) e') λpr hk h2=>?_
  ·have e':S1.get m=some (k,.list ys):=h1.1▸e'
   have at1:=aj.same R1 hh
   obtain ⟨vs,n,e1,e2⟩:=R1.d6 e'
   rw [←E1.le.ρ _ (aj.aF.kn _ _ _ (get_mem e))]
   refine wpAny_list_append_plain (items:=vs.toArray) ⟨n,at1.heap▸e1⟩ (λh' hl hs=>?_) (sz (show vs.length≤4000000 from e2.len▸Nat.le_trans h1.2.1 (by decide)))
   obtain ⟨n',hl⟩:=hl
   exact dj (o':=.list (ys++[y])) at1 e' hs (λlc=>⟨vs++[u],n',hl.trans (by rw [List.push_toArray]),(e2.aw lc).append (.cons (r1.aw lc) .nil)⟩) h1.2.2 (p.same aj R1 E1 g1 hh) (λ_ _=>.fr .none) s.toks
  ·obtain ⟨rfl,rfl⟩:=xE hk
   obtain ⟨rfl,hx⟩:=rx.bc
   obtain ⟨vs,n,e1,e2⟩:=g
   refine e2.el (P:=λvs=>c.h.get? (c.ρ k)=some (listOf vs.toArray n)→_) (λe1=>?_) e1
   refine wpAny_list_append_plain ⟨n,aj.heap▸e1⟩ (λh' hl hs=>?_) (sz (by decide))
   obtain ⟨n',hl⟩:=hl
   exact dj (o':=.a9 [pr]) aj e hs (λlc=>⟨n',hl,λk hk=>List.mem_singleton.mp hk▸hx⟩) h2 p (λ_ _=>.fr .none) s.toks
 |a9 ks=>
  refine js (P:=λx=>VR G.prog G.w c x u→_) h (λmx kx h rx=>?_) rx
  obtain ⟨rfl,hx⟩:=rx.bc
  obtain ⟨n,e1,e2⟩:=g
  refine wpAny_list_append_plain (items:=(ks.map λk=>Value.ref (c.ρ k.2)).toArray) ⟨n,aj.heap▸e1⟩ (λh' hl hs=>?_) (sz (show (ks.map λk=>Value.ref (c.ρ k.2)).length≤4000000 by rw [List.length_map]; exact Nat.le_trans h.1 (by decide)))
  obtain ⟨n',hl⟩:=hl
  exact dj (o':=.a9 (ks++[(mx,kx)])) aj e hs (λlc=>⟨n',hl.trans (by rw [List.push_toArray,List.map_append]; rfl),λk hk=>(List.mem_append.mp hk).elim (e2 k) λhk=>List.mem_singleton.mp hk▸hx⟩) h.2 p (λ_ _=>.fr .none) s.toks
 |_=>exact h.elim
theorem og {D:Addr}{p:List Value}{y:Value}{n:Nat}{Q E:Value→Shared→Prop}(z:s.heap.get? D=some (listOf (p++[y]).toArray n))(hz:p.length≤1000000)(h:∀h' n',Heap.SameBut D s.heap h'→h'.get? D=some (listOf p.toArray n')→Q y {s with heap:=h',toks:=s.toks}):wpAny (model G.prog G.w) A (PySem.call (.builtin "list.pop") [.ref D]) Q E s:=by
 have hk:(p++[y]).toArray.size-1=p.length:=by rw [List.size_toArray,List.length_append]; rfl
 have hy:(p++[y]).toArray[(p++[y]).toArray.size-1]?=some y:=by rw [hk,List.getElem?_toArray,List.getElem?_append_right (Nat.le_refl _),Nat.sub_self]; rfl
 obtain ⟨n',hl⟩:=fK z (ws:=p) (f:=λxs=>xs.eraseIdxIfInBounds ((p++[y]).toArray.size-1)) (show (p++[y]).toArray.eraseIdxIfInBounds ((p++[y]).toArray.size-1)=p.toArray by rw [hk,kl_erase,List.append_nil])
 exact call_meets PySem.F.slot_list_pop ⟨_,z,rfl⟩ PySem.F.entry_list_pop (PySem.F.args_list_pop_1 _) (PySem.MeetsSeq.list_pop_last D _ n y hy (sz (by rw [List.size_toArray,List.length_append]; exact Nat.le_trans (Nat.succ_le_succ hz) (by decide)))) ⟨z,h _ n' (Heap.SameBut.update ..) hl⟩
theorem ab4 {l:AV}{v:Value}(aj:At G fs cl L c S s)(rl:VR G.prog G.w c l v):Ap (VR G.prog G.w) G PE A fs cl L c S s (λK _=>adL l S K) (PySem.call (.builtin "list.pop") [v]):=by
 intro K X Q E h p _
 refine gG (Z:=λv=>wpAny (model G.prog G.w) A (PySem.call (.builtin "list.pop") [v]) Q E s) h rl aj.aF λm k o e g h=>?_
 cases o with
 |list xs=>
  obtain ⟨hz,ys,y,rfl,h⟩:=h
  obtain ⟨vs,n,e1,e2⟩:=g
  obtain ⟨v1,v2,rfl,r1,r2⟩:=e2.split
  refine r2.el (P:=λv2=>c.h.get? (c.ρ k)=some (listOf (v1++v2).toArray n)→_) (λu us r2 r3=>r3.el (P:=λus=>c.h.get? (c.ρ k)=some (listOf (v1++u::us).toArray n)→_) λe1=>?_) e1
  exact og (aj.heap▸e1) (r1.len▸Nat.le_trans (List.length_append▸Nat.le_add_right _ _) hz) λh' n' hs hl=>dj (o':=.list ys) aj e hs (λlc=>⟨v1,n',hl,r1.aw lc⟩) h p (λ_ lc=>.fr (r2.aw lc)) s.toks
 |a9 ks=>
  refine au h.2 λq hp h2=>?_
  obtain ⟨n,e1,e2⟩:=g
  have hp:=vj hp
  subst hp
  rw [List.map_append,List.map_cons,List.map_nil] at e1
  exact og (aj.heap▸e1) (by rw [List.length_map]; exact Nat.le_trans (List.length_append▸Nat.le_add_right _ _) h.1) λh' n' hs hl=>dj (o':=klO q.1) aj e hs (λlc=>xD hl λk hk=>e2 k (List.mem_append_left _ hk)) h2 p (λc' lc=>xF lc (e2 q.2 (List.mem_append_right _ (.head _)))) s.toks
 |_=>exact h.elim
theorem vm {l i:AV}{v u:Value}(aj:At G fs cl L c S s)(rl:VR G.prog G.w c l v)(ri:VR G.prog G.w c i u):Ap (VR G.prog G.w) G PE A fs cl L c S s (λK _=>tN l i S K) (PySem.call (.builtin "list.pop") [v,u]):=by
 intro K X Q E h p _
 refine gG (Z:=λv=>wpAny (model G.prog G.w) A (PySem.call (.builtin "list.pop") [v,u]) Q E s) h rl aj.aF λm k o e g h=>aaN (P:=λo=>S.get m=some (k,o)→OR G.prog G.w c o (c.ρ k)→_) h (λks h e g=>?_) e g
 refine aZ (P:=λi=>VR G.prog G.w c i u→_) h.2 (λy h2 ri=>d4 (P:=λy=>VR G.prog G.w c (.fr y) u→_) h2 (λj h2 ri=>ri.dg (P:=λu=>wpAny (model G.prog G.w) A (PySem.call (.builtin "list.pop") [.ref (c.ρ k),u]) Q E s) λt=>?_) ri) ri
 cases j with
 |negSucc=>exact h2.elim
 |ofNat j=>
  refine au h2 λq hp h3=>?_
  obtain ⟨p1,r1,e3,e4,e5⟩:=qC hp
  obtain ⟨n,e1,e2⟩:=g
  subst e3 e5
  have z:s.heap.get? (c.ρ k)=some (listOf (p1.map (λk=>Value.ref (c.ρ k.2))++Value.ref (c.ρ q.2.2)::r1.map (λk=>Value.ref (c.ρ k.2))).toArray n):=by rw [←aj.heap,e1,List.map_append]; rfl
  have hz:p1.length+(r1.length+1)≤1000000:=(List.length_append (as:=p1) (bs:=q.2::r1))▸h.1
  obtain ⟨n',hl⟩:=fK z (f:=λxs=>xs.eraseIdxIfInBounds p1.length) (ws:=q.1.map λk=>Value.ref (c.ρ k.2)) (by
   have:=kl_erase (p1.map λk=>Value.ref (c.ρ k.2)) (r1.map λk=>Value.ref (c.ρ k.2)) (Value.ref (c.ρ q.2.2))
   rw [List.length_map] at this
   rw [this,e4,List.map_append])
  refine call_meets PySem.F.slot_list_pop ⟨_,z,rfl⟩ PySem.F.entry_list_pop (PySem.F.args_list_pop_2 _ _) (PySem.MeetsSeq.list_pop_at _ _ n _ t p1.length (Value.ref (c.ρ q.2.2)) ?_ ?_ ?_ ?_) ⟨z,?_⟩
  ·unfold Builtin.List.listFitsIndex
   simp
   lia
  ·exact jx (Int.natCast_nonneg _) (by simp)
  ·simp
  ·exact sz (by rw [List.size_toArray,List.length_append,List.length_map,List.length_cons,List.length_map]; exact Nat.le_trans hz (by decide))
  ·exact dj (o':=klO q.1) aj e (Heap.SameBut.update ..) (λlc=>xD hl λk hk=>e2 k ((List.mem_append.mp (e4▸hk)).elim (λh=>List.mem_append_left _ h) λh=>List.mem_append_right _ (.tail _ h))) h3 p (λc' lc=>xF lc (e2 q.2 (List.mem_append_right _ (.head _)))) s.toks
theorem dP {a:AV}{P:List FV→Prop}{v:Value}(h:iy S a P)(r:VR G.prog G.w c a v)(aj:At G fs cl L c S s){Z:Value→Prop}
  (z:∀xs l vs n T,(T = "list" ∨ T = "tuple")→s.heap.get? l=some {cls:=.type T,data:=.seq (List.toArray vs) n}→Aj G.prog G.w c xs vs→P xs→Z (.ref l)):Z v:=by
 have lst:∀{v xs},AW G.prog G.w c v xs→P xs→Z v:=λl h=>by
  cases l with
  |mk e q=>exact z _ _ _ _ "list" (.inl rfl) (aj.heap▸e) q h
 cases a with
 |own m k=>exact bP (show dB S (.own m k) P from h) r aj.aF λxs l h=>lst l h
 |fr x=>cases x with
  |az xs=>exact r.dg (P:=Z) λvs a n _ e q=>z _ _ _ _ "tuple" (.inr rfl) (aj.heap▸e) q h
  |fl xs=>exact lst (.of r.cU) h
  |_=>exact h.elim
theorem qE {l x:AV}{v u:Value}(aj:At G fs cl L c S s)(rl:VR G.prog G.w c l v)(rx:VR G.prog G.w c x u):Ap (VR G.prog G.w) G PE A fs cl L c S s (λK _=>n9 l x S K) (PySem.call (.builtin "list.extend") [v,u]):=by
 intro K X Q E h p _
 refine gG (Z:=λv=>wpAny (model G.prog G.w) A (PySem.call (.builtin "list.extend") [v,u]) Q E s) h rl aj.aF λm k o e g h=>cD (P:=λo=>S.get m=some (k,o)→OR G.prog G.w c o (c.ρ k)→_) h (λxs h e g=>?_) e g
 refine dP h rx aj (Z:=λu=>wpAny (model G.prog G.w) A (PySem.call (.builtin "list.extend") [.ref (c.ρ k),u]) Q E s) λys l2 ws n2 T hT e2 r2 h=>?_
 obtain ⟨vs,n,e1,r1⟩:=g
 have e1:=aj.heap▸e1
 have hz:vs.toArray.size+ws.toArray.size≤1000000:=by rw [List.size_toArray,List.size_toArray,←r1.len,←r2.len]; exact h.1
 have hs:=sz (Nat.le_trans hz (by decide))
 have alN:¬(!vs.toArray.isEmpty&&Builtin.List.listTooLong (vs.toArray.size+ws.toArray.size))=true:=by
  rw [show Builtin.List.listTooLong (vs.toArray.size+ws.toArray.size)=false by unfold Builtin.List.listTooLong; have:=sizeLine_eq; simp at hz ⊢; lia,Bool.and_false]; decide
 have dJ:Q .none {s with heap:=s.heap.update (c.ρ k) (Obj.mapSeq λx=>x++ws.toArray),toks:=s.toks}:=by
  obtain ⟨n',hl⟩:=fK e1 (f:=λx=>x++ws.toArray) (ws:=vs++ws) (List.append_toArray ..)
  exact dj (o':=.list (xs++ys)) aj e (Heap.SameBut.update ..) (λlc=>⟨vs++ws,n',hl,(r1.aw lc).append (r2.aw lc)⟩) h.2 p (λ_ _=>.fr .none) s.toks
 rcases hT with rfl|rfl
 ·exact call_meets PySem.F.slot_list_extend ⟨_,e1,rfl⟩ PySem.F.entry_list_extend (PySem.F.args_list_extend_2 _ _) (PySem.AutoSeq1.list_extend_list_list_0 _ _ n l2 _ n2 alN (Nat.le_trans (Nat.le_add_right _ _) hs) (Nat.le_succ_of_le hs)) ⟨e1,e2,dJ⟩
 ·exact call_meets PySem.F.slot_list_extend ⟨_,e1,rfl⟩ PySem.F.entry_list_extend (PySem.F.args_list_extend_2 _ _) (PySem.AutoSeq1.list_extend_list_tuple_0 _ _ n l2 _ n2 alN (Nat.le_trans (Nat.le_add_right _ _) hs) (Nat.le_succ_of_le hs)) ⟨e1,e2,dJ⟩
theorem xG {K:Type}[DecidableEq K]{fs:List (K×FV)}:∀{vs:List Value} {k:K},Aj G.prog G.w c (fs.map (·.2)) vs→fs.lookup k=none→valueAt ((fs.map (·.1)).zip vs) k=none:=by
 induction fs with
 |nil=>exact λ_ _=>rfl
 |cons f fs ih=>
  intro vs k h e
  refine h.el (P:=λvs=>valueAt ((f.1::fs.map (·.1)).zip vs) k=none) λu us hu hr=>?_
  have e:(match k==f.1 with|true=>some f.2|false=>fs.lookup k)=none:=e
  show ((match decide (f.1=k) with|true=>some (f.1,u)|false=>((fs.map λ(q:K×FV)=>q.1).zip us).find? λ(q:K×Value)=>q.1=k).map λ(q:K×Value)=>q.2)=none
  by_cases q:f.1=k
  ·rw [q,beq_self_eq_true] at e; exact sN e
  ·rw [beq_false_of_ne (Ne.symm q)] at e
   rw [decide_eq_false q]
   exact ih hr e
theorem xH {K α:Type}[DecidableEq K][inst:BEq K][LawfulBEq K]{k:K}{l:List (K×α)}:@List.lookup K α inst k l=@List.lookup K α instBEqOfDecidableEq k l:=by
 induction l with
 |nil=>rfl
 |cons f r ih=>
  show (match @BEq.beq K inst k f.1 with|true=>some f.2|false=>@List.lookup K α inst k r)=(match decide (k=f.1) with|true=>some f.2|false=>@List.lookup K α instBEqOfDecidableEq k r)
  rw [ih,show @BEq.beq K inst k f.1=decide (k=f.1) from Bool.eq_iff_iff.mpr (beq_iff_eq.trans decide_eq_true_iff.symm)]
theorem xI {d k x:AV}{v u t:Value}(aj:At G fs cl L c S s)(rd:VR G.prog G.w c d v)(rk:VR G.prog G.w c k u)(rx:VR G.prog G.w c x t):Ap (VR G.prog G.w) G PE A fs cl L c S s (λK _=>adM d k x S K) (PySem.call (.builtin "dict.get") [v,u,t]):=by
 intro K X Q E h p _
 have dJ:∀{κ:Type} [DecidableEq κ] {fl:List (κ×FV)} {k:κ} {vs:List Value},Aj G.prog G.w c (fl.map (·.2)) vs→(n4 (fl.lookup k) (K x S) λy=>K (.fr y) S)→∀tk,Q ((valueAt ((fl.map (·.1)).zip vs) k).getD t) {s with toks:=tk}:=λ{κ _ fl k vs} r h tk=>
  n5 h (λhy h=>xG r hy▸p.now aj h rx _) λy hy h=>let ⟨w,q1,q2⟩:=nT r hy; q1▸p.now aj h (.fr q2) _
 refine aZ (P:=λd=>VR G.prog G.w c d v→_) h (λd h rd=>aZ (P:=λk=>VR G.prog G.w c k u→_) h (λy h rk=>?_) rk) rd
 cases d with
 |db fl=>
  refine wL (P:=λy=>VR G.prog G.w c (.fr y) u→_) h (λb h rk=>rk.dg (P:=λu=>wpAny (model G.prog G.w) A (PySem.call (.builtin "dict.get") [v,u,t]) Q E s) λtk=>rd.dg (P:=λv=>wpAny (model G.prog G.w) A (PySem.call (.builtin "dict.get") [v,.bytes b tk,t]) Q E s) λvs a _ hs dd r=>?_) rk
  have d':=aj.heap▸dd
  rw [xH] at h
  exact call_meetsIn PySem.F.slot_dict_get d'.mapOf.typeIs PySem.F.entry_dict_get (PySem.F.args_dict_get_3 _ _ _) (meets_dict_get_default (bytesKind G.prog G.w) _ (bytesKind_is G.prog G.w b.toList tk) hs t) ⟨_,d'.mapOf,dJ r h _⟩
 |ds fl=>
  refine nJ (P:=λy=>VR G.prog G.w c (.fr y) u→_) h (λb h rk=>rk.dg (P:=λu=>wpAny (model G.prog G.w) A (PySem.call (.builtin "dict.get") [v,u,t]) Q E s) λtk=>rd.dg (P:=λv=>wpAny (model G.prog G.w) A (PySem.call (.builtin "dict.get") [v,.str b tk,t]) Q E s) λvs a _ hs dd r=>?_) rk
  have d':=aj.heap▸dd
  exact call_meetsIn PySem.F.slot_dict_get d'.mapOf.typeIs PySem.F.entry_dict_get (PySem.F.args_dict_get_3 _ _ _) (meets_dict_get_default (strKind G.prog G.w) _ (strKind_is G.prog G.w b tk) hs t) ⟨_,d'.mapOf,dJ r h _⟩
 |_=>exact h.elim
end
def xJ (G:Ah)(vE:VE)(vc:Au)(vb xy:VB)(o:Expr)(name:Str)(kM pos:Pos)(es:List Expr)(S:St)(K:KE)(X:KX):Prop:=
 cV (gM o&&Nat.blt es.length 30&&es.all bn&&Nat.beq kM.endLine pos.line) (vE o S (λov S1=>xC G name ov S1 λf first=>ab3 G vE vc vb xy es f first S1 K X) X)
section
variable {G:Ah} {PE:Addr×Nat} {A:Around} {fs:List Env} {cl:List (Str×Addr)} {L:Addr} {c:Cx} {S:St} {s:Shared} {env:Env} {sc:Scope} {n:Nat} {q:Bool} {vE:VE} {vc:Au} {vb xy:VB}
theorem vn {S:St}{ov:AV}{K:Prop}(h:xB S ov K):K:=by
 cases ov with
 |fr=>exact h
 |own m k=>exact au h λ_ _ h=>h.2
noncomputable def alO:Nat→String
 |0 => "list"
 |_+1 => "dict"
theorem jF {K:Type}[DecidableEq K]{knd:KeyKind G.prog G.w K}{a:Addr}{kvs:List (K×Value)}(d:s.heap.DictOf knd a kvs){Z:Prop}(z:∀o,s.heap.get? a=some o→o.dict=none→o.cls=.type "dict" → Z):Z:=by
 obtain ⟨o,e1,e2⟩:=d.mapOf.noDict a rfl
 obtain ⟨o',e3,e4⟩:=d.mapOf.typeIs
 exact z o e1 e2 (Option.some.inj (e1.symm.trans e3)▸e4)
theorem qF {ov:AV}{v:Value}{T:Nat}(h:xA S ov=some T){KK:Prop}(hk:xB S ov KK)(r:VR G.prog G.w c ov v)(aj:At G fs cl L c S s){Z:Value→Prop}
  (z:∀a o,s.heap.get? a=some o→o.dict=none→o.cls=.type (alO T)→Z (.ref a)):Z v:=by
 cases ov with
 |fr x=>cases x with
  |fl xs=>exact r.dg (P:=Z) λvs a n _ e _=>z a _ (aj.heap▸e) rfl (Option.some.inj h▸rfl)
  |ds xs=>exact r.dg (P:=Z) λvs a _ _ d _=>jF (aj.heap▸d) λo e1 e2 e3=>z a o e1 e2 (Option.some.inj h▸e3)
  |db xs=>exact r.dg (P:=Z) λvs a _ _ d _=>jF (aj.heap▸d) λo e1 e2 e3=>z a o e1 e2 (Option.some.inj h▸e3)
  |_=>exact nS h
 |own m k=>
  rw [r.bc.1]
  refine au hk λq e hk=>?_
  have h:(S.get m).bind (λr=>xz r.2)=some T:=h
  rw [e] at h
  obtain ⟨j,o⟩:=q
  have g:=aj.aF.d6 e
  rw [show k=j from hk.1]
  cases o with
  |list xs=>exact (g).elim λ_ q=>q.elim λ_ q=>q.elim λe1 _=>z _ _ (aj.heap▸e1) rfl (Option.some.inj h▸rfl)
  |a9 xs=>exact (g).elim λ_ q=>q.elim λe1 _=>z _ _ (aj.heap▸e1) rfl (Option.some.inj h▸rfl)
  |dict xs=>exact (g).elim λ_ q=>q.elim λd q=>q.elim λ_ _=>jF (aj.heap▸d) λo e1 e2 e3=>z _ o e1 e2 (Option.some.inj h▸e3)
  |_=>exact nS h
theorem aho {T:Nat}{name:Str}{id:String}{a:Addr}{o:Obj}{pl:Sem Bool}{Q:Value×List Value→Shared→Prop}{E:Value→Shared→Prop}(h:alM T name=some id)(e:s.heap.get? a=some o)(hd:o.dict=none)(hc:o.cls=.type (alO T))
  (k:Q (.builtin id,[.ref a]) s):wpAny (model G.prog G.w) A (getMethod (.ref a) name pl) Q E s:=by
 have nd:∀b,Value.ref a=.ref b→∃o,s.heap.get? b=some o∧o.dict=none:=λb hb=>Value.ref.inj hb▸⟨o,e,hd⟩
 cases T with
 |zero=>
  have h:lmL name=some id:=h
  unfold lmL at h
  cases h1:name==Str.ofString "append" with
  |true=>rw [h1] at h; exact eq_of_beq h1▸getMethod_builtin ⟨o,e,hc⟩ PySem.F.plainAttrs_list PySem.F.slot_list_append PySem.F.type_list_append nd (Option.some.inj h▸k)
  |false=>
   rw [h1] at h
   cases h2:name==Str.ofString "extend" with
   |true=>rw [h2] at h; exact eq_of_beq h2▸getMethod_builtin ⟨o,e,hc⟩ PySem.F.plainAttrs_list PySem.F.slot_list_extend PySem.F.type_list_extend nd (Option.some.inj h▸k)
   |false=>
    rw [h2] at h
    cases h3:name==Str.ofString "pop" with
    |true=>rw [h3] at h; exact eq_of_beq h3▸getMethod_builtin ⟨o,e,hc⟩ PySem.F.plainAttrs_list PySem.F.slot_list_pop PySem.F.type_list_pop nd (Option.some.inj h▸k)
    |false=>rw [h3] at h; exact nS h
 |succ=>
  have h:lmD name=some id:=h
  unfold lmD at h
  cases h1:name==Str.ofString "get" with
  |true=>rw [h1] at h; exact eq_of_beq h1▸getMethod_builtin ⟨o,e,hc⟩ PySem.F.plainAttrs_dict PySem.F.slot_dict_get PySem.F.type_dict_get nd (Option.some.inj h▸k)
  |false=>rw [h1] at h; exact nS h
theorem vq (r:Run G A fs env sc cl L n q){name:Str}{ov:AV}{v:Value}{P:AV→List AV→Prop}(h:xC G name ov S P)(aj:At G fs cl L c S s)(rv:VR G.prog G.w c ov v){pl:Sem Bool}{Q:Value×List Value→Shared→Prop}{E:Value→Shared→Prop}
  (k:∀f first g fv,P f first→VR G.prog G.w c f g→Al G.prog G.w c first fv→Q (g,fv) s):wpAny (model G.prog G.w) A (getMethod v name pl) Q E s:=by
 unfold xC at h
 cases hT:xA S ov with
 |some T=>
  rw [hT] at h
  exact au h λid hid h=>qF (Z:=λv=>VR G.prog G.w c ov v→wpAny (model G.prog G.w) A (getMethod v name pl) Q E s) hT h rv aj (λa o e1 e2 e3 rv=>aho hid e1 e2 e3 (k _ _ _ _ (vn h) (.fr (.lit _)) (.cons rv .nil))) rv
 |none=>
  rw [hT] at h
  refine fh (Z:=λv=>VR G.prog G.w c ov v→wpAny (model G.prog G.w) A (getMethod v name pl) Q E s) h rv aj.aF (λy C dx l I h rv=>au h λci hci h=>au h λf hf h=>?_) rv
  have O:=r.ok.cls C ci (fG hci)
  have m:=O.arL name f (ch hf)
  cases hl:l.lookup name with
  |some=>rw [hl] at h; exact h.elim
  |none=>
   rw [hl] at h
   exact I.kJ aj.heap name λod vs J _ _ e=>method_fn (aj.aF.nD r.ok aj.heap) J O.ga O.gh m.1 m.2 (show (lookIn name od).map _=_ by rw [e,aaL hl]; rfl) (k _ _ _ _ h (.fr (.lit _)) (.cons rv .nil))
theorem qG (r:Run G A fs env sc cl L (n+1) q)(hc:Ag G PE n q vc)(hb:Bp G PE n q vb)(ht:Bq G PE n q xy)(o:Expr)(name:Str)(kM pos:Pos)(es:List Expr)(ho:Ae (VR G.prog G.w) G PE A fs cl L (vE o) (eval o env))(he:∀e,e∈es→Ae (VR G.prog G.w) G PE A fs cl L (vE e) (eval e env)):
  Ae (VR G.prog G.w) G PE A fs cl L (xJ G vE vc vb xy o name kM pos es) (eval (.Call (.Attribute o name kM) es [] pos) env):=by
 refine λc S s a K X Q E v p xp=>aG v λhh v=>?_
 have hh:=Bool.and_eq_true_iff.mp hh
 have h3:=Bool.and_eq_true_iff.mp hh.1
 have h1:=Bool.and_eq_true_iff.mp h3.1
 have alP:(kM.endLine==pos.line)=true:=Nat.eq_of_beq_eq_true hh.2▸beq_self_eq_true _
 have alQ:methodCallForm (es.length+([]:List Keyword).length) (backTo pos (starEach es env)) (backToKw pos (keywordEach [] env))=true:=by
  unfold methodCallForm
  rw [(eB h3.2).2]
  simp [backToKw,keywordEach]
  exact Nat.le_of_ble_eq_true h1.2
 rw [arm_eval_Call,lu h1.1]
 refine wpAny_bind (ho c S s a _ X _ E v (λc1 ov S1 u aL k1 e1 R1 a8 r1=>wpAny_bind (wpAny_standAt ?_)) xp)
 unfold methodCall
 rw [alQ]
 refine wpAny_bind (wpAny_holding (vq r k1 (a.ak R1 aL) r1 λf first g fv k2 rf rs=>wpAny_bind (wpAny_of_eq (show methodCallPos true o env kM pos=pure pos by unfold methodCallPos; simp [alP]) ?_)))
 exact tM r hc hb ht pos es he (a.ak R1 aL) rf rs K X Q E k2 (p.ak a.aF R1 e1 a8 aL) (xp.ak a.aF R1 e1 a8 aL)
end
noncomputable def an (a:Int):Int:=match a with
 |.ofNat n=>.ofNat n
 |.negSucc n=>.ofNat (n+1)
theorem ab5 (a:Int):(if a<0 then -a else a)=an a:=by
 cases a with
 |ofNat n=>exact if_neg (Int.not_lt.mpr (Int.natCast_nonneg n))
 |negSucc n=>rw [if_pos (Int.negSucc_lt_zero n)]; rfl
noncomputable def ahp (a b:Int):Int:=if b>a then b else a
def jG {α:Type}(xs:List α)(S:St)(K:KE):Prop:=xs.length≤1000000∧K (.fr (.int (Int.ofNat xs.length))) S
def adN (S:St)(K:KE)(o:AO):Prop:=match o with
 |.a9 ks=>jG ks S K
 |.list xs=>jG xs S K
 |_=>False
def alR (a:AV)(S:St)(K:KE):Prop:=match a with
 |.own m k=>u7 (.own m k) S λ_ _ o=>adN S K o
 |.fr x=>match x with
  |.az xs=>jG xs S K
  |.fl xs=>jG xs S K
  |_=>False
section
variable {prog:Program} {w:World} {A:Around} {E:Value→Shared→Prop} {s:Shared}
theorem mA {Q:List Value→Shared→Prop}(it:Addr){o:Obj}{items:Array Value}{n:Nat}(ho:s.heap.get? it=some o)(hc:o.cls=.type "list")(hd:o.data=.seq items n)
  (hQ:∀h',(∀b o',s.heap.get? b=some o'→h'.get? b=some o')∧s.heap.objs.size≤h'.objs.size→Q items.toList {s with heap:=h'}) (hsz:items.size≤sizeLine):wpAny (model prog w) A (collect (.ref it)) Q E s:=
 bu (Nat.le_refl _) (wpAny_collect_seq (hsz:=hsz) it (.inl rfl) ho hc hd λh' hk hs=>hQ h' ⟨hk,hs⟩)
end
theorem kO (l:Addr)(o:Obj)(items:Array Value)(n:Nat)(hc:o.cls=.type "list")(hd:o.data=.seq items n)(hsz:items.size≤sizeLine):
  Meets (Builtin.«tuple.__new__» ⟨[.type "tuple",.ref l],[]⟩)
   (λ_ R s=>s.heap.get? l=some o∧∀h':Heap,(∀b o',s.heap.get? b=some o'→h'.get? b=some o')∧s.heap.objs.size≤h'.objs.size→R (.ok (.ret (.ref h'.objs.size))) {s with heap:=h'.push {cls:=.type "tuple",data:=.seq items}}):=
 .of_wp λprog w A R s h=>by
  obtain ⟨hp,g,d,tk,os⟩:=s
  obtain ⟨ht,h⟩:=h
  have avu:=sub_tuple_self
  have avs:=init_tuple_lookup
  have hmh:=madeHere_tuple
  have hT:Shared.TypeIs ⟨hp,g,d,tk,os⟩ (.ref l) "list" := ⟨o,ht,hc⟩
  wp_walk using AutoSeq1.wpAny_loadPart' ht,wpAny_typeOf hT,mA (hsz:=hsz) l ht hc hd
  intro h' hk
  show wpAny _ _ (Builtin.Tuple.tupleExact items.toList.toArray >>= λv=>ret v) _ _ _
  unfold Builtin.Tuple.tupleExact
  refine wpAny_bind (wpAny_newObj_type ?_ (by show items.toList.toArray.size≤sizeLine; simpa using hsz))
  refine wpAny_pure ⟨_,rfl,?_⟩
  rw [show items.toList.toArray=items by simp]
  exact h h' hk
section
variable {G:Ah} {PE:Addr×Nat} {A:Around} {fs:List Env} {cl:List (Str×Addr)} {L:Addr} {c:Cx} {S:St} {s:Shared} {env:Env} {sc:Scope} {n:Nat} {q:Bool}
theorem ab6 {a:AV}{v:Value}(aj:At G fs cl L c S s)(r:VR G.prog G.w c a v):Ap (VR G.prog G.w) G PE A fs cl L c S s (λK _=>alR a S K) (PySem.call (.builtin "len") [v]):=by
 intro K X Q E h p _
 have lst:∀{α:Type} {xs:List α} {l n} {vs:List Value},xs.length=vs.length→jG xs S K→s.heap.get? l=some (listOf vs.toArray n)→wpAny (model G.prog G.w) A (PySem.call (.builtin "len") [.ref l]) Q E s:=λ{α xs l n vs} hl h e=>
  call_len_list ⟨_,e,rfl,n,rfl⟩ (Int.ofNat_lt.mpr (Nat.lt_of_le_of_lt (show vs.length≤1000000 from hl▸h.1) (show 1000000<2 ^ 63 by decide))) (show Q (.int (Int.ofNat vs.length) _) _ from hl▸p.now aj h.2 (.fr (.int _ _)) _)
 cases a with
 |own m k=>
  refine gG (f:=λ_ _ o=>adN S K o) (Z:=λv=>wpAny (model G.prog G.w) A (PySem.call (.builtin "len") [v]) Q E s) h r aj.aF λm k o e g h=>?_
  cases o with
  |list xs=>exact (g).elim λ_ q=>q.elim λ_ q=>q.elim λe1 q=>lst q.len h (aj.heap▸e1)
  |a9 ks=>exact (g).elim λ_ q=>q.elim λe1 _=>lst (List.length_map _).symm h (aj.heap▸e1)
  |_=>exact h.elim
 |fr x=>cases x with
  |fl xs=>exact r.dg (P:=λv=>wpAny (model G.prog G.w) A (PySem.call (.builtin "len") [v]) Q E s) λ_ _ _ _ e1 q=>lst q.len h (aj.heap▸e1)
  |az xs=>exact r.dg (P:=λv=>wpAny (model G.prog G.w) A (PySem.call (.builtin "len") [v]) Q E s) λvs _ n _ e1 q=>len_tuple ⟨_,aj.heap▸e1,rfl,n,rfl⟩ (Int.ofNat_lt.mpr (Nat.lt_of_le_of_lt (show vs.length≤1000000 from q.len▸h.1) (show 1000000<2 ^ 63 by decide))) (show Q (.int (Int.ofNat vs.length) _) _ from q.len▸p.now aj h.2 (.fr (.int _ _)) _)
  |_=>exact h.elim
theorem ab7 {a:Int}{t:Tok}(aj:At G fs cl L c S s):Ap (VR G.prog G.w) G PE A fs cl L c S s (λK _=>K (.fr (.int (an a))) S) (PySem.call (.builtin "abs") [.int a t]):=by
 intro K X Q E h p _
 refine call_abs_int λu tk=>?_
 rw [ab5]
 exact p.now aj h (.fr (.int _ _)) _
theorem qH {a b:Int}{t u:Tok}(aj:At G fs cl L c S s):Ap (VR G.prog G.w) G PE A fs cl L c S s (λK _=>b≠0∧Sm b∧K (.fr (.az [.int (a.fdiv b),.int (a.fmod b)])) S) (PySem.call (.builtin "divmod") [.int a t,.int b u]):=by
 intro K X Q E h p _
 obtain ⟨h1,h2,h⟩:=h
 refine divmod_int h1 ?_ (.inl h2.div)
 exact ml aj (.cons (.int _ s.toks) (.cons (.int _ (s.toks+1)) .nil)) h p (s.toks+1+1)
theorem oh {α β:Type}{gg:Cx→α→β→Prop}(aj:At G fs cl L c S s){K:α→St→Prop}{Q:β→Shared→Prop}(p:Ak gg G fs cl L c S s K Q){a:α}{b:β}(k:K a S){h':Heap}(hs:s.heap.objs.size≤h'.objs.size)(kp:∀b o,s.heap.get? b=some o→h'.get? b=some o)(r:∀c',Le c c'→gg c' a b)(tk:Nat):Q b {s with heap:=h',toks:=tk}:=by
 have z:=aj.aF.nL (h':=h') (aj.heap▸hs) (aj.heap▸kp)
 exact p _ a _ b tk k z.2 z.1 rfl (r _ z.2.le)
theorem ab8 {a b:Int}{t u:Tok}(hh:A.handled=none)(aj:At G fs cl L c S s):Ap (VR G.prog G.w) G PE A fs cl L c S s (λK _=>K (.fr (.int (ahp a b))) S) (PySem.call (.builtin "max") [.int a t,.int b u]):=by
 intro K X Q E h p _
 refine bu (Nat.le_refl _) (max_two_ints hh λh' tk hk hs=>?_)
 refine oh aj p h hs hk (λc' _=>?_) tk
 unfold ahp
 by_cases q:b>a
 ·rw [if_pos q,if_pos q]; exact .fr (.int _ _)
 ·rw [if_neg q,if_neg q]; exact .fr (.int _ _)
def jH (K:Frag)(D C:Addr):Prop:=kin_not K D C=true∧plainGet K D "__class__" = true∧hasDictIn K D=true∧findIn K (.ref D) "__class__" = some (some (.builtin "object.__class__"))∧
 specialIn K (.builtin "object.__class__") "__get__" = some (some (.builtin "getset_descriptor.__get__"))∧takesIn K (.builtin "object.__class__")=some true∧mroIn K D (.type "object")=some true
theorem ab9 (r:Run G A fs env sc cl L n q){a:AV}{v:Value}{C:Addr}(aj:At G fs cl L c S s)(ra:(VR G.prog G.w) c a v):Ap (VR G.prog G.w) G PE A fs cl L c S s (λK _=>jA S a λD _=>jH G.K D C∧K (.fr (.bool false)) S) (PySem.call (.builtin "isinstance") [v,.ref C]):=by
 intro K X Q E h p _
 exact fh (Z:=λv=>wpAny (model G.prog G.w) A (PySem.call (.builtin "isinstance") [v,.ref C]) Q E s) h ra aj.aF λy D dx l I h=>I.kJ aj.heap (Str.ofString "x") λod vs J _ _ _=>
  have n:=h.1; kin_callC (aj.aF.nD r.ok aj.heap) J n.1 n.2.1 n.2.2.1 n.2.2.2.1 n.2.2.2.2.1 n.2.2.2.2.2.1 n.2.2.2.2.2.2 (p.now aj h.2 (.fr (.bool _)) _)
theorem xK {a:Int}{t:Tok}(aj:At G fs cl L c S s):Ap (VR G.prog G.w) G PE A fs cl L c S s (λK _=>K (.fr (.int a)) S) (PySem.call (.type "int") [.int a t]):=by
 intro K X Q E h p _
 exact call_int_int (p.here aj h (.fr (.int _ _)))
theorem vu (nm:Nat){xs:List FV}{vs:List Value}(aj:At G fs cl L c S s)(r:Aj G.prog G.w c xs vs){K:AV→St→Prop}{Q:Value→Shared→Prop}(h:jw nm xs S K)(p:Ak (VR G.prog G.w) G fs cl L c S s K Q){h':Heap}{a:Addr}{m:Nat}(tk:Nat)
  (hs:s.heap.objs.size≤h'.objs.size) (kp:∀b o,s.heap.get? b=some o→h'.get? b=some o) (ha:s.heap.objs.size≤a) (hl:h'.get? a=some {cls:=.type "list",data:=.seq vs.toArray m}):Q (.ref a) {s with heap:=h',toks:=tk}:=by
 obtain ⟨R,hh⟩:=aj
 rw [←hh] at hs kp ha
 cases nm with
 |zero=>
  obtain ⟨R',E'⟩:=R.ice (h':=h') (F:=λb=>b=a) hs kp (λb e=>e▸⟨ha,Heap.lt_size hl⟩)
  exact p _ _ _ (.ref a) tk h E' R' rfl (.fr (.fl (.inr rfl) hl (r.aw E'.le)))
 |succ n=>
  obtain ⟨c',R',E',e1,e2,e3⟩:=R.i4 (m:=n+1) (o:=.list xs) (h':=h') (a:=a) hs kp ha (Heap.lt_size hl) λc' l q1 q2 q3 q4=>⟨vs,m,q1▸hl,r.aw l⟩
  have:=p c' _ _ (.ref (c'.ρ S.aa)) tk h E' R' (cM R.eW R.dO).2.ai (.own (n+1) S.aa (e3▸Nat.lt_succ_self _))
  rw [e1,e2] at this
  exact this
theorem vw (nm:Nat){a:AV}{v:Value}(aj:At G fs cl L c S s)(ra:(VR G.prog G.w) c a v):Ap (VR G.prog G.w) G PE A fs cl L c S s (λK _=>iy S a λxs=>xs.length≤1000000∧jw nm xs S K) (PySem.call (.type "list") [v]):=by
 intro K X Q E h p _
 exact dP h ra aj (Z:=λv=>wpAny (model G.prog G.w) A (PySem.call (.type "list") [v]) Q E s) λxs l vs n T hT e r h=>
  bu (Nat.le_refl _) (call_list_seq l (T:=T) (o:={cls:=.type T,data:=.seq vs.toArray n}) (items:=vs.toArray) (n:=n) hT e rfl rfl (λh' c' kp hD hs=>vu nm aj r h.2 p _ hs kp (Nat.le_refl _) hD) (sz (show vs.length≤_ from r.len▸Nat.le_trans h.1 (by decide))))
theorem qI {a:AV}{v:Value}(aj:At G fs cl L c S s)(ra:(VR G.prog G.w) c a v):Ap (VR G.prog G.w) G PE A fs cl L c S s (λK _=>dB S a λxs=>xs.length≤1000000∧K (.fr (.az xs)) S) (PySem.call (.type "tuple") [v]):=by
 refine λK X Q E h p _=>bP h ra aj.aF λxs l h=>?_
 cases l with
 |mk e r=>
  refine callType_new F.called_tuple (by decide) (F.typeCall_tuple_1 _) (F.newCall_tuple_1 _) (λobj=>F.args_object_init_2 obj _) F.entry_tuple_new
   (kO _ _ _ _ rfl rfl (sz (show List.length _≤_ from r.len▸Nat.le_trans h.1 (by decide)))) ⟨aj.heap▸e,λh' hk=>⟨⟨_,Heap.get?_push_size _ rfl,rfl⟩,?_⟩⟩
  have kp:=aj.heap▸hk.1
  have hs:=aj.heap▸hk.2
  obtain ⟨R',E'⟩:=aj.aF.ice (h':=h'.push {cls:=.type "tuple",data:=.seq (List.toArray _)}) (F:=λa=>a=h'.objs.size) (Nat.le_trans hs (Nat.le_of_lt (bl _ _))) (λb o e=>Heap.get?_push_of_some _ (kp b o e)) (λa e=>⟨e▸hs,e.symm▸bl _ _⟩)
  exact p _ _ _ (.ref h'.objs.size) s.toks h.2 E' R' rfl (.fr (.az (.inr rfl) (Heap.get?_push_size _ rfl) (r.aw E'.le)))
theorem mB {x y z:Int}{t u r:Tok}(aj:At G fs cl L c S s){K:AV→St→Prop}{Q:Value→Shared→Prop}(h:K (.fr (.tw x y z)) S)(p:Ak (VR G.prog G.w) G fs cl L c S s K Q)(tk:Nat):
  Q (.ref s.heap.objs.size) {s with heap:=s.heap.push {cls:=.type "range",data:=.fields #[.int x t,.int y u,.int z r]},toks:=tk}:=by
 obtain ⟨R,hh⟩:=aj
 obtain ⟨R',E'⟩:=R.jk {cls:=.type "range",data:=.fields #[.int x t,.int y u,.int z r]}
 have:=p _ _ _ (.ref c.h.objs.size) tk h E' R' rfl (.fr (.tw (.inr rfl) (Heap.get?_push_size _ rfl)))
 rw [←hh]
 exact this
theorem qJ {a:Int}{t:Tok}(aj:At G fs cl L c S s):Ap (VR G.prog G.w) G PE A fs cl L c S s (λK _=>K (.fr (.tw 0 a 1)) S) (PySem.call (.type "range") [.int a t]):=by
 intro K X Q E h p _
 exact call_range_1 (mB aj h p _)
theorem qK {a b:Int}{t u:Tok}(aj:At G fs cl L c S s):Ap (VR G.prog G.w) G PE A fs cl L c S s (λK _=>K (.fr (.tw a b 1)) S) (PySem.call (.type "range") [.int a t,.int b u]):=by
 intro K X Q E h p _
 exact call_range_2 (mB aj h p _)
theorem qL {a b d:Int}{t u r:Tok}(aj:At G fs cl L c S s):Ap (VR G.prog G.w) G PE A fs cl L c S s (λK _=>d≠0∧Sm d∧K (.fr (.tw a b d)) S) (PySem.call (.type "range") [.int a t,.int b u,.int d r]):=by
 intro K X Q E h p _
 obtain ⟨h1,h2,h⟩:=h
 exact call_range_3 h1 (mB aj h p _) (.inl h2.div)
theorem xL {bs:List Bool}:∀{vs:List Value},Aj G.prog G.w c (bs.map FV.bool) vs→vs=bs.map Value.bool:=by
 induction bs with
 |nil=>exact λr=>r.el (P:=λvs=>vs=[]) rfl
 |cons b bs ih=>exact λr=>r.el (P:=λvs=>vs=_::_) λv vs r1 r2=>ih r2▸r1.el (P:=λv=>v::_=_) rfl
theorem aba (bs:List Bool):((List.range bs.length).all λi=>(bs[i]?).getD true)=bs.all id:=by
 rw [Bool.eq_iff_iff,List.all_eq_true,List.all_eq_true]
 refine ⟨λhx b hb=>?_,λhx i hi=>?_⟩
 ·obtain ⟨i,hi,rfl⟩:=List.getElem_of_mem hb
  have:=hx i (List.mem_range.mpr hi)
  rwa [List.getElem?_eq_getElem hi] at this
 ·rw [List.getElem?_eq_getElem (List.mem_range.mp hi)]
  exact hx _ (List.getElem_mem _)
theorem mC (hh:A.handled=none){a:AV}{v:Value}(aj:At G fs cl L c S s)(ra:VR G.prog G.w c a v):Ap (VR G.prog G.w) G PE A fs cl L c S s (λK _=>dB S a λxs=>∃bs:List Bool,xs=bs.map FV.bool∧K (.fr (.bool (bs.all id))) S) (PySem.call (.builtin "all") [v]):=by
 refine λK X Q E h p _=>bP h ra aj.aF λxs l h=>?_
 obtain ⟨bs,rfl,h⟩:=h
 cases l with
 |mk e r=>
  rename_i l vs n
  have e:s.heap.get? l=some (listOf (bs.map Value.bool).toArray n):=xL r▸aj.heap▸e
  have hl:s.heap.IsList l (bs.map Value.bool).toArray:=⟨_,e,rfl,n,rfl⟩
  refine bu (Nat.le_refl _) (call_all_walk (wpAny_pyIter_list hl ⟨s.heap.objs.size,[s.heap.objs.size,l],[s.heap.objs.size],(bs.map Value.bool).toArray.size,_,_,λi=>(bs[i]?).getD true,rfl,Walks.list (A:=A.in1) hh _ l (Nat.ne_of_lt (Heap.lt_size e)) _,
   ⟨⟨_,Heap.get?_push_size _ rfl,rfl,rfl⟩,hl.push _⟩,λi v s' Q' E' hP hQ=>?_,λh' tk hk hs=>?_⟩))
  ·have hP:(bs.map Value.bool)[i]?=some v:=List.getElem?_toArray (xs:=bs.map Value.bool)▸hP
   rw [List.getElem?_map] at hP
   obtain ⟨b,e,rfl⟩:=Option.map_eq_some_iff.mp hP
   have hQ:Q' ((bs[i]?).getD true) s':=hQ
   rw [e] at hQ
   exact wpAny_truthy_bool hQ
  ·rw [show (bs.map Value.bool).toArray.size=bs.length from List.length_map _,aba]
   exact oh aj p h hs (λb o e=>hk b o (λhm=>Nat.lt_irrefl _ (List.mem_singleton.mp hm▸Heap.lt_size e)) (Heap.get?_push_of_some _ e)) (λ_ _=>.fr (.bool _)) tk
end
def nF (a:AV)(P:Int→Prop):Prop:=gw a λx=>gA x P
def vB1 (q:Bool)(id:String)(a:AV)(S:St)(K:KE):Prop:=if id = "len" then alR a S K else if id = "list.pop" then adL a S K else if id = "abs" then nF a λx=>K (.fr (.int (an x))) S
 else if id = "all" then cV q (dB S a λxs=>∃bs:List Bool,xs=bs.map FV.bool∧K (.fr (.bool (bs.all _root_.id))) S) else False
def vB2 (G:Ah)(q:Bool)(id:String)(a b:AV)(S:St)(K:KE):Prop:=if id = "list.append" then n6 a b S K else if id = "list.extend" then n9 a b S K else if id = "list.pop" then tN a b S K
 else if id = "divmod" then nF a λx=>nF b λy=>y≠0∧Sm y∧K (.fr (.az [.int (x.fdiv y),.int (x.fmod y)])) S
 else if id = "max" then cV q (nF a λx=>nF b λy=>K (.fr (.int (ahp x y))) S)
 else if id = "isinstance" then (gw b λy=>lb y λy=>match y with|.ref C=>jA S a λD _=>jH G.K D C∧K (.fr (.bool false)) S|_=>False) else False
def byN (as:List AV)(f:AV→Prop)(g:AV→AV→Prop)(h:AV→AV→AV→Prop):Prop:=match as with
 | []=>False
 |a::r=>match r with
  | []=>f a
  |b::r=>match r with
   | []=>g a b
   |d::r=>match r with
    | []=>h a b d
    |_::_=>False
theorem xM {p:Program}{w:World}{c:Cx}{as:List AV}{f:AV→Prop}{g:AV→AV→Prop}{h:AV→AV→AV→Prop}{vs:List Value}(k:byN as f g h)(r:Al p w c as vs){Z:List Value→Prop}(z1:∀a v,VR p w c a v→f a→Z [v])(z2:∀a v b u,VR p w c a v→VR p w c b u→g a b→Z [v,u])
  (z3:∀a v b u d t,VR p w c a v→VR p w c b u→VR p w c d t→h a b d→Z [v,u,t]):Z vs:=by
 cases as with
 |nil=>exact k.elim
 |cons a as=>
  refine r.el (P:=Z) λv vs ra r=>?_
  cases as with
  |nil=>exact r.el (P:=λvs=>Z (v::vs)) (z1 a v ra k)
  |cons b as=>
   refine r.el (P:=λvs=>Z (v::vs)) λu us rb r=>?_
   cases as with
   |nil=>exact r.el (P:=λvs=>Z (v::u::vs)) (z2 a v b u ra rb k)
   |cons d as=>
    refine r.el (P:=λvs=>Z (v::u::vs)) λt ts rd r=>?_
    cases as with
    |nil=>exact r.el (P:=λvs=>Z (v::u::t::vs)) (z3 a v b u d t ra rb rd k)
    |cons=>exact k.elim
def ahq (G:Ah)(q:Bool):VB:=λid args S K=>byN args (λa=>vB1 q id a S K) (λa b=>vB2 G q id a b S K) λa b d=>if id = "dict.get" then adM a b d S K else False
def vT1 (nm:Nat)(id:String)(a:AV)(S:St)(K:KE):Prop:=if id = "list" then iy S a λxs=>xs.length≤1000000∧jw nm xs S K
 else if id = "range" then nF a λx=>K (.fr (.tw 0 x 1)) S
 else if id = "tuple" then dB S a λxs=>xs.length≤1000000∧K (.fr (.az xs)) S
 else if id = "int" then nF a λx=>K (.fr (.int x)) S else False
def ahr (nm:Nat):VB:=λid args S K=>byN args (λa=>vT1 nm id a S K) (λa b=>if id = "range" then nF a λx=>nF b λy=>K (.fr (.tw x y 1)) S else False)
 λa b d=>if id = "range" then nF a λx=>nF b λy=>nF d λz=>z≠0∧Sm z∧K (.fr (.tw x y z)) S else False
section
variable {G:Ah} {PE:Addr×Nat} {n:Nat} {q:Bool} {A:Around} {fs:List Env} {cl:List (Str×Addr)} {L:Addr} {c:Cx} {S:St} {s:Shared} {id:String} {a b d:AV} {v u t:Value} {K:KE} {Q E:Value→Shared→Prop}
theorem cO {x:Prop}[Decidable x]{P R Z:Prop}(h:if x then P else R)(k:x→P→Z)(k':R→Z):Z:=by
 by_cases q:x
 ·exact k q ((if_pos q:(if x then P else R)=P)▸h)
 ·exact k' ((if_neg q:(if x then P else R)=R)▸h)
theorem bS {p:Program}{w:World}{c:Cx}{a:AV}{v:Value}{P:Int→Prop}(h:nF a P)(r:VR p w c a v){Z:Value→Prop}(z:∀x t,P x→Z (.int x t)):Z v:=
 aZ (P:=λa=>VR p w c a v→Z v) h (λy h r=>d4 (P:=λy=>VR p w c (.fr y) v→Z v) h (λx h r=>r.dg (P:=Z) λt=>z x t h) r) r
abbrev WB (G:Ah)(A:Around)(s:Shared)(Q E:Value→Shared→Prop)(f:Value)(vs:List Value):Prop:=wpAny (model G.prog G.w) A (PySem.call f vs) Q E s
theorem alS (hh:q=true→A.handled=none)(aj:At G fs cl L c S s)(ra:VR G.prog G.w c a v)(h:vB1 q id a S K)(p:Ak (VR G.prog G.w) G fs cl L c S s K Q){X:KX}(x:Ai G PE fs cl L c S s X E):WB G A s Q E (.builtin id) [v]:=
 cO h (λe h=>e.symm▸ab6 aj ra K X Q E h p x) λh=>cO h (λe h=>e.symm▸ab4 aj ra K X Q E h p x) λh=>cO h (λe h=>e.symm▸bS (Z:=λv=>WB G A s Q E (.builtin "abs") [v]) h ra λ_ _ h=>ab7 aj K X Q E h p x) λh=>
  cO h (λe h=>e.symm▸aG h λhq h=>mC (hh hq) aj ra K X Q E h p x) False.elim
theorem alT {env:Env}{sc:Scope}(r:Run G A fs env sc cl L n q)(aj:At G fs cl L c S s)(ra:VR G.prog G.w c a v)(rb:VR G.prog G.w c b u)(h:vB2 G q id a b S K)(p:Ak (VR G.prog G.w) G fs cl L c S s K Q){X:KX}(x:Ai G PE fs cl L c S s X E):WB G A s Q E (.builtin id) [v,u]:=
 cO h (λe h=>e.symm▸qD aj ra rb K X Q E h p x) λh=>cO h (λe h=>e.symm▸qE aj ra rb K X Q E h p x) λh=>cO h (λe h=>e.symm▸vm aj ra rb K X Q E h p x) λh=>
  cO h (λe h=>e.symm▸bS (Z:=λv=>WB G A s Q E (.builtin "divmod") [v,u]) h ra λ_ _ h=>bS (Z:=λu=>WB G A s Q E (.builtin "divmod") [_,u]) h rb λ_ _ h=>qH aj K X Q E h p x) λh=>
  cO h (λe h=>e.symm▸aG h λhq h=>bS (Z:=λv=>WB G A s Q E (.builtin "max") [v,u]) h ra λ_ _ h=>bS (Z:=λu=>WB G A s Q E (.builtin "max") [_,u]) h rb λ_ _ h=>ab8 (r.i5 hq) aj K X Q E h p x) λh=>
  cO h (λe h=>e.symm▸aZ (P:=λb=>VR G.prog G.w c b u→_) h (λy h rb=>d5 (P:=λy=>VR G.prog G.w c (.fr y) u→_) h (λy h rb=>rb.dg (P:=λu=>WB G A s Q E (.builtin "isinstance") [v,u]) (by
   cases y with
   |ref C=>exact ab9 r aj ra K X Q E h p x
   |_=>exact h.elim)) rb) rb) False.elim
theorem xN:Bp G PE n q (ahq G q):=λA fs env sc cl L r id args vs c S s aj rs K X Q E h p x=>
 xM h rs (Z:=λvs=>WB G A s Q E (.builtin id) vs) (λa v ra h=>alS r.i5 aj ra h p x) (λa v b u ra rb h=>alT r aj ra rb h p x) λa v b u d t ra rb rd h=>cO h (λe h=>e.symm▸xI aj ra rb rd K X Q E h p x) False.elim
theorem alU (nm:Nat)(aj:At G fs cl L c S s)(ra:VR G.prog G.w c a v)(h:vT1 nm id a S K)(p:Ak (VR G.prog G.w) G fs cl L c S s K Q){X:KX}(x:Ai G PE fs cl L c S s X E):WB G A s Q E (.type id) [v]:=
 cO h (λe h=>e.symm▸vw nm aj ra K X Q E h p x) λh=>cO h (λe h=>e.symm▸bS (Z:=λv=>WB G A s Q E (.type "range") [v]) h ra λ_ _ h=>qJ aj K X Q E h p x) λh=>
  cO h (λe h=>e.symm▸qI aj ra K X Q E h p x) λh=>cO h (λe h=>e.symm▸bS (Z:=λv=>WB G A s Q E (.type "int") [v]) h ra λ_ _ h=>xK aj K X Q E h p x) False.elim
theorem xO (nm:Nat):Bq G PE n q (ahr nm):=λA fs env sc cl L r id args vs c S s aj rs K X Q E h p x=>
 xM h rs (Z:=λvs=>WB G A s Q E (.type id) vs) (λa v ra h=>alU nm aj ra h p x)
  (λa v b u ra rb h=>cO h (λe h=>e.symm▸bS (Z:=λv=>WB G A s Q E (.type "range") [v,u]) h ra λ_ _ h=>bS (Z:=λu=>WB G A s Q E (.type "range") [_,u]) h rb λ_ _ h=>qK aj K X Q E h p x) False.elim)
  λa v b u d t ra rb rd h=>cO h (λe h=>e.symm▸bS (Z:=λv=>WB G A s Q E (.type "range") [v,u,t]) h ra λ_ _ h=>bS (Z:=λu=>WB G A s Q E (.type "range") [_,u,t]) h rb λ_ _ h=>bS (Z:=λt=>WB G A s Q E (.type "range") [_,_,t]) h rd λ_ _ h=>qL aj K X Q E h p x) False.elim
end
set_option backward.match.sparseCases true

set_option backward.match.sparseCases false
def xP (vE:VE)(x:Option Expr)(S:St)(K:Option Int→St→Prop)(X:KX):Prop:=match x with
 |none=>K none S
 |some e=>vE e S (λa S1=>nF a λi=>K (some i) S1) X
def adO (xs:List FV)(lo hi:Option Int)(P:List FV→Prop):Prop:=match lo with
 |none=>match hi with
  |none=>P xs
  |some j=>0≤j∧P (xs.take j.toNat)
 |some i=>match hi with
  |none=>0≤i∧P (xs.drop i.toNat)
  |some j=>0≤i∧i≤j∧j≤Int.ofNat xs.length∧P ((xs.drop i.toNat).take (j.toNat-i.toNat))
def xQ (vE:VE)(nm:Nat)(value:Expr)(lo hi:Option Expr)(S:St)(K:KE)(X:KX):Prop:=
 vE value S (λo S1=>xP vE lo S1 (λl S2=>xP vE hi S2 (λh S3=>dB S3 o λxs=>xs.length≤1000000∧adO xs l h λys=>jw nm ys S3 K) X) X) X
section
variable {G:Ah} {PE:Addr×Nat} {A:Around} {fs:List Env} {cl:List (Str×Addr)} {L:Addr} {c:Cx} {S:St} {s:Shared} {env:Env} {sc:Scope} {n:Nat} {q:Bool} {vE:VE}
abbrev PR:Cx→Option Int→Value→Prop:=λ_ o v=>IsPart v o
theorem oi {x:Option Expr}(h:∀e,x=some e→Ae (VR G.prog G.w) G PE A fs cl L (vE e) (eval e env)):Ae PR G PE A fs cl L (xP vE x) (evalPart x env):=by
 intro c S s a K X Q E v p xp
 cases x with
 |none=>exact evalPart_none env▸wpAny_pure (p.here a v .none)
 |some e=>
  rw [evalPart_some]
  exact h e rfl c S s a _ X _ E v (λc1 a1 S1 b1 aL k1 e1 R1 a8 r1=>bS (Z:=λv=>Q v {s with heap:=c1.h,toks:=aL}) k1 r1 λi t k1=>p c1 (some i) S1 _ aL k1 e1 R1 a8 (.int i t)) xp
theorem Aj.ahl {p:Program}{w:World}{xs:List FV}{vs:List Value}(r:Aj p w c xs vs){lo hi:Option Int}{P:List FV→Prop}(h:adO xs lo hi P){Z:Prop}(z:∀ys ws,slicePick vs.toArray lo hi none=ws.toArray→Aj p w c ys ws→P ys→Z):Z:=by
 cases lo with
 |none=>cases hi with
  |none=>exact z xs vs (slicePick_all _) r h
  |some j=>
   obtain ⟨j,rfl⟩:=Int.eq_ofNat_of_zero_le h.1
   exact z _ (vs.take j) (slicePick_upto' vs.toArray j) (r.take _) h.2
 |some i=>cases hi with
  |none=>
   obtain ⟨i,rfl⟩:=Int.eq_ofNat_of_zero_le h.1
   exact z _ (vs.drop i) (slicePick_from' vs.toArray i) (r.drop _) h.2
  |some j=>
   obtain ⟨i,rfl⟩:=Int.eq_ofNat_of_zero_le h.1
   obtain ⟨j,rfl⟩:=Int.eq_ofNat_of_zero_le (Int.le_trans h.1 h.2.1)
   exact z _ ((vs.drop i).take (j-i)) (slicePick_run vs.toArray i j (show j≤vs.length from r.len▸Int.ofNat_le.mp h.2.2.1) (Int.ofNat_le.mp h.2.1)) ((r.drop _).take _) h.2.2.2
theorem qM (nm:Nat)(value:Expr)(lo hi:Option Expr)(p pos:Pos)(hv:Ae (VR G.prog G.w) G PE A fs cl L (vE value) (eval value env))(hl:∀e,lo=some e→Ae (VR G.prog G.w) G PE A fs cl L (vE e) (eval e env))(hh:∀e,hi=some e→Ae (VR G.prog G.w) G PE A fs cl L (vE e) (eval e env)):
  Ae (VR G.prog G.w) G PE A fs cl L (xQ vE nm value lo hi) (eval (.Subscript value (.Slice lo hi none p) pos) env):=by
 intro c S s a K X Q E v pp xp
 refine Subscript_ (hv c S s a _ X _ E v (λc1 o S1 u aL k1 e1 R1 a8 r1=>?_) xp)
 have p1:=pp.ak a.aF R1 e1 a8 aL
 have x1:=xp.ak a.aF R1 e1 a8 aL
 have A1:=a.ak R1 aL
 refine wpAny_Slice (oi (PE:=PE) hl c1 S1 _ A1 _ X _ E k1 (λc2 l S2 u2 bG k2 e2 R2 cj r2=>?_) x1)
 have p2:=p1.ak R1 R2 e2 cj bG
 have x2:=x1.ak R1 R2 e2 cj bG
 have A2:=A1.ak R2 bG
 refine oi (PE:=PE) hh c2 S2 _ A2 _ X _ E k2 (λc3 h S3 u3 fR k3 e3 R3 iA r3=>?_) x2
 have p3:=p2.ak R2 R3 e3 iA fR
 have A3:=A2.ak R3 fR
 rw [evalPart_none]
 refine wpAny_pure (bP k3 ((r1.aw e2.le).aw e3.le) R3 λxs l k3=>?_)
 cases l with
 |mk eo ro=>
  rename_i ad vs n
  refine ro.ahl k3.2 λys ws e4 r4 k4=>?_
  -- the slice's object
  have kp:∀b o,c3.h.get? b=some o→(c3.h.push {cls:=.type "slice",data:=.fields #[u2,u3,.none]}).get? b=some o:=λb o e=>Heap.get?_push_of_some _ e
  obtain ⟨R4,E4⟩:=R3.nL (h':=c3.h.push {cls:=.type "slice",data:=.fields #[u2,u3,.none]}) (Nat.le_of_lt (bl _ _)) kp
  have el:=kp _ _ eo
  refine vx (T := "list") ⟨_,el,rfl⟩ slot_list_getitem.lookup (wpAny_getItem_list_slice (items:=vs.toArray) ⟨_,el,rfl,n,rfl⟩ (Heap.IsSliceOf.new ..) r2 r3 .none (by simp) ?_ (sz (show vs.length≤_ from ro.len▸Nat.le_trans k3.1 (by decide))))
  rw [e4]
  exact mj nm ⟨R4,rfl⟩ (r4.aw E4.le) k4 (p3.ak R3 R4 E4 rfl fR) fR
where
 vx {prog:Program} {w:World} {A:Around} {E:Value→Shared→Prop} {s:Shared} {value:Expr} {lo hi:Option Expr} {p:Pos} {o i:Value} {T id:String} {Q:Value→Shared→Prop} (hT:s.TypeIs o T)
   (hl:typeLookup (.type T) "__getitem__" = pure (some (.builtin id))) (h:wpAny (model prog w) A (getItem o i) Q E s):wpAny (model prog w) A (subscriptTail value (.Slice lo hi none p) o i) Q E s:=by
  unfold subscriptTail
  refine wpAny_bind ?_
  rw [getitemInPython_of_ne hT.not_modules]
  refine wpAny_bind (wpAny_specialOf hT hl ?_)
  have dJ:wpAny (model prog w) A (subscripted (.Slice lo hi none p) false o i) (λr s₃=>wpAny (model prog w) A (letTemporaryGo value o r >>= λ_=>pure r) Q E s₃) E s:=by
   show wpAny (model prog w) A (operate [i,o] (getItem o i)) _ E s
   exact wpAny_operating (wpAny_mono h (λr s₃ h₃=>wpAny_bind (wpAny_letTemporaryGo (wpAny_pure h₃))) λ_ _ x=>x)
  first
   |exact wpAny_pure (wpAny_bind dJ)
   |exact wpAny_bind (wpAny_pure (wpAny_bind dJ))
   |exact wpAny_bind dJ
end
noncomputable def dE {K:Type}(kc:Expr→Option K):List (Option Expr)→Option (List K)
 | []=>some []
 |none::_=>none
 |some e::r=>match kc e with
  |some k=>match dE kc r with
   |some l=>some (k::l)
   |none=>none
  |none=>none
noncomputable def kcS:Expr→Option Str
 |.Constant (.str x) _ _=>some x
 |_=>none
noncomputable def kcB:Expr→Option (List UInt8)
 |.Constant (.bytes x) _ _=>some x
 |_=>none
noncomputable def qN {K:Type}[BEq K]:List K→Bool
 | []=>true
 |k::r => !r.contains k&&qN r
theorem xR {K:Type}[BEq K][LawfulBEq K]{l:List K}:qN l=true→l.Nodup:=by
 induction l with
 |nil=>exact λ_=>List.nodup_nil
 |cons k r ih=>
  intro h
  have h:=Bool.and_eq_true_iff.mp h
  exact List.nodup_cons.mpr ⟨λhm=>by have:=h.1; rw [List.contains_iff_mem.mpr hm] at this; exact Bool.noConfusion this,ih h.2⟩
theorem iS {K:Type}{kc:Expr→Option K}{k0:Option Expr}{r:List (Option Expr)}{ks:List K}(h:dE kc (k0::r)=some ks){P:Option Expr→List K→Prop}(z:∀e k l,kc e=some k→dE kc r=some l→P (some e) (k::l)):P k0 ks:=by
 cases k0 with
 |none=>exact nS h
 |some e=>
  have h:(match kc e with|some k=>(match dE kc r with|some l=>some (k::l)|none=>none)|none=>none)=some ks:=h
  cases h1:kc e with
  |none=>rw [h1] at h; exact nS h
  |some k=>cases h2:dE kc r with
   |none=>rw [h1,h2] at h; exact nS h
   |some l=>rw [h1,h2] at h; exact Option.some.inj h▸z e k l h1 h2
def dOk {K:Type}[BEq K](aI:List Expr)(ks:List K):Bool:=Nat.beq aI.length ks.length&&Nat.ble aI.length 15&&qN ks
def alV (nm:Nat)(S:St)(K:KE):Prop:=match nm with
 |0=>K (.fr (.ds [])) S
 |m+1=>K (.own (m+1) S.aa) (S.i4 (m+1) (.dict []))
def qO (vE:VE)(aP:List (Option Expr))(aI:List Expr)(S:St)(K:KE)(X:KX):Prop:=match dE kcS aP with
 |some ks=>cV (dOk aI ks) <| dC vE aI S (λas S1=>lm as S1 λxs S2=>K (.fr (.ds (ks.zip xs))) S2) X
 |none=>bW (dE kcB aP) λks=>cV (dOk aI ks) <| dC vE aI S (λas S1=>lm as S1 λxs S2=>K (.fr (.db (ks.zip xs))) S2) X
def adP (vE:VE)(nm:Nat)(aP:List (Option Expr))(aI:List Expr)(S:St)(K:KE)(X:KX):Prop:=match aP with
 | []=>match aI with
  | []=>alV nm S K
  |_::_=>False
 |k0::kr=>qO vE (k0::kr) aI S K X
section
variable {G:Ah} {PE:Addr×Nat} {A:Around} {fs:List Env} {cl:List (Str×Addr)} {L:Addr} {c:Cx} {S:St} {s:Shared} {env:Env} {sc:Scope} {n:Nat} {q:Bool} {vE:VE}
theorem vy {M:Model}{e:Expr}{x:Str}(h:kcS e=some x){Q E:Value→Shared→Prop}(k:∀v tk,(∃t,v=.str x t)→Q v {s with toks:=tk}):wpAny M A (eval e env) Q E s:=by
 cases e with
 |Constant c=>cases c with
  |str y=>
   have e:=Option.some.inj h
   subst e
   exact wpAny_Constant_str (k _ _ ⟨_,rfl⟩)
  |_=>exact nS h
 |_=>exact nS h
theorem oj {M:Model}{e:Expr}{x:List UInt8}(h:kcB e=some x){Q E:Value→Shared→Prop}(k:∀v tk,(∃t,v=.bytes x.toArray t)→Q v {s with toks:=tk}):wpAny M A (eval e env) Q E s:=by
 cases e with
 |Constant c=>cases c with
  |bytes y=>
   have e:=Option.some.inj h
   subst e
   exact Constant_bytes (k _ _ ⟨_,rfl⟩)
  |_=>exact nS h
 |_=>exact nS h
def DR {K:Type}[DecidableEq K](G:Ah)(knd:KeyKind G.prog G.w K)(ks:List K)(c:Cx)(as:List AV)(vs:List (Value×Value)):Prop:=∃i8,Al G.prog G.w c as i8∧Carries knd vs (ks.zip i8)∧i8.length=ks.length
theorem vz {K:Type}[DecidableEq K]{knd:KeyKind G.prog G.w K}{kc:Expr→Option K}{pos:Pos}
  (hk:∀e k,kc e=some k→∀(s:Shared) (Q E:Value→Shared→Prop),(∀v tk,knd.is k v=true→Q v {s with toks:=tk})→wpAny (model G.prog G.w) A (eval e env) Q E s) {aP:List (Option Expr)}:
  ∀{aI:List Expr} {ks:List K},dE kc aP=some ks→aI.length=ks.length→(∀e,e∈aI→Ae (VR G.prog G.w) G PE A fs cl L (vE e) (eval e env))→
  ∀{Z:Prop},(∀fZ:List (Sem Value×Sem Value),(evalEachOpt aP env).zip ((evalEach aI env).map λv=>do let x ←v; standAt pos; pure x)=fZ.map (λp=>(some p.1,p.2))→fZ.length=aI.length→Ae (DR G knd ks) G PE A fs cl L (dC vE aI) (evalPairs fZ)→Z)→Z:=by
 induction aP with
 |nil=>
  intro aI ks e hl _ Z z
  have e:=Option.some.inj e
  subst e
  cases aI with
  |nil=>exact z [] rfl rfl λc S s a K X Q E v p x=>evalPairs_nil (p.here a v ⟨[],.nil,trivial,rfl⟩)
  |cons=>exact nomatch hl
 |cons k0 aP ih=>
  intro aI ks e hl hv Z z
  refine iS e (P:=λk0 ks=>aI.length=ks.length→(∀fZ:List (Sem Value×Sem Value),(evalEachOpt (k0::aP) env).zip ((evalEach aI env).map λv=>do let x ←v; standAt pos; pure x)=fZ.map (λp=>(some p.1,p.2))→fZ.length=aI.length→Ae (DR G knd ks) G PE A fs cl L (dC vE aI) (evalPairs fZ)→Z)→Z) (λke k l hke hkl hl z=>?_) hl z
  cases aI with
  |nil=>exact nomatch hl
  |cons ve aI=>
   refine ih hkl (Nat.succ.inj hl) (λe he=>hv e (.tail _ he)) λfZ h1 h2 h3=>z ((eval ke env,do let x ←eval ve env; standAt pos; pure x)::fZ) (congrArg (_ :: ·) h1) (congrArg Nat.succ h2) λc S s a KK X Q E v p x=>?_
   refine evalPairs_cons (hk ke k hke s _ _ λkv tk hkv=>wpAny_bind (hv ve (.head _) c S {s with toks:=tk} ⟨a.aF,a.heap⟩ _ X _ E v (λc1 a1 S1 b1 aL k1 e1 R1 a8 r1=>wpAny_bind (wpAny_standAt (wpAny_pure ?_))) x))
   refine h3 c1 S1 _ ⟨R1,rfl⟩ _ X _ E k1 (λc2 as S2 vs bG k2 e2 R2 cj r2=>?_) (x.ak a.aF R1 e1 a8 aL)
   obtain ⟨i8,q1,q2,q3⟩:=r2
   exact p.ak a.aF R1 e1 a8 aL c2 (a1::as) S2 ((kv,b1)::vs) bG k2 e2 R2 cj ⟨b1::i8,.cons (r1.aw e2.le) q1,⟨hkv,rfl,q2⟩,congrArg Nat.succ q3⟩
theorem tO (r:Run G A fs env sc cl L n q)(R:Ad G.prog G.w G.h0 fs cl c L S){a:Addr}(ha:c.h.objs.size≤a):(a==sysModules)=false:=
 beq_eq_false_iff_ne.mpr (Nat.ne_of_gt (Nat.lt_of_lt_of_le (modules_low (r.ok.lim.keeps R.bj)) ha))
theorem jI (r:Run G A fs env sc cl L n q){K:Type}[DecidableEq K][BEq K][LawfulBEq K]{knd:KeyKind G.prog G.w K}{kc:Expr→Option K}{pos:Pos}{mk:List (K×FV)→FV}
  (hk:∀e k,kc e=some k→∀(s:Shared) (Q E:Value→Shared→Prop),(∀v tk,knd.is k v=true→Q v {s with toks:=tk})→wpAny (model G.prog G.w) A (eval e env) Q E s)
  (hmk:∀(c:Cx) (ks:List K) (xs:List FV) (vs:List Value) (a:Addr),ks.length=xs.length→c.fz a→(a==sysModules)=false→c.h.DictOf knd a (ks.zip vs)→Aj G.prog G.w c xs vs→FR G.prog G.w c (mk (ks.zip xs)) (.ref a))
  {aP:List (Option Expr)} {aI:List Expr} {ks:List K} (e:dE kc aP=some ks) (h1:aI.length=ks.length) (h2:aI.length≤15) (h3:ks.Nodup) (h0:aI≠[]) (hv:∀e,e∈aI→Ae (VR G.prog G.w) G PE A fs cl L (vE e) (eval e env)):
  Ae (VR G.prog G.w) G PE A fs cl L (λS K X=>dC vE aI S (λas S1=>lm as S1 λxs S2=>K (.fr (mk (ks.zip xs))) S2) X) (eval (.Dict aP aI pos) env):=by
 intro c S s a KK X Q E v p x
 refine vz (PE:=PE) (pos:=pos) hk e h1 hv λfZ q1 q2 q3=>wpAny_Dict_pairs (knd:=knd) q1 (λz=>h0 (List.eq_nil_of_length_eq_zero (q2.symm.trans (congrArg List.length z)))) (q2▸h2) ?_
 have hh:=a.heap
 have kp:∀b o,c.h.get? b=some o→(s.heap.push {cls:=.type "dict",data:=.dict #[]}).get? b=some o:=λb o e=>Heap.get?_push_of_some _ (hh▸e)
 obtain ⟨R1,E1⟩:=a.aF.nL (h':=s.heap.push {cls:=.type "dict",data:=.dict #[]}) (hh▸Nat.le_of_lt (bl _ _)) kp
 have P1:Ac G.h0 fs L {c with h:=s.heap.push {cls:=.type "dict",data:=.dict #[]}} S s.heap.objs.size:=Ac.new a.aF (Nat.le_of_eq (congrArg (·.objs.size) hh)) (bl _ _)
 refine q3 _ S _ ⟨R1,rfl⟩ _ X _ E v (λc2 as S2 vs bG k2 e2 R2 cj r2=>?_) (x.ak a.aF R1 E1 rfl s.toks)
 obtain ⟨i8,w1,w2,w3⟩:=r2
 refine lp k2 w1 R2 λc3 xs S3 k3 r3 R3 E3 g3 iA=>⟨ks.zip i8,w2,?_,λh' hd' qP=>?_⟩
 ·obtain ⟨o,es,ep,ho,rr⟩:=Heap.DictOf.new (knd:=knd) s.heap
  exact ⟨o,es,ep,P1.get e2 ho,rr⟩
 have P3:=(P1.fQ R1 R2 e2).fQ R2 R3 E3
 have hm:merged [] (ks.zip i8)=ks.zip i8:=merged_append_of_fresh [] _ (by rw [List.nil_append,List.map_fst_zip (Nat.le_of_eq w3.symm)]; exact h3)
 rw [hm] at hd'
 rw [←g3] at qP
 have kp4:∀b o,c3.h.get? b=some o→¬(b=s.heap.objs.size)→h'.get? b=some o:=λb o e ne=>(qP.2 b ne).trans e
 have z0:∀b,b=s.heap.objs.size→c.h.objs.size≤b:=λb e=>Nat.le_of_eq (hh▸e.symm)
 obtain ⟨R4,PP⟩:=R3.jC (F:=λb=>b=s.heap.objs.size) (h':=h') (λb e=>e▸P3) (Nat.le_of_eq qP.1.symm) kp4
 have E4:=((E1.trans a.aF.kn R1.kn e2).trans a.aF.kn R2.kn E3).jC (h0:=G.h0) (F:=λb=>b=s.heap.objs.size) (h':=h') (λb e=>⟨e▸P3,z0 b e⟩) (Nat.le_of_eq qP.1.symm) kp4
 have l5:Le c3 {c3 with h:=h',fz:=λa=>c3.fz a∨a=s.heap.objs.size}:=⟨Nat.le_refl _,λ_ _=>rfl,λ_ h=>.inl h,λa o f e=>kp4 a o e λz=>P3.fz (z▸f)⟩
 exact p _ _ S3 (.ref s.heap.objs.size) _ k3 (E4.eA z0) (R4.eA λb e=>e▸PP _ P3) (iA.trans cj) (.fr (hmk _ ks xs i8 _ (w3.symm.trans r3.len.symm) (.inr rfl) (tO r a.aF (z0 _ rfl)) hd' (r3.aw l5)))
theorem fj {K:Type}[BEq K][LawfulBEq K]{aI:List Expr}{ks:List K}(h:dOk aI ks=true):aI.length=ks.length∧aI.length≤15∧ks.Nodup:=
 have h:=Bool.and_eq_true_iff.mp h
 have h1:=Bool.and_eq_true_iff.mp h.1
 ⟨Nat.eq_of_beq_eq_true h1.1,Nat.le_of_ble_eq_true h1.2,xR h.2⟩
theorem vA (r:Run G A fs env sc cl L n q)(nm:Nat)(aP:List (Option Expr))(aI:List Expr)(pos:Pos)(hv:∀e,e∈aI→Ae (VR G.prog G.w) G PE A fs cl L (vE e) (eval e env)):Ae (VR G.prog G.w) G PE A fs cl L (adP vE nm aP aI) (eval (.Dict aP aI pos) env):=by
 cases aP with
 |nil=>cases aI with
  |cons=>exact λc S s a K X Q E v p x=>v.elim
  |nil=>
   intro c S s a K X Q E v p x
   rw [eval_Dict_empty]
   refine wpAny_bind (wpAny_standAt (wpAny_newObj_type ?_))
   have abb:=tO r a.aF (Nat.le_refl c.h.objs.size)
   have hd:=Heap.DictOf.new (knd:=strKind G.prog G.w) c.h
   rw [←a.heap]
   cases nm with
   |zero=>
    obtain ⟨R',E'⟩:=a.aF.jk {cls:=.type "dict",data:=.dict #[]}
    exact p _ _ _ (.ref c.h.objs.size) s.toks v E' R' rfl (.fr (.ds (ks:=[]) (xs:=[]) (vs:=[]) rfl rfl (.inr rfl) abb hd .nil))
   |succ m=>
    obtain ⟨c',R',E',e1,e2,e3⟩:=a.aF.i4 (m:=m+1) (o:=.dict []) (h':=c.h.push {cls:=.type "dict",data:=.dict #[]}) (a:=c.h.objs.size) (Nat.le_of_lt (bl _ _)) (λb o e=>Heap.get?_push_of_some _ e) (Nat.le_refl _) (bl _ _)
     λc' l q1 q2 q3 q4=>⟨[],q1▸hd,abb,.nil⟩
    have:=p c' _ _ (.ref (c'.ρ S.aa)) s.toks v E' R' (cM a.aF.eW a.aF.dO).2.ai (.own (m+1) S.aa (e3▸Nat.lt_succ_self _))
    rw [e1,e2] at this
    exact this
 |cons k0 kr=>
  intro c S s a K X Q E v p x
  have ne:∀{T:Type} {kc:Expr→Option T} {ks:List T},dE kc (k0::kr)=some ks→aI.length=ks.length→aI≠[]:=λ{T kc ks} e hl hn=>by
   subst hn
   exact iS e (P:=λ_ ks=>([]:List Expr).length=ks.length→False) (λ_ _ _ _ _ hl=>nomatch hl) hl
  have v:qO vE (k0::kr) aI S K X:=v
  unfold qO at v
  cases jJ:dE kcS (k0::kr) with
  |some ks=>
   rw [jJ] at v
   refine aG v λhb v=>jI (PE:=PE) r (knd:=strKind G.prog G.w) (kc:=kcS) (mk:=.ds) (λe k he s Q E kk=>vy he λv tk hv=>kk v tk ?_) (λc ks xs vs a hl f h d r=>?_) jJ (fj hb).1 (fj hb).2.1 (fj hb).2.2 (ne jJ (fj hb).1) hv c S s a K X Q E v p x
   ·obtain ⟨t,rfl⟩:=hv; exact strKind_is _ _ _ _
   ·exact .ds rfl rfl f h (by rw [List.map_fst_zip (Nat.le_of_eq hl)]; exact d) (by rw [List.map_snd_zip (Nat.le_of_eq hl.symm)]; exact r)
  |none=>
   rw [jJ] at v
   refine au v λks jJ v=>aG v λhb v=>jI (PE:=PE) r (knd:=bytesKind G.prog G.w) (kc:=kcB) (mk:=.db) (λe k he s Q E kk=>oj he λv tk hv=>kk v tk ?_) (λc ks xs vs a hl f h d r=>?_) jJ (fj hb).1 (fj hb).2.1 (fj hb).2.2 (ne jJ (fj hb).1) hv c S s a K X Q E v p x
   ·obtain ⟨t,rfl⟩:=hv; exact bytesKind_is _ _ _ _
   ·exact .db rfl rfl f h (by rw [List.map_fst_zip (Nat.le_of_eq hl)]; exact d) (by rw [List.map_snd_zip (Nat.le_of_eq hl.symm)]; exact r)
end
section
variable {prog:Program} {w:World} {A:Around} {E:Value→Shared→Prop} {s:Shared}
theorem vC {it l:Addr}{items:Array Value}(lB:l≠it)(n:Nat):∀(i:Nat) (s:Shared) (Q:List Value→Shared→Prop),s.heap.IsListIter it l i→s.heap.IsList l items→i+n≤items.size→
  (∀h',h'.IsListIter it l (i+n)→Heap.SameBut it s.heap h'→Q ((items.toList.drop i).take n) {s with heap:=h'})→wpAny (model prog w) A (draw (.ref it) n) Q E s:=by
 induction n with
 |zero=>exact λi s Q hit _ _ hQ=>wpAny_pure (hQ s.heap hit (Heap.SameBut.refl ..))
 |succ n ih=>
  intro i s Q hit ht hle hQ
  have hlt:i<items.size:=by lia
  refine wpAny_bind (wpAny_pyNext_list_item hit ht (x:=items[i]) (Array.getElem?_eq_getElem hlt) λh₁ ahs wD=>wpAny_bind (wpAny_holding (ih (i+1) _ _ ahs (ht.extBut wD.extBut lB) (by lia) λh₂ arP hs₂=>wpAny_pure ?_)))
  have:=hQ h₂ (by rw [show i+(n+1)=i+1+n by lia]; exact arP) (wD.trans hs₂)
  rw [show items.toList.drop i=items[i]::items.toList.drop (i+1) by simp [List.drop_eq_getElem_cons,hlt],List.take_succ_cons] at this
  exact this
theorem iC {t:Addr}{items:Array Value}{Q:List Value→Shared→Prop}(hh:A.handled=none)(ht:s.heap.IsList t items)
  (hQ:∀h',Heap.ExtBut s.heap.objs.size s.heap h'→Q items.toList {s with heap:=h'}):wpAny (model prog w) A (unpackItems (.ref t) items.size none) Q E s:=by
 have hlt:t≠s.heap.objs.size:=(ht).elim λo q=>q.elim λho _=>Nat.ne_of_lt (Heap.lt_size ho)
 have eC:List.take items.size (List.drop 0 items.toList)=items.toList:=List.take_of_length_le (Nat.le_refl _)
 unfold unpackItems
 refine wpAny_bind ?_
 unfold notIterableAtAll
 refine wpAny_bind (wpAny_specialOf ht.typeIs slot_list_iter.lookup (wpAny_pure (nH (by decide) (wpAny_bind (wpAny_holding (wpAny_pyIter_list ht (wpAny_bind (wpAny_holding (vC hlt items.size 0 _ _ ⟨_,Heap.get?_push_size _ rfl,rfl,rfl⟩ (ht.push _) (by lia) λh₁ ahs wD=>?_)))))))))
 rw [eC]
 exact nH (by simp) (wpAny_bind (wpAny_holding (wpAny_pyNext_list_end hh ahs ((ht.push _).extBut wD.extBut hlt) (by simp) λh₂ he₂=>nH (by decide) (wpAny_pure (hQ h₂ λb o hb e=>he₂ b o hb (wD.extBut b o hb (Heap.get?_push_of_some _ e)))))))
end
def lC (G:Ah)(m k:Nat)(a:Str)(K:St→Prop)(v:AV)(S:St):Prop:=bW (S.get m) λr=>jt r.2 λC dn di=>k=r.1∧bW (S.get dn) λr=>aaO r.2 λl=>di=r.1∧bW (iR C G.cls) λci=>cV (ci.attrs.contains a&&Nat.ble l.length 1000) (K (S.set dn (.be (cC a v l))))
def xS (G:Ah)(ov:AV)(a:Str)(v:AV)(S:St)(K:St→Prop):Prop:=onO ov λm k=>match v with
 |.fr x=>lC G m k a K (.fr x) S
 |.own m' k'=>match Nat.blt m' 90 with
  |true=>lC G m k a K (.own m' k') S
  |false=>jv (.own m' k') S λx S1=>lC G m k a K (.fr x) S1
def adQ (ov iv:AV)(v:AV)(S:St)(K:St→Prop):Prop:=onO ov λm k=>jv v S λx S1=>bW (S1.get m) λr=>match r.2 with
 |.list xs=>k=r.1∧gw iv λy=>gA y λi=>0≤i∧i<Int.ofNat xs.length∧xs.length≤1000000∧K (S1.set m (.list (xs.set i.toNat x)))
 |.dict fs=>k=r.1∧gw iv λy=>onStr y λw=>fs.length≤1000000∧K (S1.set m (.dict (cC w x fs)))
 |_=>False
section
variable {G:Ah} {PE:Addr×Nat} {A:Around} {fs:List Env} {cl:List (Str×Addr)} {L:Addr} {c:Cx} {S:St} {s:Shared} {env:Env} {sc:Scope} {n:Nat} {q:Bool} {vE:VE}
theorem jK (r:Run G A fs env sc cl L n q){a:Str}{m k:Nat}{v:AV}{u:Value}(aj:At G fs cl L c S s)(rv:VR G.prog G.w c v u){K:Unit→St→Prop}{Q:Unit→Shared→Prop}{E:Value→Shared→Prop}(h:lC G m k a (K ()) v S)(p:Ak UR G fs cl L c S s K Q):wpAny (model G.prog G.w) A (setAttr (.ref (c.ρ k)) a u) Q E s:=
 au h λy e1 h=>fE (P:=λo=>S.get m=some (y.1,o)→_) h (λC dn di h e1=>au h.2 λz e2 h2=>ma (P:=λo=>S.get dn=some (z.1,o)→_) h2 (λl h2 e2=>au h2.2 λci hci h3=>aG h3 λhb h3=>
  have hb:=Bool.and_eq_true_iff.mp hb
  h.1.symm▸w0 r.ok aj.aF aj.heap e1 (h2.1.symm▸e2) (fG hci) (List.contains_iff_mem.mp hb.1) (Nat.le_of_ble_eq_true hb.2) rv λc' tk R' E'=>p c' () _ () tk h3 E' R' (gC aj.aF.eW e2).2.ai trivial) e2) e1
theorem ol (r:Run G A fs env sc cl L n q)(a:Str){ov v:AV}{o u:Value}(aj:At G fs cl L c S s)(ro:VR G.prog G.w c ov o)(rv:VR G.prog G.w c v u):Ap UR G PE A fs cl L c S s (λK _=>xS G ov a v S (K ())) (setAttr o a u):=by
 intro K X Q E h p _
 refine js (P:=λov=>VR G.prog G.w c ov o→_) h (λm k h ro=>?_) ro
 obtain ⟨rfl,hkn⟩:=ro.bc
 cases v with
 |fr x=>exact jK r aj rv h p
 |own m' k'=>
  have h:(match Nat.blt m' 90 with|true=>lC G m k a (K ()) (.own m' k') S|false=>jv (.own m' k') S λx S1=>lC G m k a (K ()) (.fr x) S1):=h
  cases hb:Nat.blt m' 90 with
  |true=>rw [hb] at h; exact jK r aj rv h p
  |false=>rw [hb] at h; exact cN h rv aj.aF λc1 x S1 h1 r1 R1 E1 hh g1=>E1.le.ρ k hkn▸jK r (aj.same R1 hh) (.fr r1) h1 (p.same aj R1 E1 g1 hh)
theorem Aj.set {p:Program}{w:World}{x:FV}{v:Value}(h:FR p w c x v){xs:List FV}{vs:List Value}(r:Aj p w c xs vs):∀n,Aj p w c (xs.set n x) (vs.set n v):=
 r.la (P:=λxs vs=>∀n,Aj p w c (xs.set n x) (vs.set n v)) (λ_=>.nil) λa r ih n=>match n with
  |0=>.cons h r
  |n+1=>.cons a (ih n)
theorem qQ {K:Type}[DecidableEq K]{k:K}{b v:Value}{r:List (K×Value)}(h:∀p∈r,p.1≠k):stored ((k,b)::r) k v=(k,v)::r:=by
 unfold stored
 rw [if_pos (by simp),List.map_cons,if_pos rfl,List.map_congr_left (f:=λkv=>if kv.1=k then (kv.1,v) else kv) (g:=id) λp hp=>if_neg (h p hp),List.map_id]
theorem om {K:Type}[DecidableEq K]{k y:K}{b v:Value}{r:List (K×Value)}(h:y≠k):stored ((y,b)::r) k v=(y,b)::stored r k v:=by
 unfold stored
 rw [show (((y,b)::r).any λkv=>decide (kv.1=k))=r.any λkv=>decide (kv.1=k) by rw [List.any_cons,decide_eq_false h]; rfl]
 by_cases q:(r.any λkv=>decide (kv.1=k))=true
 ·rw [if_pos q,if_pos q,List.map_cons,if_neg h]
 ·rw [if_neg q,if_neg q]; rfl
theorem qR {p:Program}{wd:World}{cx:Cx}{w:Str}{x:FV}{v:Value}(hv:FR p wd cx x v){fs:List (Str×FV)}:∀{vs:List Value},(fs.map (·.1)).Nodup→Aj p wd cx (fs.map (·.2)) vs→
  ∃ws,stored ((fs.map (·.1)).zip vs) w v=((cC w x fs).map (·.1)).zip ws∧Aj p wd cx ((cC w x fs).map (·.2)) ws:=by
 induction fs with
 |nil=>exact λ_ _=>⟨[v],rfl,.cons hv .nil⟩
 |cons f fs ih=>
  intro vs hn h
  have hn:=List.nodup_cons.mp hn
  refine h.el (P:=λvs=>∃ws,stored ((f.1::fs.map (·.1)).zip vs) w v=((cC w x (f::fs)).map (·.1)).zip ws∧Aj p wd cx ((cC w x (f::fs)).map (·.2)) ws) λu us hu hr=>?_
  have e:cC w x (f::fs)=match w==f.1 with|true=>(f.1,x)::fs|false=>f::cC w x fs:=rfl
  rw [e]
  cases q:w==f.1 with
  |true => 
   have q:=eq_of_beq q
   subst q
   exact ⟨v::us,qQ λp hp e=>hn.1 (show f.1∈fs.map (·.1) from (show p.1=f.1 from e)▸(List.of_mem_zip (show (p.1,p.2)∈_ from hp)).1),.cons hv hr⟩
  |false=>
   obtain ⟨ws,e1,e2⟩:=ih hn.2 hr
   exact ⟨u::ws,(om (Ne.symm (ne_of_beq_false q))).trans (congrArg _ e1),.cons hu e2⟩
theorem xT {ov iv v:AV}{o i u:Value}(aj:At G fs cl L c S s)(ro:VR G.prog G.w c ov o)(ri:VR G.prog G.w c iv i)(rv:VR G.prog G.w c v u):Ap UR G PE A fs cl L c S s (λK _=>adQ ov iv v S (K ())) (setItem o i u):=by
 intro K X Q E h p _
 refine js (P:=λov=>VR G.prog G.w c ov o→_) h (λm k h ro=>?_) ro
 obtain ⟨rfl,hkn⟩:=ro.bc
 refine cN h rv aj.aF λc1 x S1 h r1 R1 E1 hh g1=>au h λy e h=>?_
 have at1:=aj.same R1 hh
 have p1:=p.same aj R1 E1 g1 hh
 have ri:=ri.aw E1.le
 rw [←E1.le.ρ k hkn]
 obtain ⟨j,o⟩:=y
 cases o with
 |list xs=>
  obtain ⟨rfl,h⟩:=h
  refine aZ (P:=λiv=>VR G.prog G.w c1 iv i→_) h (λy h ri=>d4 (P:=λy=>VR G.prog G.w c1 (.fr y) i→_) h (λz h ri=>ri.dg (P:=λi=>wpAny (model G.prog G.w) A (setItem (.ref (c1.ρ k)) i u) Q E s) λt=>?_) ri) ri
  obtain ⟨vs,n,e1,e2⟩:=R1.d6 e
  refine xU (at1.heap▸e1) h.1 (Int.lt_of_lt_of_le h.2.1 (Int.le_trans (Int.ofNat_le.mpr h.2.2.1) (by decide))) (e2.len▸h.2.1) λh' hl' hs=>?_
  obtain ⟨n',hl'⟩:=hl'
  exact dj (o':=.list (xs.set z.toNat x)) at1 e hs (λlc=>⟨vs.set z.toNat u,n',hl',(Aj.set r1 e2 _).aw lc⟩) h.2.2.2 p1 (λ_ _=>trivial) s.toks
 |dict fl=>
  obtain ⟨rfl,h⟩:=h
  refine aZ (P:=λiv=>VR G.prog G.w c1 iv i→_) h (λy h ri=>nJ (P:=λy=>VR G.prog G.w c1 (.fr y) i→_) h (λwd h ri=>ri.dg (P:=λi=>wpAny (model G.prog G.w) A (setItem (.ref (c1.ρ k)) i u) Q E s) λt=>?_) ri) ri
  obtain ⟨vs,d,abb,e2⟩:=R1.d6 e
  have hl:(fl.map (·.1)).length=vs.length:=(List.length_map _).trans ((List.length_map _).symm.trans e2.len)
  have hn:(fl.map (·.1)).Nodup:=by
   obtain ⟨_,_,_,_,_,_,_,_,hn⟩:=d
   rwa [List.map_fst_zip (Nat.le_of_eq hl)] at hn
  obtain ⟨ws,e3,e4⟩:=qR (w:=wd) r1 hn e2
  refine wpAny_setItem_pairs (strKind_is _ _ _ _) (at1.heap▸d) (λh' hd hs=>?_) (by rw [List.length_zip,←hl,Nat.min_self,List.length_map]; exact Nat.le_trans h.1 (by rw [sizeLine_eq]; decide))
  exact dj (o':=.dict (cC wd x fl)) at1 e hs (λlc=>⟨ws,e3▸hd,abb,e4.aw lc⟩) h.2 p1 (λ_ _=>trivial) _
 |_=>exact h.elim
where
 xU {l:Addr} {vs:List Value} {n:Nat} {k:Int} {t:Tok} {v:Value} {Q:Unit→Shared→Prop} {E:Value→Shared→Prop} (e:s.heap.get? l=some (listOf vs.toArray n)) (h0:0≤k) (arQ:k<2 ^ 63) (hn:k<vs.length)
   (hQ:∀h',(∃n',h'.get? l=some (listOf (vs.set k.toNat v).toArray n'))→Heap.SameBut l s.heap h'→Q () {s with heap:=h'}):wpAny (model G.prog G.w) A (setItem (.ref l) (.int k t) v) Q E s:=by
  have hT:s.TypeIs (.ref l) "list" := ⟨_,e,rfl⟩
  have hj:k.toNat<vs.toArray.size:=by simp; lia
  unfold setItem
  try with_reducible refine wpAny_holding ?_
  first|refine wpAny_bind (wpAny_pure ?_)|skip
  refine wpAny_bind (wpAny_sequenceKey hT (by decide) (wpAny_bind (wpAny_callSpecial?_slot (name:=Str.ofString "__setitem__") hT slot_list_setitem (wpAny_call_entry slot_list_setitem hT entry_list_setitem ?_ (args_list_setitem _ _ _)))))
  show wpAny _ _ (Builtin.List.listSubscript? (.int k t) >>= _) _ _ s
  refine wpAny_bind (wpAny_listSubscript_int (fitsIndex_of h0 arQ) ?_)
  obtain ⟨j,rfl⟩:=Int.eq_ofNat_of_zero_le h0
  have hx:vs.toArray[j]?=some (vs.toArray[j]'hj):=Array.getElem?_eq_getElem hj
  show wpAny _ _ ((seqItemAt l j >>= λr=>pure (r.map (j,·))) >>= _) _ _ s
  refine wpAny_bind (wpAny_bind (wpAny_seqItemAt e rfl (wpAny_pure ?_)))
  rw [hx]
  show wpAny _ _ (setSeqItemAt l j v >>= _) _ _ s
  refine wpAny_bind (wpAny_setSeqItemAt e rfl ?_)
  have dJ:=hQ _ (fK e (f:=λa=>a.setIfInBounds j v) (ws:=vs.set j v) (by simp)) (Heap.SameBut.update ..)
  first
   |exact wpAny_bind (wpAny_pure (wpAny_pure ⟨.none,rfl,wpAny_pure dJ⟩))
   |exact wpAny_pure ⟨.none,rfl,wpAny_pure dJ⟩
end
def qS (G:Ah)(sc:Scope)(vE:VE)(t:Expr)(a:AV)(S:St)(K:St→Prop)(X:KX):Prop:=match t with
 |.Name x _=>fi sc x a S K
 |.Attribute o bY _=>vE o S (λov S1=>xS G ov bY a S1 K) X
 |.Subscript o i _=>cV (d7 i) (vE o S (λov S1=>vE i S1 (λiv S2=>adQ ov iv a S2 K) X) X)
 |_=>False
def gN (G:Ah)(sc:Scope)(vE:VE):List Expr→List AV→St→(St→Prop)→KX→Prop
 | [],as,S,K,_=>(match as with | []=>K S|_::_=>False)
 |t::ts,as,S,K,X=>match as with
  | []=>False
  |a::as=>qS G sc vE t a S (λS1=>gN G sc vE ts as S1 K X) X
noncomputable def tP (sc:Scope):Env:={scope:=sc,locals:=0,globals:=0,cells:=[]}
theorem oq {env:Env}{sc:Scope}(h:env.scope=sc)(ts:List Expr)(v:Expr):swappedStores ts v env=swappedStores ts v (tP sc):=by
 subst h
 rfl
noncomputable def aht (l:List Str):List Expr:=l.map λx=>.Name x ⟨0,0,0,0⟩
noncomputable def tQ:Expr→Bool
 |.Name _ _|.Attribute _ _ _|.Subscript _ _ _=>true
 |_=>false
noncomputable def fk:Expr→Option (List Expr)
 |.Tuple ts _ _=>some ts
 |_=>none
theorem gO {e:Expr}{ts:List Expr}(h:fk e=some ts){Z:Expr→Prop}(z:∀k p,Z (.Tuple ts k p)):Z e:=by
 cases e with
 |Tuple us k p=>exact Option.some.inj h▸z k p
 |_=>exact nS h
def alW (m:Sem (Option (List Str)))(a:Prop)(f:List Str→Prop):Prop:=match m with
 |.pure o=>(match o with|none=>a|some names=>f names)
 |_=>False
theorem abc {m:Sem (Option (List Str))}{a:Prop}{f:List Str→Prop}{Z:Sem (Option (List Str))→Prop}(h:alW m a f)(k0:a→Z (pure none))(k1:∀names,f names→Z (pure (some names))):Z m:=by
 cases m with
 |pure o=>cases o with
  |none=>exact k0 h
  |some names=>exact k1 names h
 |_=>exact h.elim
def mD (G:Ah)(sc:Scope)(vE:VE)(t value:Expr)(S:St)(K:St→Prop)(X:KX):Prop:=match fk t with
 |some ts=>cV (ts.all bn) <| match fk value with
  |some vs=>cV (Nat.ble vs.length 1000&&vs.all bn&&Nat.beq vs.length ts.length) <| dC vE vs S (λas S1=>alW (swappedStores [t] value (tP sc)) (gN G sc vE ts as S1 K X) λnames=>cV (Nat.beq names.length as.length) <| gN G sc vE (aht names.reverse) as.reverse S1 K X) X
  |none=>vE value S (λa S1=>iy S1 a λxs=>cV (Nat.beq xs.length ts.length) <| gN G sc vE ts (xs.map .fr) S1 K X) X
 |none=>cV (tQ t) <| vE value S (λa S1=>qS G sc vE t a S1 K X) X
theorem Al.rev {p:Program}{w:World}{c:Cx}{x:List AV}{v:List Value}(h:Al p w c x v):Al p w c x.reverse v.reverse:=
 h.la (P:=λx v=>Al p w c x.reverse v.reverse) .nil λa _ ih=>by rw [List.reverse_cons,List.reverse_cons]; exact ih.append (.cons a .nil)
section
variable {G:Ah} {PE:Addr×Nat} {A:Around} {fs:List Env} {cl:List (Str×Addr)} {L:Addr} {c:Cx} {S:St} {s:Shared} {env:Env} {sc:Scope} {n:Nat} {q:Bool} {vE:VE}
theorem jl (r:Run G A fs env sc cl L n q)(hE:∀e,Ae (VR G.prog G.w) G PE A fs cl L (vE e) (eval e env))(t:Expr){a:AV}{v:Value}(aj:At G fs cl L c S s)(ra:VR G.prog G.w c a v):Ap UR G PE A fs cl L c S s (λK X=>qS G sc vE t a S (K ()) X) (assign t env v):=by
 cases t with
 |Name x pos=>exact λK X Q E h p x=>assign_Name (dz (PE:=PE) r _ aj ra K X Q E h p x)
 |Attribute o bY pos=>exact λK X Q E h p x=>(assign_Attribute o bY pos v)▸wpAny_bind (wpAny_holding (hE o c S s aj _ X _ E h (λc1 ov S1 u aL k1 e1 R1 a8 r1=>wpAny_bind (wpAny_standAt (wpAny_bind (wpAny_holding
   (ol (PE:=PE) r bY (aj.ak R1 aL) r1 (ra.aw e1.le) K X _ E k1 (λc2 _ S2 _ bG k2 e2 R2 cj _=>wpAny_release ((p.ak aj.aF R1 e1 a8 aL) c2 () S2 () bG k2 e2 R2 cj trivial)) (x.ak aj.aF R1 e1 a8 aL)))))) x))
 |Subscript o i pos=>
  refine λK X Q E h p x=>aG h λ_ h=>(assign_Subscript o i pos v)▸wpAny_bind (wpAny_holding (hE o c S s aj _ X _ E h (λc1 ov S1 u aL k1 e1 R1 a8 r1=>?_) x))
  have p1:=p.ak aj.aF R1 e1 a8 aL
  have x1:=x.ak aj.aF R1 e1 a8 aL
  exact wpAny_bind (wpAny_holding (hE i c1 S1 _ (aj.ak R1 aL) _ X _ E k1 (λc2 iv S2 u2 bG k2 e2 R2 cj r2=>wpAny_bind (wpAny_standAt (wpAny_bind (wpAny_holding
   (xT (PE:=PE) (aj.ak R2 bG) (r1.aw e2.le) r2 ((ra.aw e1.le).aw e2.le) K X _ E k2 (λc3 _ S3 _ fR k3 e3 R3 iA _=>wpAny_release ((p1.ak R1 R2 e2 cj bG) c3 () S3 () fR k3 e3 R3 iA trivial)) (x1.ak R1 R2 e2 cj bG)))))) x1))
 |_=>exact .no λ_ _ h=>h
def Good (G:Ah)(PE:Addr×Nat)(A:Around)(fs:List Env)(cl:List (Str×Addr))(L:Addr)(sc:Scope)(vE:VE)(t:Expr)(f:Value→Sem Unit):Prop:=∀c S s a v,At G fs cl L c S s→VR G.prog G.w c a v→Ap UR G PE A fs cl L c S s (λK X=>qS G sc vE t a S (K ()) X) (f v)
def BU (good:Expr→(Value→Sem Unit)→Prop):List Expr→List (Value→Sem Unit)→Prop
 | [],tr=>tr=[]
 |t::ts,tr=>∃f r,tr=f::r∧good t f∧BU good ts r
theorem ot {good:Expr→(Value→Sem Unit)→Prop}{α:Type}(f:α→Expr)(g:α→Value→Sem Unit)(h:∀x,good (f x) (g x))(l:List α):BU good (l.map f) (l.map g):=by
 induction l with
 |nil=>rfl
 |cons x l ih=>exact ⟨_,_,rfl,h x,ih⟩
theorem ou {ts:List Expr}:∀{as:List AV} {vs:List Value} {tr:List (Value→Sem Unit)} {c:Cx} {S:St} {s:Shared},BU (Good G PE A fs cl L sc vE) ts tr→At G fs cl L c S s→Al G.prog G.w c as vs→
  Ap UR G PE A fs cl L c S s (λK X=>gN G sc vE ts as S (K ()) X) (assignInOrder tr vs):=by
 induction ts with
 |nil=>
  intro as vs tr c S s ht aj rs
  cases as with
  |nil=>exact λK X Q E h p x=>(ht:tr=[])▸rs.el (P:=λvs=>wpAny (model G.prog G.w) A (assignInOrder [] vs) Q E s) (wpAny_pure (p.here aj h trivial))
  |cons=>exact .no λ_ _ h=>h
 |cons t ts ih=>
  intro as vs tr c S s ht aj rs
  cases as with
  |nil=>exact .no λ_ _ h=>h
  |cons a as=>
   obtain ⟨f,tr,rfl,hf,ht⟩:=ht
   exact λK X Q E h p x=>rs.el (P:=λvs=>wpAny (model G.prog G.w) A (assignInOrder (f::tr) vs) Q E s) λv vs ra rs=>assignInOrder_cons (hf c S s a v aj ra (λ_ S1=>gN G sc vE ts as S1 (K ()) X) X _ E h
    (λc1 _ S1 _ aL k1 e1 R1 a8 _=>ih ht (aj.ak R1 aL) (rs.aw e1.le) K X Q E k1 (p.ak aj.aF R1 e1 a8 aL) (x.ak aj.aF R1 e1 a8 aL)) x)
theorem d9 {env:Env}{ts:List Expr}:ts.all bn=true→assignEach ts env=ts.map λt=>(false,assign t env):=by
 induction ts with
 |nil=>exact λ_=>rfl
 |cons t ts ih=>
  intro h
  rw [List.all_cons] at h
  have h:=Bool.and_eq_true_iff.mp h
  have e:assignEach (t::ts) env=(false,assign t env)::assignEach ts env:=by
   cases t with
   |Starred=>exact Bool.noConfusion h.1
   |_=>rfl
  rw [e,ih h.2]; rfl
theorem xV (aj:At G fs cl L c S s){h':Heap}(he:Heap.ExtBut s.heap.objs.size s.heap h')(hs:s.heap.objs.size≤h'.objs.size):Ad G.prog G.w G.h0 fs cl {c with h:=h'} L S∧Am fs c S L {c with h:=h'} S:=
 aj.aF.nL (h':=h') (aj.heap▸hs) λb o e=>he b o (Nat.ne_of_lt (aj.heap▸Heap.lt_size e)) (aj.heap▸e)
theorem jL (r:Run G A fs env sc cl L n true){T:String}(hT:T = "list" ∨ T = "tuple"){l:Addr}{vs:List Value}{m:Nat}(aj:At G fs cl L c S s)(e:s.heap.get? l=some {cls:=.type T,data:=.seq vs.toArray m}){k:Nat}(hk:vs.length=k){Q:List Value→Shared→Prop}{E:Value→Shared→Prop}
  (h:∀c',Ad G.prog G.w G.h0 fs cl c' L S→Am fs c S L c' S→Q vs {s with heap:=c'.h}):wpAny (model G.prog G.w) A (unpackItems (.ref l) k none) Q E s:=by
 subst hk
 have dJ:∀h',Heap.ExtBut s.heap.objs.size s.heap h'→s.heap.objs.size≤h'.objs.size→Q vs {s with heap:=h'}:=λh' he hs=>have z:=xV aj he hs; h _ z.1 z.2
 rcases hT with rfl|rfl
 ·exact bu (Nat.le_refl _) (iC (items:=vs.toArray) (r.i5 rfl) ⟨_,e,rfl,m,rfl⟩ dJ)
 ·exact bu (Nat.le_refl _) (wpAny_unpackItems_tuple (items:=vs.toArray) (r.i5 rfl) ⟨_,e,rfl,m,rfl⟩ dJ)
theorem tR (r:Run G A fs env sc cl L n true)(hE:∀e,Ae (VR G.prog G.w) G PE A fs cl L (vE e) (eval e env)){ts:List Expr}(hst:ts.all bn=true){k p0}{T:String}(hT:T = "list" ∨ T = "tuple"){l:Addr}{as:List AV}{vs:List Value}{m:Nat}(aj:At G fs cl L c S s)(e:s.heap.get? l=some {cls:=.type T,data:=.seq vs.toArray m})(hl:as.length=ts.length)
  (rs:Al G.prog G.w c as vs):Ap UR G PE A fs cl L c S s (λK X=>gN G sc vE ts as S (K ()) X) (assign (.Tuple ts k p0) env (.ref l)):=by
 intro K X Q E v p x
 rw [PyProof.Rows.assign_Tuple]
 refine wpAny_bind (wpAny_standAt ?_)
 unfold unpack
 have e1:=d9 (env:=env) hst
 rw [e1,show (ts.map λt=>(false,assign t env)).findIdx? (·.1)=none by simp]
 refine wpAny_bind (wpAny_holding (jL r hT aj e (by rw [List.length_map,←hl,rs.len]) λc3 R3 E3=>?_))
 exact ou (PE:=PE) (tr:=(ts.map λt=>(false,assign t env)).map (·.2)) (by have:=ot (good:=Good G PE A fs cl L sc vE) (λt=>t) (λt=>assign t env) (λt c S s a v aj ra=>jl r hE t aj ra) ts; rw [List.map_id'] at this; rw [List.map_map]; exact this) ⟨R3,rfl⟩ (rs.aw E3.le) K X _ E v (p.ak aj.aF R3 E3 rfl s.toks) (x.ak aj.aF R3 E3 rfl s.toks)
theorem tS (r:Run G A fs env sc cl L n true)(hE:∀e,Ae (VR G.prog G.w) G PE A fs cl L (vE e) (eval e env)){ts:List Expr}(hst:ts.all bn=true){k p0}{T:String}(hT:T = "list" ∨ T = "tuple"){l:Addr}{as:List AV}{vs:List Value}{m:Nat}(aj:At G fs cl L c S s)(e:s.heap.get? l=some {cls:=.type T,data:=.seq vs.toArray m})(hl:as.length=ts.length)
  (rs:Al G.prog G.w c as vs) {K:KF} {X:KX} {Q:Flow→Shared→Prop} {E:Value→Shared→Prop} (v:gN G sc vE ts as S (λS1=>K .next S1) X) (p:Ak (AC G.prog G.w) G fs cl L c S s K Q) (x:Ai G PE fs cl L c S s X E):
  wpAny (model G.prog G.w) A (do assignAll (.ref l) ((assignEach [.Tuple ts k p0] env).map (·.2)); pure .next) Q E s:=
 wpAny_bind (show wpAny _ A (assign (.Tuple ts k p0) env (.ref l)) _ E _ from tR r hE hst hT aj e hl rs (λ_ S1=>K .next S1) X _ E v (λc4 _ S4 _ tk4 k4 e4 R4 vD _=>wpAny_pure (p c4 .next S4 .next tk4 k4 e4 R4 vD .next)) x)
def ow (t value:Expr):Bool:=fJ value||(match t with|.Attribute _ _ _|.Tuple _ _ _=>true|_=>false)
theorem vF {t value:Expr}(h:ow t value=true)(k:Nat):swapsWith value (some t) k env=pure false:=
 (Bool.or_eq_true_iff.mp h).elim (λh=>nY h _ _ _) (by
  cases t with
  |Attribute|Tuple=>exact λ_=>by cases value <;> rfl
  |_=>exact λh=>Bool.noConfusion h)
theorem lD {t value:Expr}(h:tQ t=true):swappedStores [t] value env=pure none:=by
 unfold swappedStores
 cases t with
 |Name|Attribute|Subscript=>rfl
 |_=>exact Bool.noConfusion h
theorem vG {ts k p}{value:Expr}(h:fk value=none):swappedStores [.Tuple ts k p] value env=pure none:=by
 unfold swappedStores
 cases value with
 |Tuple=>exact sN h
 |_=>rfl
theorem tT {t value:Expr}{pos:Pos}(hn:ow t value=true){M:Model}{Q:Flow→Shared→Prop}{E:Value→Shared→Prop}(h:wpAny M A (eval value env) (λv s'=>wpAny M A (swappedStores [t] value env) (λb s''=>wpAny M A (assignStores env v b ((assignEach [t] env).map (·.2))) Q E s'') E s') E s):wpAny M A (exec (.Assign [t] value pos) env) Q E s:=by
 have hs:swapsWithSole [t] value pos.line env=pure false:=vF hn _
 rw [exec_Assign,hs]
 exact wpAny_bind (wpAny_standAt (wpAny_bind (wpAny_pure (nH (by decide) (wpAny_bind (wpAny_mono h (λ_ _ h=>wpAny_bind h) λ_ _ h=>h))))))
theorem mE (r:Run G A fs env sc cl L n true)(hE:∀e,Ae (VR G.prog G.w) G PE A fs cl L (vE e) (eval e env))(t value:Expr)(pos:Pos)(hn:ow t value=true):
  Ae (AC G.prog G.w) G PE A fs cl L (λS K X=>mD G sc vE t value S (λS1=>K .next S1) X) (exec (.Assign [t] value pos) env):=by
 intro c S s a K X Q E v p x
 refine tT hn ?_
 unfold mD at v
 cases ht:fk t with
 |none=>
  rw [ht] at v
  refine aG v λhg v=>hE value c S s a _ X _ E v (λc1 b S1 u aL k1 e1 R1 a8 r1=>?_) x
  rw [lD hg]
  refine wpAny_pure ?_
  show wpAny _ A (do assignAll u ((assignEach [t] env).map (·.2)); pure .next) Q E _
  rw [d9 (show [t].all bn=true by cases t <;> first|rfl|exact Bool.noConfusion hg)]
  exact wpAny_bind (jl (PE:=PE) r hE t (a.ak R1 aL) r1 (λ_ S2=>K .next S2) X _ E k1 (λc2 _ S2 _ bG k2 e2 R2 cj _=>wpAny_pure ((p.ak a.aF R1 e1 a8 aL) c2 .next S2 .next bG k2 e2 R2 cj .next)) (x.ak a.aF R1 e1 a8 aL))
 |some ts=>
  rw [ht] at v
  refine aG v λhst v=>?_
  obtain ⟨k,p0,rfl⟩:∃k p0,t=.Tuple ts k p0:=gO (Z:=λt=>∃k p0,t=.Tuple ts k p0) ht λk p=>⟨k,p,rfl⟩
  cases hv:fk value with
  |none=>
   rw [hv] at v
   refine hE value c S s a _ X _ E v (λc1 b S1 u aL k1 e1 R1 a8 r1=>?_) x
   rw [vG hv]
   refine wpAny_pure (dP (Z:=λu=>wpAny (model G.prog G.w) A (assignStores env u none ((assignEach [.Tuple ts k p0] env).map (·.2))) Q E _) k1 r1 (a.ak R1 aL) λxs l us m T hT el r2 k1=>aG k1 λiD k1=>?_)
   exact tS r hE hst hT (a.ak R1 aL) el ((List.length_map _).trans (Nat.eq_of_beq_eq_true iD)) (Al.ofF r2) k1 (p.ak a.aF R1 e1 a8 aL) (x.ak a.aF R1 e1 a8 aL)
  |some vs=>
   rw [hv] at v
   obtain ⟨vk,vp,rfl⟩:∃k p,value=.Tuple vs k p:=gO (Z:=λt=>∃k p0,t=.Tuple vs k p0) hv λk p=>⟨k,p,rfl⟩
   refine aG v λhb v=>?_
   have hb:=Bool.and_eq_true_iff.mp hb
   have hpl:=ir (es:=vs) hb.1
   refine wpAny_Tuple_spliced (eZ vs (λe he=>⟨hpl.2 e he,hE e⟩) c S s a _ X _ E v (λc1 as S1 us aL k1 e1 R1 a8 r1=>⟨r1.2▸hpl.1,?_⟩) x)
   -- the tuple
   have kp:∀b o,c1.h.get? b=some o→(c1.h.push {cls:=.type "tuple",data:=.seq us.toArray}).get? b=some o:=λb o e=>Heap.get?_push_of_some _ e
   obtain ⟨R2,E2⟩:=R1.nL (h':=c1.h.push {cls:=.type "tuple",data:=.seq us.toArray}) (Nat.le_of_lt (bl _ _)) kp
   have p2:=(p.ak a.aF R1 e1 a8 aL).ak R1 R2 E2 rfl aL
   have x2:=(x.ak a.aF R1 e1 a8 aL).ak R1 R2 E2 rfl aL
   have el:(c1.h.push {cls:=.type "tuple",data:=.seq us.toArray}).get? c1.h.objs.size=some {cls:=.type "tuple",data:=.seq us.toArray}:=Heap.get?_push_size _ rfl
   have A2:At G fs cl L {c1 with h:=c1.h.push {cls:=.type "tuple",data:=.seq us.toArray}} S1 {s with heap:=c1.h.push {cls:=.type "tuple",data:=.seq us.toArray},toks:=aL}:=⟨R2,rfl⟩
   rw [oq r.env.gd]
   refine abc (Z:=λm=>wpAny (model G.prog G.w) A m (λb s''=>wpAny (model G.prog G.w) A (assignStores env (.ref c1.h.objs.size) b ((assignEach [.Tuple ts k p0] env).map (·.2))) Q E s'') E _) k1 (λk1=>wpAny_pure ?_) λnames k1=>aG k1 λhnl k1=>wpAny_pure ?_
   ·exact tS r hE hst (.inr rfl) A2 el (r1.1.len.trans (r1.2.trans (Nat.eq_of_beq_eq_true hb.2))) (r1.1.aw E2.le) k1 p2 x2
   ·show wpAny _ A (do rule "assign.swapped-stores"; let items ←unpackItems _ names.length none; assignInOrder (names.reverse.map λn=>bindName env n) items.reverse; pure .next) Q E _
    refine wpAny_bind (wpAny_rule (wpAny_bind (jL r (.inr rfl) A2 el (r1.1.len.symm.trans (Nat.eq_of_beq_eq_true hnl).symm) λc3 R3 E3=>wpAny_bind ?_)))
    exact ou (PE:=PE) (ot (λx=>.Name x ⟨0,0,0,0⟩) (λn=>bindName env n) (λx c S s a v aj ra K X Q E h p xx=>bindName_ (dz (PE:=PE) r x aj ra K X Q E h p xx)) names.reverse) ⟨R3,rfl⟩ ((r1.1.aw E2.le).aw E3.le).rev (λ_ S2=>K .next S2) X _ E k1
     (λc4 _ S4 _ tk4 k4 e4 R4 vD _=>wpAny_pure ((p2.ak R2 R3 E3 rfl aL) c4 .next S4 .next tk4 k4 e4 R4 vD .next)) (x2.ak R2 R3 E3 rfl aL)
end
def adR (sc:Scope)(vE:VE)(x:Str)(op:Operator)(e:Expr)(S:St)(K:St→Prop)(X:KX):Prop:=lr op <| u5 (sc.names.lookup x) (bW (S.loc.lookup x) λa=>nF a λi=>vE e S (λb S1=>nF b λj=>fi sc x (.fr (.int (i+j))) S1 K) X) False False
def adS (G:Ah)(vE:VE)(vc:Au)(o:Expr)(bY:Str)(op:Operator)(e:Expr)(S:St)(K:St→Prop)(X:KX):Prop:=lr op <| vE o S (λov S1=>xi G vc ov bY S1 λa S2=>nF a λi=>vE e S2 (λb S3=>nF b λj=>xS G ov bY (.fr (.int (i+j))) S3 K) X) X
section
variable {G:Ah} {PE:Addr×Nat} {A:Around} {fs:List Env} {cl:List (Str×Addr)} {L:Addr} {c:Cx} {S:St} {s:Shared} {env:Env} {sc:Scope} {n:Nat} {q:Bool} {vE:VE} {vc:Au}
theorem vH (r:Run G A fs env sc cl L n q)(x:Str)(np pos:Pos)(op:Operator)(e:Expr)(he:Ae (VR G.prog G.w) G PE A fs cl L (vE e) (eval e env)):
  Ae (AC G.prog G.w) G PE A fs cl L (λS K X=>adR sc vE x op e S (λS1=>K .next S1) X) (exec (.AugAssign (.Name x np) op e pos) env):=by
 intro c S s a K X Q E v p xp
 refine gK (Z:=λop=>wpAny (model G.prog G.w) A (exec (.AugAssign (.Name x np) op e pos) env) Q E s) v λv=>gF v (λhk v=>au v λav hv v=>?_) (λ_ v=>v.elim) λ_ v=>v.elim
 obtain ⟨us,n1,n2⟩:=a.aF.loc
 obtain ⟨u,e1,hr⟩:=qr n2 hv
 refine wpAny_AugAssign_Name (wpAny_loadName_local (r.env.gd▸r.env.kind) (show env.scope.names.lookup x=_ from r.env.gd▸hk) (m:=_) (r.env.loc▸a.heap▸n1) e1 ?_)
 refine bS (Z:=λu=>wpAny (model G.prog G.w) A (eval e env) (λv s₁=>wpAny (model G.prog G.w) A (inplaceOp .Add u v) _ E s₁) E s) v hr λi t v=>?_
 exact he c S s a _ X _ E v (λc1 b S1 u aL k1 e1 R1 a8 r1=>bS (Z:=λu=>wpAny (model G.prog G.w) A (inplaceOp .Add (.int i t) u) _ E _) k1 r1 λj t' k1=>PyProof.Rows.iadd_int
  (dz (PE:=PE) r x (s:={s with heap:=c1.h,toks:=aL+1}) ⟨R1,rfl⟩ (.fr (.int _ _)) (λ_ S2=>K .next S2) X _ E k1 (λc2 _ S2 _ bG k2 e2 R2 cj _=>p.ak a.aF R1 e1 a8 (aL+1) c2 .next S2 .next bG k2 e2 R2 cj .next) (xp.ak a.aF R1 e1 a8 (aL+1)))) xp
theorem vI (r:Run G A fs env sc cl L (n+1) q)(hc:Ag G PE n q vc)(hE:∀e,Ae (VR G.prog G.w) G PE A fs cl L (vE e) (eval e env))(o:Expr)(bY:Str)(tp pos:Pos)(op:Operator)(e:Expr):
  Ae (AC G.prog G.w) G PE A fs cl L (λS K X=>adS G vE vc o bY op e S (λS1=>K .next S1) X) (exec (.AugAssign (.Attribute o bY tp) op e pos) env):=by
 intro c S s a K X Q E v p xp
 refine gK (Z:=λop=>wpAny (model G.prog G.w) A (exec (.AugAssign (.Attribute o bY tp) op e pos) env) Q E s) v λv=>wpAny_AugAssign_AttributeAny (hE o c S s a _ X _ E v (λc1 ov S1 u aL k1 e1 R1 a8 r1=>?_) xp)
 have p1:=p.ak a.aF R1 e1 a8 aL
 have x1:=xp.ak a.aF R1 e1 a8 aL
 refine tJ (PE:=PE) r hc (a.ak R1 aL) r1 _ X _ E k1 (λc2 b S2 u2 bG k2 e2 R2 cj r2=>?_) x1
 have p2:=p1.ak R1 R2 e2 cj bG
 have x2:=x1.ak R1 R2 e2 cj bG
 refine bS (Z:=λu2=>wpAny (model G.prog G.w) A (eval e env) (λv s₁=>wpAny (model G.prog G.w) A (inplaceOp .Add u2 v) _ E s₁) E _) k2 r2 λi t k2=>?_
 exact hE e c2 S2 _ (a.ak R2 bG) _ X _ E k2 (λc3 b3 S3 u3 fR k3 e3 R3 iA r3=>bS (Z:=λu=>wpAny (model G.prog G.w) A (inplaceOp .Add (.int i t) u) _ E _) k3 r3 λj t' k3=>PyProof.Rows.iadd_int
  (ol (PE:=PE) r.less bY (s:={s with heap:=c3.h,toks:=fR+1}) ⟨R3,rfl⟩ ((r1.aw e2.le).aw e3.le) (.fr (.int _ _)) (λ_ S4=>K .next S4) X _ E k3 (λc4 _ S4 _ tk4 k4 e4 R4 vD _=>p2.ak R2 R3 e3 iA (fR+1) c4 .next S4 .next tk4 k4 e4 R4 vD .next) (x2.ak R2 R3 e3 iA (fR+1)))) x2
end
structure Aq (G:Ah)(A:Around)(fs:List Env)(ev:Env)(sc:Scope)(cl:List (Str×Addr))(L:Addr)(n:Nat)(q:Bool):Prop where
 run:Run G A fs ev sc cl L n q
 wW:A.frames=some (ev::fs)
 frm:ev.frame=some L
structure FS (G:Ah)(fs:List Env)(cl:List (Str×Addr))(L:Addr)(c0:Cx)(S0:St)(x:FV)(v:Value)(P:Addr×Nat)(c:Cx)(S:St):Prop where
 R:Ad G.prog G.w G.h0 fs cl c L S
 E:Am fs c0 S0 L c S
 F:Bi G fs L c S x v P
def AF (c:Cx)(v:Value):Prop:=∃e oe vs T,v=.ref e∧c.h.get? e=some oe∧oe.data=.fields vs∧vs[1]?=some (.ref T)
section
variable {G:Ah} {PE:Addr} {B:Nat} {A:Around} {fs all:List Env} {cl cl':List (Str×Addr)} {L L':Addr} {c0 c c':Cx} {S0 S S':St} {s:Shared} {env:Env} {sc:Scope} {n:Nat} {q:Bool} {x:FV} {v:Value} {M:Model}
theorem Aq.fP (r:Aq G A fs env sc cl L n q):fP (env::fs)=L::Mine.fP fs:=by unfold Mine.fP; rw [List.filterMap_cons,r.frm]
theorem Aq.full (r:Aq G A fs env sc cl L n q)(R:Ad G.prog G.w G.h0 fs cl c L S):c.h.FunFrames G.h0 (env::fs):=
 (R.loc).elim λ_ q=>q.elim λn1 _=>
 Heap.FunFrames.cons (by rw [r.run.env.gd,r.run.env.kind]; decide) r.frm n1 R.im.1 R.kG
theorem ExcAt.aw {C e:Addr}{oe mw:Obj}{dx:Addr}{vs vs':Array Value}(X:ExcAt G c x C e oe dx vs)(l:Le c c')(h:c'.h.get? e=some mw)(hc:mw.cls=oe.cls)(hd:mw.dict=oe.dict)(hv:mw.data=.fields vs'):ExcAt G c' x C e mw dx vs':=
 ⟨h,hc.trans X.cls,hd.trans X.dict,hv,(X.u0).elim λws q=>q.elim λn r=>⟨ws,wH n λo=>l.aj _ o X.fz,r.aw l⟩,l.fz _ X.fz⟩
theorem Bi.less {B':Nat}(F:Bi G fs L c S x v (PE,B))(h:B'≤B):Bi G fs L c S x v (PE,B'):=by
 cases F with
 |mk X hB P t=>exact .mk X (Nat.le_trans h hB) P (t.imp id λ⟨T,e,a,b,p⟩=>⟨T,e,a,Nat.le_trans h b,p⟩)
theorem Bi.fQ {P:Addr×Nat}(F:Bi G fs L c S x v P)(R:Ad G.prog G.w G.h0 fs cl c L S)(R':Ad G.prog G.w G.h0 fs cl c' L S')(E:Am fs c S L c' S'):Bi G fs L c' S' x v P:=by
 cases F with
 |mk X hB Pe t=>exact .mk (X.aw E.le (Pe.get E X.aj) rfl rfl X.data) hB (Pe.fQ R R' E) (t.imp id λ⟨T,e,a,b,p⟩=>⟨T,e,⟨a.ne,(a.it).elim λoT q=>q.elim λts q=>q.elim λh1 h2=>⟨oT,ts,p.get E h1,h2⟩⟩,b,p.fQ R R' E⟩)
theorem Bi.tb {P:Addr×Nat}(F:Bi G fs L c S x v P)(E:Am fs c S L c' S')(t:AF c v):AF c' v:=by
 obtain ⟨e,oe,vs,T,rfl,h1,h2⟩:=t
 cases F with
 |mk X hB Pe _=>exact ⟨e,oe,vs,T,rfl,Pe.get E h1,h2⟩
theorem FS.fQ (D:FS G fs cl L c0 S0 x v (PE,B) c S)(R0:Ad G.prog G.w G.h0 fs cl c0 L S0)(R':Ad G.prog G.w G.h0 fs cl c' L S')(E:Am fs c S L c' S'):FS G fs cl L c0 S0 x v (PE,B) c' S':=⟨R',D.E.trans R0.kn D.R.kn E,D.F.fQ D.R R' E⟩
structure A0 (G:Ah)(fs:List Env)(cl:List (Str×Addr))(L:Addr)(x:FV)(v:Value)(P:Addr×Nat)(mk:Value)(c:Cx)(S:St)(h':Heap):Prop where
 R:Ad G.prog G.w G.h0 fs cl {c with h:=h'} L S
 F:Bi G fs L {c with h:=h'} S x v P
 l:Le c {c with h:=h'}
 t:∃X:Addr→Prop,(∀b,X b→P.2≤b)∧AS X (L::fP fs) c.h h'
 tb:∃e oe vs T oT ts,v=.ref e∧h'.get? e=some oe∧oe.data=.fields vs∧vs[1]?=some (.ref T)∧h'.get? T=some oT∧oT.data=.fields ts∧ts[3]?=some mk
theorem A0.has {P:Addr×Nat}{mk:Value}{h':Heap}(N:A0 G fs cl L x v P mk c S h'):AF {c with h:=h'} v:=(N.tb).elim λe q=>q.elim λoe q=>q.elim λvs q=>q.elim λT q=>q.elim λ_ q=>q.elim λ_ q=>q.elim λh1 q=>q.elim λh2 q=>q.elim λh3 q=>q.elim λh4 _=>⟨e,oe,vs,T,h1,h2,h3,h4⟩
theorem FS.oy {h':Heap}{mk:Value}(D:FS G fs cl L c0 S0 x v (PE,B) c S)(hB:c0.h.objs.size≤B)(N:A0 G fs cl L x v (PE,B) mk c S h'):FS G fs cl L c0 S0 x v (PE,B) {c with h:=h'} S:=
 (N.t).elim λ_ q=>q.elim λhX t=>
 ⟨N.R,D.E.aA N.l (λb h=>Nat.le_trans hB (hX b h)) t,N.F⟩
theorem jM {e:Addr}{oe mw:Obj}{dx:Addr}{vs vs':Array Value}{h':Heap}{T:Addr}{mk:Value}(R:Ad G.prog G.w G.h0 fs cl c L S)(X:ExcAt G c x PE e oe dx vs)(xW:B≤e)(Pe:Ac G.h0 fs L c S e)
  (t:vs[1]?=some .none∨∃T,vs[1]?=some (.ref T)∧BQ c.h L e T∧B≤T∧Ac G.h0 fs L c S T) (tn:AS (Cs e vs) (L::fP fs) c.h h') (N:Bn c.h h' e oe mw vs vs' T mk) (hmk:mk=.none∨mk=rawInt L):A0 G fs cl L x (.ref e) (PE,B) mk c S h':=by
 have pv:∀b,Cs e vs b→Ac G.h0 fs L c S b∧B≤b:=λb h=>h.elim (λz=>z▸⟨Pe,xW⟩) λz=>t.elim (λy=>nomatch y.symm.trans z) λ⟨T,y,_,b,p⟩=>Value.ref.inj (Option.some.inj (y.symm.trans z))▸⟨p,b⟩
 obtain ⟨l,R'⟩:=R.aA (λb h=>(pv b h).1) tn
 have mv:∀{a},Ac G.h0 fs L c S a→Ac G.h0 fs L {c with h:=h'} S a:=λp=>⟨Nat.lt_of_lt_of_le p.lt tn.size,p.fz,p.h0,p.ne,p.obj,p.fr⟩
 obtain ⟨oT,ts,t1,t2,t3⟩:=N.it
 have PT:Ac G.h0 fs L {c with h:=h'} S T∧B≤T:=N.qk.elim (λz=>⟨Ac.new R z (Heap.lt_size t1),Nat.le_trans xW (Nat.le_trans (Nat.le_of_lt Pe.lt) z)⟩) λz=>⟨mv (pv T (.inr z)).1,(pv T (.inr z)).2⟩
 exact ⟨R',.mk (X.aw l N.aj N.cls N.dict N.data) xW (mv Pe) (.inr ⟨T,N.tb,⟨N.ne,oT,ts,t1,t2,hmk.imp (λz=>t3.trans (congrArg some z)) λz=>t3.trans (congrArg some z)⟩,PT.2,PT.1⟩),l,⟨_,λb h=>(pv b h).2,tn⟩,e,mw,vs',T,oT,ts,rfl,N.aj,N.data,N.tb,t1,t2,t3⟩
theorem lE (r:Aq G A fs env sc cl L n q)(R:Ad G.prog G.w G.h0 fs cl c L S)(F:Bi G fs L c S x v (PE,B)){Q:Unit→Shared→Prop}{E:Value→Shared→Prop}(hh:c.h=s.heap)(k:∀h',A0 G fs cl L x v (PE,B) (rawInt L) c S h'→Q () {s with heap:=h'}):wpAny M A (noteFrame v env) Q E s:=by
 cases F with
 |mk X xW Pe t=>
  refine xo r.wW (hh▸r.full R) r.frm (hh▸X.aj) X.data (t.imp id λ⟨T,h1,h2,_⟩=>⟨T,h1,hh▸h2⟩) λh' mw vs' T tn N=>k h' ?_
  rw [r.fP,←hh] at tn
  exact jM R X xW Pe t tn (hh▸N) (.inr rfl)
theorem lF (r:Aq G A fs env sc cl L n q)(R:Ad G.prog G.w G.h0 fs cl c L S)(F:Bi G fs L c S x v (PE,B)){mk:Option Addr}(hmk:mk=none∨mk=some L){Q:Unit→Shared→Prop}{E:Value→Shared→Prop}(hh:c.h=s.heap)(hT:AF c v)
  (k:∀h',A0 G fs cl L x v (PE,B) (mk.elim Value.none λf=>rawInt f) c S h'→Q () {s with heap:=h'}):wpAny M A (setFlight v mk) Q E s:=by
 obtain ⟨e,oe,vs,T,rfl,he,hd,h1⟩:=hT
 cases F with
 |mk X xW Pe t=>
  have eo:=Option.some.inj (he.symm.trans X.aj)
  subst eo
  have ev:vs=_:=Data.fields.inj (hd.symm.trans X.data)
  subst ev
  obtain ⟨T',y,a,b,p⟩:=t.resolve_left λh=>nomatch h.symm.trans h1
  have eT:=Value.ref.inj (Option.some.inj (y.symm.trans h1))
  subst eT
  obtain ⟨oT,ts,t1,t2,t3⟩:=a.it
  refine xq (env:=env) (outer:=fs) (hh▸he) hd h1 a.ne (hh▸t1) t2 (tb3 t3) λh' mw vs' T2 tn N=>k h' ?_
  rw [r.fP,←hh] at tn
  exact jM R X xW Pe t tn (hh▸N) (by rcases hmk with rfl|rfl; exact .inl rfl; exact .inr rfl)
theorem gP (r:Aq G A fs env sc cl L n q)(D:FS G fs cl L c0 S0 x v (PE,B) c S)(hB:c0.h.objs.size≤B){Q:Unit→Shared→Prop}{E:Value→Shared→Prop}(hh:c.h=s.heap)
  (k:∀c',FS G fs cl L c0 S0 x v (PE,B) c' S→AF c' v→Q () {s with heap:=c'.h}):wpAny M A (noteFrame v env) Q E s:=lE r D.R D.F hh λ_ N=>k _ (D.oy hB N) N.has
theorem fm (r:Aq G A fs env sc cl L n q)(D:FS G fs cl L c0 S0 x v (PE,B) c S)(hB:c0.h.objs.size≤B){mk:Option Addr}(hmk:mk=none∨mk=some L){Q:Unit→Shared→Prop}{E:Value→Shared→Prop}(hh:c.h=s.heap)(hT:AF c v)
  (k:∀c',FS G fs cl L c0 S0 x v (PE,B) c' S→AF c' v→Q () {s with heap:=c'.h}):wpAny M A (setFlight v mk) Q E s:=lF r D.R D.F hmk hh hT λ_ N=>k _ (D.oy hB N) N.has
theorem tU {Q:Value→Shared→Prop}{E:Value→Shared→Prop}(hh:c.h=s.heap)(t:AF c v)(k:∀T,Q (.ref T) s):wpAny M A (field v 1) Q E s:=by
 obtain ⟨e,oe,vs,T,rfl,he,hd,h1⟩:=t
 exact wpAny_field (hh▸he) hd h1 (k T)
theorem lG (r:Aq G A fs env sc cl L n q)(D:FS G fs cl L c0 S0 x v (PE,B) c S)(hB:c0.h.objs.size≤B)(hh:c.h=s.heap)(t:AF c v){E:Value→Shared→Prop}(k:∀c',FS G fs cl L c0 S0 x v (PE,B) c' S→E v {s with heap:=c'.h}):cameBackBy M A env E v s:=by
 unfold cameBackBy
 refine wpAny_bind (tU hh t λT=>?_)
 exact nH (by simp) (r.frm▸fm r D hB (.inr rfl) hh t λc3 D3 _=>k c3 D3)
theorem Ai.ahu (r:Aq G A fs env sc cl L n q)(R:Ad G.prog G.w G.h0 fs cl c L S){X:KX}{E:Value→Shared→Prop}(x:Ai G (PE,B) fs cl L c S s X E):Ai G (PE,c.h.objs.size) fs cl L c S s X (notedBy M A env (cameBackBy M A env E)):=
 ⟨Nat.le_refl _,λc' y S' v tk k e R' hc F=>gP r ⟨R',e,F⟩ (Nat.le_refl _) rfl λc2 D2 hT2=>lG r D2 (Nat.le_refl _) rfl hT2 λc3 D3=>x.2 c3 y S' _ tk k D3.E D3.R hc (D3.F.less x.1)⟩
theorem Bv.oy {c1:Cx}{S1:St}{h':Heap}{mk:Value}(D:Bv all c S c1 S1)(N:A0 G all cl' L' x v (PE,c.h.objs.size) mk c1 S1 h')(hL:c.h.objs.size≤L'):Bv all c S {c1 with h:=h'} S1:=
 (N.t).elim λ_ q=>q.elim λhX t=>
 ⟨D.le.trans N.l,Nat.le_trans D.size t.size,λb o e hb=>(D.keep b o e hb).elim λ_ q=>q.elim λq1 q2=>(t.nV (λz=>Nat.not_le.mpr (Heap.lt_size e) (hX b z)) (λz=>Nat.not_le.mpr (Heap.lt_size e) (z▸hL)) q1).elim λo2 q=>q.elim λq3 q4=>⟨o2,q3,q2.trans q4⟩,D.fresh,D.aP⟩
theorem Ac.aq {c1:Cx}{S1:St}{a:Addr}(p:Ac G.h0 all L' c1 S1 a)(R:Ad G.prog G.w G.h0 fs cl c L S)(D:Bv all c S c1 S1)(Z:An fs all L)(ha:c.h.objs.size≤a):Ac G.h0 fs L c1 (S.aq S1) a:=
 ⟨p.lt,p.fz,p.h0,λe=>(R.loc).elim λ_ q=>q.elim λn1 _=>Nat.not_le.mpr n1.lt (e▸ha),λm k o h e=>(List.mem_append.mp h).elim (λh=>have h:(m,k,o)∈S.objs:=List.mem_append_left _ h; Nat.not_le.mpr (R.aP m k o h).2.2.2.2 (D.le.ρ k (R.kn _ _ _ h)▸e▸ha)) λh=>p.obj m k o (List.mem_append_right _ h) e,λh=>p.fr (Z.sub _ h)⟩
theorem vJ {c1:Cx}{S1:St}{s1:Shared}{iw:Scope}{n':Nat}{q':Bool}{Q:Unit→Shared→Prop}{E:Value→Shared→Prop}(R:Ad G.prog G.w G.h0 fs cl c L S)(Z:An fs all L)(r:Aq G A all env iw cl' L' n' q')(R1:Ad G.prog G.w G.h0 all cl' c1 L' S1)
  (D:Bv all c S c1 S1) (F:Bi G all L' c1 S1 x v (PE,c.h.objs.size)) (hh:c1.h=s1.heap) (hL:c.h.objs.size≤L') (hB:B≤c.h.objs.size) (k:∀c2,FS G fs cl L c S x v (PE,B) c2 (S.aq S1)→Q () {s1 with heap:=c2.h}):wpAny M A (leaving env v) Q E s1:=by
 refine wpAny_bind (lE r R1 F hh λh1 N1=>lF (s:={s1 with heap:=h1}) r N1.R N1.F (.inl rfl) rfl N1.has λh2 N2=>?_)
 have D2:=(D.oy N1 hL).oy N2 hL
 obtain ⟨R3,E3⟩:=R.xj Z N2.R D2
 refine k _ ⟨R3,E3,?_⟩
 obtain ⟨e,oe,vs,T,oT,ts,rfl,y1,y2,y3,y4,y5,y6⟩:=N2.tb
 cases N2.F with
 |mk X xW Pe t=>
  have eo:=Option.some.inj (y1.symm.trans X.aj)
  subst eo
  have ev:vs=_:=Data.fields.inj (y2.symm.trans X.data)
  subst ev
  exact .mk X (Nat.le_trans hB xW) (Pe.aq R D2 Z xW) (t.imp id λ⟨T',z,a,b,p⟩=>⟨T',z,⟨a.ne,oT,ts,Value.ref.inj (Option.some.inj (y3.symm.trans z))▸y4,y5,.inl y6⟩,Nat.le_trans hB b,p.aq R D2 Z b⟩)
end
noncomputable def iE (a b d:Int):List Int:=(List.range (Builtin.Range.rangeSize a b d).toNat).map λi=>a+Int.ofNat i*d
def qT (m k:Nat)(xs:List FV)(S:St):Prop:=bW (S.get m) λr=>gc r.2 λys=>k=r.1∧ys=xs
abbrev AT:St→Prop:=λ_=>True
def xX (a:AV)(S:St)(P:List AV→(St→Prop)→Prop):Prop:=match a with
 |.fr x=>match x with
  |.fl xs=>P (xs.map .fr) AT
  |.az xs=>P (xs.map .fr) AT
  |.tw x y z=>Builtin.Range.small x y z=true∧z≠0∧P ((iE x y z).map λi=>.fr (.int i)) AT
  |_=>False
 |.own m k=>bW (S.get m) λr=>gc r.2 λxs=>k=r.1∧P (xs.map .fr) (qT m k xs)
structure Cy (h0:Heap)(fs:List Env)(L:Addr)(B1:Nat)(c c':Cx)(S:St):Prop where
 le:Le c c'
 keep:∀b o,B1≤b→c.h.get? b=some o→c'.h.get? b=some o
 pv:∀b,B1≤b→Ac h0 fs L c S b→Ac h0 fs L c' S b
structure Bx (G:Ah)(A:Around)(fs:List Env)(cl:List (Str×Addr))(L:Addr)(I:Addr)(target:Expr)(B0 B1:Nat)(items:List AV)(aV:St→Prop)(J:Nat→Cx→St→Prop):Prop where
 fQ:∀{i c S c' S'},J i c S→Ad G.prog G.w G.h0 fs cl c L S→Ad G.prog G.w G.h0 fs cl c' L S'→Am fs c S L c' S'→J i c' S'
 vK:∀{i c S s c0 S0 a},items[i]?=some a→At G fs cl L c S s→J i c S→aV S→Am fs c0 S0 L c S→c0.h.objs.size≤B0→∀(Q:Option Value→Shared→Prop) (R:Value→Shared→Prop) (E:Value→Shared→Prop),
  (∀v s',Q (some v) s'=wpAny (model G.prog G.w) A (letOwnedTupleGo target (.ref I) v) (λ_ s2=>R v s2) E s')→
  (∀c' v tk,Ad G.prog G.w G.h0 fs cl c' L S→Am fs c0 S0 L c' S→Cy G.h0 fs L B1 c c' S→J (i+1) c' S→VR G.prog G.w c' a v→R v {s with heap:=c'.h,toks:=tk})→wpAny (model G.prog G.w) A (pyNext (.ref I)) Q E s
 done:∀{c S s c0 S0},At G fs cl L c S s→J items.length c S→aV S→Am fs c0 S0 L c S→c0.h.objs.size≤B0→∀(Q:Option Value→Shared→Prop) (E:Value→Shared→Prop),
  (∀c' tk,Ad G.prog G.w G.h0 fs cl c' L S→Am fs c0 S0 L c' S→Cy G.h0 fs L B1 c c' S→Q none {s with heap:=c'.h,toks:=tk})→wpAny (model G.prog G.w) A (pyNext (.ref I)) Q E s
 more:∀{i c S c'},J i c S→Le c c'→(∀b o,b<B1→c.h.get? b=some o→c'.h.get? b=some o)→(∀b,Ac G.h0 fs L c S b→Ac G.h0 fs L c' S b)→J i c' S
 gQ:∀{i c S s},At G fs cl L c S s→J i c S→∀(Q:Value→Shared→Prop) (E:Value→Shared→Prop),Q (.ref I) s→wpAny (model G.prog G.w) A (pyIter (.ref I)) Q E s
section
variable {G:Ah} {PE:Addr} {B:Nat} {A:Around} {fs:List Env} {cl:List (Str×Addr)} {L:Addr} {c0 c:Cx} {S0 S:St} {s:Shared} {env:Env} {sc:Scope} {n:Nat} {q:Bool} {I:Addr} {target:Expr} {B0 B1:Nat}
theorem fL (R:Ad G.prog G.w G.h0 fs cl c L S)(E0:Am fs c0 S0 L c S)(hI:Ac G.h0 fs L c S I)(hb:c0.h.objs.size≤I){h':Heap}(hs:c.h.objs.size≤h'.objs.size)(k:∀b o,c.h.get? b=some o→b≠I→h'.get? b=some o):
  Ad G.prog G.w G.h0 fs cl {c with h:=h'} L S∧Am fs c0 S0 L {c with h:=h'} S∧Ac G.h0 fs L {c with h:=h'} S I∧Le c {c with h:=h'}:=by
 obtain ⟨R',P'⟩:=R.jC (F:=λb=>b=I) (h':=h') (λb e=>e▸hI) hs k
 exact ⟨R',E0.jC (h0:=G.h0) (F:=λb=>b=I) (λb e=>e▸⟨hI,hb⟩) hs k,P' _ hI,⟨Nat.le_refl _,λ_ _=>rfl,λ_ h=>h,λa o f e=>k a o e λz=>hI.fz (z▸f)⟩⟩
theorem mF {xs:List FV}{vs:List Value}(r:Aj G.prog G.w c xs vs){i:Nat}{a:AV}(h:(xs.map AV.fr)[i]?=some a){Z:AV→Prop}(z:∀x v,vs.toArray[i]?=some v→FR G.prog G.w c x v→Z (.fr x)):Z a:=by
 rw [List.getElem?_map] at h
 obtain ⟨x,hx,rfl⟩:=Option.map_eq_some_iff.mp h
 obtain ⟨v,e,hv⟩:=r.get hx
 exact z x v (List.getElem?_toArray.trans e) hv
theorem jN {xs:List FV}{vs:List Value}(r:Aj G.prog G.w c xs vs):vs.toArray[(xs.map AV.fr).length]?=none:=by
 rw [List.getElem?_toArray,List.length_map,r.len]
 exact List.getElem?_eq_none (Nat.le_refl _)
theorem Bx.of (hB:B0≤I)(nG:I<B1)(ht:∀v,letOwnedTupleGo target (.ref I) v=pure ()){items:List AV}{aV:St→Prop}{J:Nat→Cx→St→Prop}
  (fQ:∀{i c S c' S'},J i c S→Ad G.prog G.w G.h0 fs cl c L S→Ad G.prog G.w G.h0 fs cl c' L S'→Am fs c S L c' S'→J i c' S')
  (pv:∀{i c S},J i c S→Ac G.h0 fs L c S I)
  (vK:∀{i c S s a},items[i]?=some a→At G fs cl L c S s→J i c S→aV S→∀(Q:Option Value→Shared→Prop) (E:Value→Shared→Prop),
   (∀h' v tk,Heap.SameBut I s.heap h'→(Le c {c with h:=h'}→Ac G.h0 fs L {c with h:=h'} S I→J (i+1) {c with h:=h'} S∧VR G.prog G.w {c with h:=h'} a v)→Q (some v) {s with heap:=h',toks:=tk})→wpAny (model G.prog G.w) A (pyNext (.ref I)) Q E s)
  (done:∀{c S s},At G fs cl L c S s→J items.length c S→aV S→∀(Q:Option Value→Shared→Prop) (E:Value→Shared→Prop),(∀h',Heap.ExtBut I s.heap h'→Q none {s with heap:=h'})→wpAny (model G.prog G.w) A (pyNext (.ref I)) Q E s)
  (more:∀{i c S c'},J i c S→Le c c'→(∀o,c.h.get? I=some o→c'.h.get? I=some o)→(∀b,Ac G.h0 fs L c S b→Ac G.h0 fs L c' S b)→J i c' S)
  (gQ:∀{i c S s},At G fs cl L c S s→J i c S→∀(Q:Value→Shared→Prop) (E:Value→Shared→Prop),Q (.ref I) s→wpAny (model G.prog G.w) A (pyIter (.ref I)) Q E s):Bx G A fs cl L I target B0 B1 items aV J where
 fQ:=fQ
 vK:=λ{i c S s c0 S0 a} hi aj j hc E0 hb Q R E hq k=>vK hi aj j hc Q E λh' v tk hs hk=>by
  have hs:=aj.heap▸hs
  obtain ⟨R',E',P',l'⟩:=fL aj.aF E0 (pv j) (Nat.le_trans hb hB) (Nat.le_of_eq hs.1.symm) λb o e ne=>(hs.2 b ne).trans e
  obtain ⟨j',r'⟩:=hk l' P'
  rw [hq,ht]
  exact wpAny_pure (k {c with h:=h'} v tk R' E' ⟨l',λb o hb e=>(hs.2 b (Nat.ne_of_gt (Nat.lt_of_lt_of_le nG hb))).trans e,λb hb p=>⟨Nat.lt_of_lt_of_le p.lt (Nat.le_of_eq hs.1.symm),p.fz,p.h0,p.ne,p.obj,p.fr⟩⟩ j' r')
 done:=λ{c S s c0 S0} aj j hc E0 hb Q E k=>bu (Nat.le_refl _) (done aj j hc _ _ λh' he hs=>by
  have he:=aj.heap▸he
  have hs:=aj.heap▸hs
  obtain ⟨R',E',P',l'⟩:=fL aj.aF E0 (pv j) (Nat.le_trans hb hB) hs λb o e ne=>he b o ne e
  exact k {c with h:=h'} s.toks R' E' ⟨l',λb o hb e=>he b o (Nat.ne_of_gt (Nat.lt_of_lt_of_le nG hb)) e,λb hb p=>⟨Nat.lt_of_lt_of_le p.lt hs,p.fz,p.h0,p.ne,p.obj,p.fr⟩⟩)
 more:=λj l kb p=>more j l (λo e=>kb _ o nG e) p
 gQ:=gQ
structure A4 (G:Ah)(fs:List Env)(L I ax:Addr)(xs:List FV)(It:Heap→Nat→Prop)(o:List Value→Nat→Obj)(i:Nat)(c:Cx)(S:St):Prop where
 it:It c.h i
 pv:Ac G.h0 fs L c S I
 ne:ax≠I
 fz:c.fz ax
 xs:∃vs n,c.h.get? ax=some (o vs n)∧Aj G.prog G.w c xs vs
theorem A4.le {ax:Addr}{xs:List FV}{It:Heap→Nat→Prop}{o:List Value→Nat→Obj}{i j:Nat}{c':Cx}{S':St}(J:A4 G fs L I ax xs It o i c S)(l:Le c c')(h:It c'.h j)(p:Ac G.h0 fs L c' S' I):A4 G fs L I ax xs It o j c' S':=
 ⟨h,p,J.ne,l.fz _ J.fz,(J.xs).elim λvs q=>q.elim λn q=>q.elim λe r=>⟨vs,n,l.aj _ _ J.fz e,r.aw l⟩⟩
theorem src_list (hh:A.handled=none)(ht:∀v,letOwnedTupleGo target (.ref I) v=pure ()){xs:List FV}{ax:Addr}(hB:B0≤I)(nG:I<B1):
  Bx G A fs cl L I target B0 B1 (xs.map .fr) AT (A4 G fs L I ax xs (λh i=>h.IsListIter I ax i) λvs n=>listOf vs.toArray n):=
 .of hB nG ht (λJ R R' E=>J.le E.le ((J.it).elim λo q=>q.elim λe r=>⟨o,J.pv.get E e,r⟩) (J.pv.fQ R R' E)) (λJ=>J.pv)
  (λ{i c S s a} hi aj J _ Q E k=>(J.xs).elim λvs q=>q.elim λn q=>q.elim λe2 r2=>mF r2 hi (Z:=λa=>(∀h' v tk,Heap.SameBut I s.heap h'→(Le c {c with h:=h'}→Ac G.h0 fs L {c with h:=h'} S I→A4 G fs L I ax xs (λh i=>h.IsListIter I ax i) (λvs n=>listOf vs.toArray n) (i+1) {c with h:=h'} S∧VR G.prog G.w {c with h:=h'} a v)→Q (some v) {s with heap:=h',toks:=tk})→_) (λx v hv hr k=>
   wpAny_pyNext_list_item (aj.heap▸J.it) (items:=vs.toArray) ⟨_,aj.heap▸e2,rfl,n,rfl⟩ (x:=v) hv λh' qU qP=>k h' v s.toks qP λl p=>⟨J.le l qU p,.fr (hr.aw l)⟩) k)
  (λaj J _ Q E k=>(J.xs).elim λvs q=>q.elim λn q=>q.elim λe2 r2=>wpAny_pyNext_list_end hh (aj.heap▸J.it) (items:=vs.toArray) ⟨_,aj.heap▸e2,rfl,n,rfl⟩ (jN r2) λh' he=>k h' he)
  (λJ l kb pv=>J.le l ((J.it).elim λo q=>q.elim λe r=>⟨o,kb _ e,r⟩) (pv _ J.pv)) λaj J Q E h=>wpAny_pyIter_listiter (aj.heap▸J.it) h
theorem src_tuple (hh:A.handled=none)(ht:∀v,letOwnedTupleGo target (.ref I) v=pure ()){xs:List FV}{ax:Addr}(hB:B0≤I)(nG:I<B1):
  Bx G A fs cl L I target B0 B1 (xs.map .fr) AT (A4 G fs L I ax xs (λh i=>h.IsTupleIter I ax i) λvs n=>{cls:=.type "tuple",data:=.seq vs.toArray n}):=
 .of hB nG ht (λJ R R' E=>J.le E.le ((J.it).elim λo q=>q.elim λe r=>⟨o,J.pv.get E e,r⟩) (J.pv.fQ R R' E)) (λJ=>J.pv)
  (λ{i c S s a} hi aj J _ Q E k=>(J.xs).elim λvs q=>q.elim λn q=>q.elim λe2 r2=>mF r2 hi (Z:=λa=>(∀h' v tk,Heap.SameBut I s.heap h'→(Le c {c with h:=h'}→Ac G.h0 fs L {c with h:=h'} S I→A4 G fs L I ax xs (λh i=>h.IsTupleIter I ax i) (λvs n=>{cls:=.type "tuple",data:=.seq vs.toArray n}) (i+1) {c with h:=h'} S∧VR G.prog G.w {c with h:=h'} a v)→Q (some v) {s with heap:=h',toks:=tk})→_) (λx v hv hr k=>
   wpAny_pyNext_tuple_item (aj.heap▸J.it) (items:=vs.toArray) ⟨_,aj.heap▸e2,rfl,n,rfl⟩ (x:=v) hv λh' qU qP=>k h' v s.toks qP λl p=>⟨J.le l qU p,.fr (hr.aw l)⟩) k)
  (λaj J _ Q E k=>(J.xs).elim λvs q=>q.elim λn q=>q.elim λe2 r2=>wpAny_pyNext_tuple_end hh (aj.heap▸J.it) (items:=vs.toArray) ⟨_,aj.heap▸e2,rfl,n,rfl⟩ (jN r2) λh' he=>k h' he)
  (λJ l kb pv=>J.le l ((J.it).elim λo q=>q.elim λe r=>⟨o,kb _ e,r⟩) (pv _ J.pv)) λaj J Q E h=>wpAny_pyIter_tupleiter (aj.heap▸J.it) h
structure By (G:Ah)(fs:List Env)(L I:Addr)(k i:Nat)(c:Cx)(S:St):Prop where
 it:c.h.IsListIter I (c.ρ k) i
 pv:Ac G.h0 fs L c S I
 lt:k<c.n
theorem By.le {k i:Nat}{c':Cx}{S':St}(J:By G fs L I k i c S)(l:Le c c')(h:∀o,c.h.get? I=some o→c'.h.get? I=some o)(p:Ac G.h0 fs L c' S' I):By G fs L I k i c' S':=
 ⟨(J.it).elim λo q=>q.elim λe r=>⟨o,h _ e,l.ρ k J.lt▸r⟩,p,Nat.lt_of_lt_of_le J.lt l.n⟩
theorem mG {m k:Nat}{xs:List FV}(R:Ad G.prog G.w G.h0 fs cl c L S)(h:qT m k xs S):∃vs n,c.h.get? (c.ρ k)=some (listOf (List.toArray vs) n)∧Aj G.prog G.w c xs vs:=
 au h λq e h=>cD (P:=λo=>S.get m=some (q.1,o)→_) h (λys h e=>h.2▸h.1.symm▸R.d6 e) e
theorem abd (hh:A.handled=none)(ht:∀v,letOwnedTupleGo target (.ref I) v=pure ()){xs:List FV}{m k:Nat}(hB:B0≤I)(nG:I<B1):
  Bx G A fs cl L I target B0 B1 (xs.map .fr) (qT m k xs) (By G fs L I k):=
 .of hB nG ht (λJ R R' E=>J.le E.le (λ_=>J.pv.get E) (J.pv.fQ R R' E)) (λJ=>J.pv)
  (λ{i c S s a} hi aj J hc Q E kk=>(mG aj.aF hc).elim λvs q=>q.elim λn q=>q.elim λe2 r2=>mF r2 hi (Z:=λa=>(∀h' v tk,Heap.SameBut I s.heap h'→(Le c {c with h:=h'}→Ac G.h0 fs L {c with h:=h'} S I→By G fs L I k (i+1) {c with h:=h'} S∧VR G.prog G.w {c with h:=h'} a v)→Q (some v) {s with heap:=h',toks:=tk})→_) (λx v hv hr kk=>
   wpAny_pyNext_list_item (aj.heap▸J.it) (items:=vs.toArray) ⟨_,aj.heap▸e2,rfl,n,rfl⟩ (x:=v) hv λh' qU qP=>kk h' v s.toks qP λl p=>⟨⟨qU,p,J.lt⟩,.fr (hr.aw l)⟩) kk)
  (λaj J hc Q E k=>(mG aj.aF hc).elim λvs q=>q.elim λn q=>q.elim λe2 r2=>wpAny_pyNext_list_end hh (aj.heap▸J.it) (items:=vs.toArray) ⟨_,aj.heap▸e2,rfl,n,rfl⟩ (jN r2) λh' he=>k h' he)
  (λJ l kb pv=>J.le l kb (pv _ J.pv)) λaj J Q E h=>wpAny_pyIter_listiter (aj.heap▸J.it) h
theorem iF {a b d:Int}(hd:d≠0):0≤Builtin.Range.rangeSize a b d:=by
 unfold Builtin.Range.rangeSize
 split
 ·split
  ·have:=Int.ediv_nonneg (show 0≤b-a-1 by lia) (show 0≤d by lia)
   lia
  ·lia
 ·split
  ·have:=Int.ediv_nonneg (show 0≤a-b-1 by lia) (show 0 ≤ -d by lia)
   lia
  ·lia
def Cz (G:Ah)(fs:List Env)(L I:Addr)(x y z:Int)(i:Nat)(c:Cx)(S:St):Prop:=IsRangeIter c.h I (x+Int.ofNat i*z) (Builtin.Range.rangeSize x y z-Int.ofNat i) z∧Ac G.h0 fs L c S I
theorem src_range (hh:A.handled=none)(ht:∀v,letOwnedTupleGo target (.ref I) v=pure ()){x y z:Int}(hz:z≠0)(hB:B0≤I)(nG:I<B1):
  Bx G A fs cl L I target B0 B1 ((iE x y z).map λi=>.fr (.int i)) AT (Cz G fs L I x y z):=
 .of hB nG ht (λJ R R' E=>⟨J.2.get E J.1,J.2.fQ R R' E⟩) (λJ=>J.2)
  (λ{i c S s a} hi aj J _ Q E k=>by
   unfold iE at hi
   rw [List.map_map,List.getElem?_map] at hi
   obtain ⟨j,hj,rfl⟩:=Option.map_eq_some_iff.mp hi
   obtain ⟨hj1,hj2⟩:=List.getElem?_eq_some_iff.mp hj
   rw [List.getElem_range] at hj2
   subst hj2
   rw [List.length_range] at hj1
   refine wpAny_pyNext_range_item (aj.heap▸J.1) (by simp; lia) λh' qU qP=>k h' _ _ qP λl p=>⟨⟨?_,p⟩,.fr (.int _ _)⟩
   rw [show x+Int.ofNat (i+1)*z=x+Int.ofNat i*z+z by show x+((i:Int)+1)*z=x+(i:Int)*z+z; rw [Int.add_mul,Int.one_mul,Int.add_assoc],show Builtin.Range.rangeSize x y z-Int.ofNat (i+1)=Builtin.Range.rangeSize x y z-Int.ofNat i-1 by show _-((i:Int)+1)=_-(i:Int)-1; lia]
   exact qU)
  (λaj J _ Q E k=>wpAny_pyNext_range_end hh (aj.heap▸J.1) (by
   have hn:=iF (a:=x) (b:=y) hz
   unfold iE
   rw [List.length_map,List.length_map,List.length_range]
   show _-(((Builtin.Range.rangeSize x y z).toNat:Nat):Int)≤0
   lia) λh' he=>k h' he)
  (λJ l kb pv=>⟨kb _ J.1,pv _ J.2⟩) λaj J Q E h=>wpAny_pyIter_rangeiter (aj.heap▸J.1) h
end
def ee (aV:St→Prop)(aA:AV→St→KF→KX→Prop):List AV→St→KF→KX→Prop
 | [],S,K,_=>aV S∧K .next S
 |a::r,S,K,X=>aV S∧aA a S (λf S1=>match f with
  |.next=>ee aV aA r S1 K X
  |.cont=>ee aV aA r S1 K X
  |.brk=>K .next S1
  |.ret v=>K (.ret v) S1) X
noncomputable def xY:Expr→Bool
 |.Set _ _ _=>false
 |_=>true
noncomputable def xZ:Expr→Bool
 |.Tuple _ _ _|.List _ _=>false
 |_=>true
def vWh (vt:Bf)(vs:Bo)(dX:Expr)(body:List Stmt):Nat→St→KF→KX→Prop
 |0,_,_,_=>False
 |n+1,S,K,X=>vt dX S (λb S1=>match b with
  |false=>K .next S1
  |true=>dD vs body S1 (λf S2=>match f with
   |.next=>vWh vt vs dX body n S2 K X
   |.cont=>vWh vt vs dX body n S2 K X
   |.brk=>K .next S2
   |.ret v=>K (.ret v) S2) X) X
section
variable {G:Ah} {PE:Addr} {B:Nat} {A:Around} {fs:List Env} {cl:List (Str×Addr)} {L:Addr} {c0 c:Cx} {S0 S:St} {s:Shared} {env:Env} {sc:Scope} {n:Nat} {q:Bool} {vE:VE} {vt:Bf} {vs:Bo}
theorem vL {e:Expr}(h:xY e=true)(x:Value):foldedSetIterable e env x=pure x:=by
 cases e with
 |Set=>exact Bool.noConfusion h
 |_=>rfl
theorem ahv {target:Expr}(h:xZ target=true)(it v:Value):letOwnedTupleGo target it v=pure ():=by
 cases target with
 |Tuple|List=>exact Bool.noConfusion h
 |_=>rfl
inductive AY (G:Ah) (fs:List Env) (cl:List (Str×Addr)) (L:Addr) (c:Cx) (S:St) (s:Shared) (J:Nat→Cx→St→Prop) (V:Nat→St→Prop) (N:Nat):Nat→Shared→Prop
 |mk {i:Nat} {c':Cx} {S':St} {tk:Nat}:i≤N→Ad G.prog G.w G.h0 fs cl c' L S'→Am fs c S L c' S'→S'.ai=S.ai→J i c' S'→V i S'→AY G fs cl L c S s J V N (N+1-i) {s with heap:=c'.h,toks:=tk}
theorem drop_cons {α:Type}{l r:List α}{a:α}{i:Nat}(h:l.drop i=a::r):l[i]?=some a∧i<l.length∧l.drop (i+1)=r:=by
 have h1:l[i]?=some a:=by rw [←List.head?_drop,h]; rfl
 exact ⟨h1,(List.getElem?_eq_some_iff.mp h1).1,by rw [←List.drop_drop,h]; rfl⟩
theorem drop_nil {α:Type}{l:List α}{i:Nat}(h:l.drop i=[])(hi:i≤l.length):i=l.length:=Nat.le_antisymm hi (List.drop_eq_nil_iff.mp h)
theorem x6 (r:Aq G A fs env sc cl L n q){target:Expr}{body:List Stmt}{I:Addr}{items:List AV}{aV:St→Prop}{J:Nat→Cx→St→Prop}{aA:AV→St→KF→KX→Prop}{B1:Nat}(hS:Bx G A fs cl L I target s.heap.objs.size B1 items aV J)
  (hT:∀(B:Nat) (c:Cx) (S:St) (s:Shared) (a:AV) (v:Value),At G fs cl L c S s→(VR G.prog G.w) c a v→∀(K:KF) (X:KX) (Q:Flow→Shared→Prop) (E:Value→Shared→Prop),aA a S K X→Ak (AC G.prog G.w) G fs cl L c S s K Q→Ai G (PE,B) fs cl L c S s X E→wpAny (model G.prog G.w) A (assign target env v) (λ_ s2=>wpAny (model G.prog G.w) A (execs body env) Q E s2) E s)
  (aj:At G fs cl L c S s) {c1:Cx} (R1:Ad G.prog G.w G.h0 fs cl c1 L S) (E1:Am fs c S L c1 S) (hJ:J 0 c1 S) {K:KF} {X:KX} {Q:Flow→Shared→Prop} {E:Value→Shared→Prop} (v:ee aV aA items S K X) (p:Ak (AC G.prog G.w) G fs cl L c S s K Q) (x:Ai G (PE,B) fs cl L c S s X E):
  codeAny (model G.prog G.w) A (.forLoop target (.ref I) body [] env) (λr s'=>match r with|.ok f=>Q f s'|.error e=>cameBackBy (model G.prog G.w) A env E e s') {s with heap:=c1.h}:=by
 refine codeAny_forLoop_any (AY G fs cl L c S s J (λi S'=>ee aV aA (items.drop i) S' K X) items.length) (λk s' h=>?_) (items.length+1) (AY.mk (i:=0) (tk:=s.toks) (Nat.zero_le _) R1 E1 rfl hJ v)
 cases h with
 |mk hi R' E' nQ hJ' v'=>
  rename_i i c' S' tk
  have hsz:c.h.objs.size≤s.heap.objs.size:=Nat.le_of_eq (congrArg (·.objs.size) aj.heap)
  cases hd:items.drop i with
  |nil=>
   rw [hd] at v'
   exact hS.done (s:={s with heap:=c'.h,toks:=tk}) ⟨R',rfl⟩ (drop_nil hd hi▸hJ') v'.1 E' hsz _ _ λc2 bG R2 E2 _=>wpAny_execs_nil (p c2 .next S' .next bG v'.2 E2 R2 nQ .next)
  |cons a rest=>
   rw [hd] at v'
   obtain ⟨hi',hlt,tV⟩:=drop_cons hd
   refine hS.vK (s:={s with heap:=c'.h,toks:=tk}) hi' ⟨R',rfl⟩ hJ' v'.1 E' hsz _ (λv s2=>wpAny (model G.prog G.w) A (assign target env v) (λ_ s₂=>wpAny (model G.prog G.w) A (execs body env) (λf s₃=>match f with
       |.next|.cont=>∃m,m<items.length+1-i∧AY G fs cl L c S s J (λi S'=>ee aV aA (items.drop i) S' K X) items.length m s₃
       |.brk=>Q .next s₃
       |.ret v=>Q (.ret v) s₃) (notedBy (model G.prog G.w) A env λe s'=>cameBackBy (model G.prog G.w) A env E e s') s₂) (notedBy (model G.prog G.w) A env λe s'=>cameBackBy (model G.prog G.w) A env E e s') s2) _ (λv s'=>rfl) λc2 u bG R2 E2 _ hJ2 r2=>?_
   refine hT _ c2 S' _ a u ⟨R2,rfl⟩ r2 _ X _ _ v'.2 (λc3 f S3 fl fR k3 e3 R3 iA r3=>?_) ((x.ak aj.aF R2 E2 nQ bG).ahu r R2)
   have E3:=E2.trans aj.aF.kn R2.kn e3
   have vD:=iA.trans nQ
   have go:ee aV aA rest S3 K X→∃m,m<items.length+1-i∧AY G fs cl L c S s J (λi S'=>ee aV aA (items.drop i) S' K X) items.length m {s with heap:=c3.h,toks:=fR}:=λkk=>
    ⟨_,by lia,.mk (i:=i+1) hlt R3 E3 vD (hS.fQ hJ2 R2 R3 e3) (tV.symm▸kk)⟩
   cases r3 with
   |next=>exact go k3
   |cont=>exact go k3
   |brk=>exact p c3 .next S3 .next fR k3 E3 R3 vD .next
   |ret hv=>exact p c3 (.ret _) S3 (.ret _) fR k3 E3 R3 vD (.ret hv)
theorem qW (r:Aq G A fs env sc cl L n q)(dX:Expr)(body:List Stmt)(pos:Pos)(ht:∀B,Ae BR G (PE,B) A fs cl L (vt dX) (isTrue dX env (eval dX env)))(hs:∀B,Ae (AC G.prog G.w) G (PE,B) A fs cl L (dD vs body) (execs body env)):
  Ae (AC G.prog G.w) G (PE,B) A fs cl L (λS K X=>∃n,vWh vt vs dX body n S K X) (exec (.While dX body [] pos) env):=by
 intro c S s aj K X Q E v p x
 obtain ⟨N,v⟩:=v
 have he:({s with heap:=c.h,toks:=s.toks}:Shared)=s:=by rw [aj.heap]
 refine wpAny_While (codeAny_whileLoop (λk s'=>AY G fs cl L c S s (λ_ _ _=>True) (λj S'=>vWh vt vs dX body (N-j) S' K X) N (k+1) s') (λk s' h=>?_) N (he▸AY.mk (i:=0) (N:=N) (Nat.zero_le _) aj.aF (.refl ..) rfl trivial v))
 generalize hk:k+1=k' at h
 cases h with
 |mk hi R' E' nQ hx v'=>
  rename_i j c' S' tk
  have hk:N-j=k:=by lia
  rw [hk] at v'
  cases k with
  |zero=>exact v'.elim
  |succ k=>
   refine ht _ c' S' {s with heap:=c'.h,toks:=tk} ⟨R',rfl⟩ _ X _ _ v' (λc2 b S2 b' bG k2 e2 R2 cj r2=>?_) ((x.ak aj.aF R' E' nQ tk).ahu r R')
   have r2:b=b':=r2
   subst r2
   have E2:=E'.trans aj.aF.kn R'.kn e2
   have cj:=cj.trans nQ
   cases b with
   |false=>exact wpAny_execs_nil (p c2 .next S2 .next bG k2 E2 R2 cj .next)
   |true=>
    refine hs _ c2 S2 _ ⟨R2,rfl⟩ _ X _ _ k2 (λc3 f S3 fl fR k3 e3 R3 iA r3=>?_) ((x.ak aj.aF R2 E2 cj bG).ahu r R2)
    have E3:=E2.trans aj.aF.kn R2.kn e3
    have iA:=iA.trans cj
    have go:vWh vt vs dX body k S3 K X→∃m,m<k+1∧AY G fs cl L c S s (λ_ _ _=>True) (λj S'=>vWh vt vs dX body (N-j) S' K X) N (m+1) {s with heap:=c3.h,toks:=fR}:=λkk=>
     have e:N-(j+1)=k:=by lia
     ⟨k,Nat.lt_succ_self _,(show N+1-(j+1)=k+1 by lia)▸.mk (i:=j+1) (by lia) R3 E3 iA trivial (e.symm▸kk)⟩
    cases r3 with
    |next=>exact go k3
    |cont=>exact go k3
    |brk=>exact p c3 .next S3 .next fR k3 E3 R3 iA .next
    |ret hv=>exact p c3 (.ret _) S3 (.ret _) fR k3 E3 R3 iA (.ret hv)
end
section
open Builtin Builtin.ObjectAttr
section
variable {M:Model} {prog:Program} {w:World} {A:Around} {E:Value→Shared→Prop} {R:Result→Shared→Prop} {h:Heap} {g:Array GenState} {d:Drawn} {t:Nat} {os:OsState}
variable {nm q:Str} {C N:Addr} {bs bm:List Value} {arR:Bool} {sn:List Str} {sub:List Value} {ab:Bool} {col:Option Bool} {dd:Option Addr} {k0 k1 k2 k3 k5:Option Value}
theorem x7 {rest:List Value}(hcB:(Value.ref C::bm).contains (.type "Exception")=true)(hcA:(Value.ref C::bm).contains (.type "AttributeError")=false)(hcN:(Value.ref C::bm).contains (.type "NameError")=false)
  (hC:h.get? C=some (excClassObj nm q C N bs bm arR sn sub ab col dd k0 k1 k2 k3 k5 "Exception.__new__"))
  (hq:R (.ok (.ret (.ref (h.objs.size+1)))) ⟨(h.push {cls:=.type "tuple",data:=.seq rest.toArray}).push {cls:=.ref C,data:=.fields #[.ref h.objs.size,.none,.none,.none,.bool false,.none]},g,d,t,os⟩) (tV:rest.length≤sizeLine):
  codeAny (model prog w) A (.call (.builtin "Exception.__new__") ⟨.ref C::rest,[]⟩) R ⟨h,g,d,t,os⟩:=by
 have F:=PySem.F.excBase_Exception
 have avt:=F.ends
 refine codeAny_call_builtin_code (Code.quiet_builtin _ F.quiet) ?_
 unfold checkBuiltinCall
 rw [F.newKind,F.newSplit,F.newRow]
 repeat (first|refine wpAny_loadPart_at hC ?_|(refine wpAny_isSubtype_exc hC ?_; rw [hcB])|refine wpAny_staticBase_exc hC ?_|refine wpAny_madeBy_exc hC ?_|(refine nH (c:=(bne _ _)=true) ?c ?_; (case c=>rw [bne_self_eq_false]; exact Bool.false_ne_true))|wp_step)
 refine codeAny_builtinAt F.entry ?_
 unfold Builtin.«BaseException.__new__»
 refine PySem.wpAt_bind ?_
 show PySem.wpAt _ _ _ (stack >>= _) _ _ _
 refine PySem.wpAt_bind (PySem.wpAt_stack λp below=>PySem.wpAt_of_wpAny ?_)
 wp_walk
 refine PySem.wpAt_of_wpAny ?_
 rw [F.owner]
 repeat (first|with_reducible refine wpAny_madeHere_exc F.canon hC ?_|with_reducible refine wpAny_loadPart_at hC ?_|(with_reducible refine wpAny_isSubtype_exc hC ?_; first|rw [hcB]|rw [hcA]|rw [hcN])|wp_step)
 show R _ _
 rw [Heap.size_push]
 exact hq
end
structure BN where
 nm:Str
 q:Str
 N:Addr
 bs:List Value
 bm:List Value
 sn:List Str
 sub:List Value
 ab:Bool
 col:Option Bool
 dd:Option Addr
 k0:Option Value
 k1:Option Value
 k2:Option Value
 k3:Option Value
 k5:Option Value
noncomputable abbrev BN.o (d:BN)(C:Addr)(hd:Bool)(nid:String):Obj:=excClassObj d.nm d.q C d.N d.bs d.bm hd d.sn d.sub d.ab d.col d.dd d.k0 d.k1 d.k2 d.k3 d.k5 nid
structure Dg (G:Ah)(C:Addr)(d:BN):Prop where
 aj:G.h0.get? C=some (d.o C true "Exception.__new__")
 exc:(Value.ref C::d.bm).contains (.type "Exception")=true
 att:(Value.ref C::d.bm).contains (.type "AttributeError")=false
 nam:(Value.ref C::d.bm).contains (.type "NameError")=false
 bas:(Value.ref C::d.bm).contains (.type "BaseException")=true
 obj:(Value.ref C::d.bm).contains (.type "object")=true
 ref:∀gQ,refuseLoop gQ "__setattr__" (.ref C::d.bm)=pure ()
structure B6 (G:Ah)(C fI:Addr):Prop where
 obj:∃d,Dg G C d
 alX:findIn G.K (.ref C) "__init__" = some (some (.ref fI))
 fn:typeIn G.K (.ref fI)=some (.type "function")
 sa:findIn G.K (.ref C) "__setattr__" = some (some (.builtin "object.__setattr__"))
 u0:findIn G.K (.ref C) bA=some .none
 call:specialIn G.K (.ref C) "__call__" = some (some (.builtin "type.__call__"))
 typ:instIn G.K (.ref C) (.type "type")=some true
 cd:(clsIn G.K C).any (·.hasDict)=true
section
variable {G:Ah} {C fI:Addr} {A:Around} {R:Result→Shared→Prop} {h:Heap} {g:Array GenState} {d:Drawn} {t:Nat} {os:OsState}
theorem x8 (Y:B6 G C fI)(X:G.K.In h)(S0:G.h0.StaysIn h){rest:List Value}(hl:rest.length≤sizeLine)
  (hq:codeAny (model G.prog G.w) (A.under (.builtin "type.__call__" ⟨.ref C::rest,[]⟩)) (.call (.ref fI) ⟨.ref (h.objs.size+1)::rest,[]⟩) (InitBack (h.objs.size+1) R) ⟨(h.push {cls:=.type "tuple",data:=.seq rest.toArray}).push {cls:=.ref C,data:=.fields #[.ref h.objs.size,.none,.none,.none,.bool false,.none]},g,d,t,os⟩):
  codeAny (model G.prog G.w) A (.call (.ref C) ⟨rest,[]⟩) R ⟨h,g,d,t,os⟩:=by
 obtain ⟨d0,O⟩:=Y.obj
 have hC:=S0 _ _ O.aj
 have Ce:=looks_specialIn (M:=model G.prog G.w) X Y.call
 have CA:=looks_instIn (M:=model G.prog G.w) X Y.typ
 have Cg:=looks_findIn (M:=model G.prog G.w) X Y.alX
 have gQ:Looks (model G.prog G.w) h (isSubtype (.ref C) (.ref C)) true:=λA Q E s k q=>by
  obtain ⟨hh,g,d,t,os⟩:=s
  refine wpAny_isSubtype_exc (k _ _ hC) ?_
  rw [List.contains_cons,beq_self_eq_true,Bool.true_or]; exact q
 refine codeAny_of_tree ?_
 show wpAny _ _ (callAny (.ref C) _) _ _ _
 refine nd_load hC ?_
 show wpAny _ _ (callAny.viaDunder (.ref C) _) _ _ _
 unfold callAny.viaDunder
 refine wpAny_bind (Ce.at ?_)
 dsimp only
 rw [tc_bind]
 refine wpAny_bind (wpAny_pure (wpAny_bind (wpAny_pure ?_)))
 refine wpAny_pure (a:=Fin.again (.call (.builtin "type.__call__") ⟨.ref C::rest,[]⟩)) (And.intro rfl ?_)
 refine codeAny_call_builtin_at (Code.quiet_builtin _ (by decide +kernel)) entry_typeCall (check_slot tc_kind tc_split CA (tc_args _ _ _) ?_)
 unfold Builtin.«type.__call__»
 have hm:Looks (model G.prog G.w) h (mroOf (.ref C)) (.ref C::d0.bm):=((Looks.ld (part:=none) hC).andThen .now).andThen .now
 have avv:Looks (model G.prog G.w) h (Bind.madeBy (.ref C)) (some "Exception.__new__"):=λA Q E s k q=>by
  obtain ⟨hh,g,d,t,os⟩:=s
  exact wpAny_madeBy_exc (k _ _ hC) q
 repeat (first|(refine nH (c:=(List.isEmpty (_::_))=true) ?c ?_; (case c=>exact Bool.false_ne_true))|with_reducible refine wpAny_call ?_|lk)
 refine x7 O.exc O.att O.nam hC ?_ hl
 have k:∀b o,h.get? b=some o→((h.push {cls:=.type "tuple",data:=.seq rest.toArray}).push {cls:=.ref C,data:=.fields #[.ref h.objs.size,.none,.none,.none,.bool false,.none]}).get? b=some o:=λb o e=>Heap.get?_push_of_some _ (Heap.get?_push_of_some _ e)
 have hx:((h.push {cls:=.type "tuple",data:=.seq rest.toArray}).push {cls:=.ref C,data:=.fields #[.ref h.objs.size,.none,.none,.none,.bool false,.none]}).get? (h.objs.size+1)=some {cls:=.ref C,data:=.fields #[.ref h.objs.size,.none,.none,.none,.bool false,.none]}:=by heap_get
 have t1:Looks (model G.prog G.w) ((h.push {cls:=.type "tuple",data:=.seq rest.toArray}).push {cls:=.ref C,data:=.fields #[.ref h.objs.size,.none,.none,.none,.bool false,.none]}) (typeOf (.ref (h.objs.size+1))) (.ref C):=(Looks.ld hx).andThen .now
 have s1:=gQ.keeps k
 have i1:=Cg.keeps k
 have b1:=(bind_fn (M:=model G.prog G.w) X (.ref (h.objs.size+1)) Y.fn).keeps k
 unfold isInstance callSpecial? specialOf
 repeat (first|with_reducible refine wpAny_call ?_|lk)
 refine codeAny_mono hq λr s' z=>?_
 rcases r with e|(v|_|_|_) <;> first|exact z|exact z.elim|skip
 obtain ⟨rfl,z⟩:=z
 exact wpAny_pure (wpAny_pure z)
end
section
variable {G:Ah} {C fI:Addr} {A:Around} {s:Shared}
theorem abe (Y:B6 G C fI)(X:G.K.In s.heap)(S0:G.h0.StaysIn s.heap){x:Addr}{vs:Array Value}{v:Value}{Q:Unit→Shared→Prop}{E:Value→Shared→Prop}(hx:s.heap.get? x=some {cls:=.ref C,data:=.fields vs})
  (hq:∀h' tk,(∀b o,b≠x→s.heap.get? b=some o→h'.get? b=some o)→s.heap.objs.size≤h'.objs.size→s.heap.objs.size<h'.objs.size→h'.get? x=some {cls:=.ref C,dict:=some s.heap.objs.size,data:=.fields vs}→h'.Ns1 s.heap.objs.size (λy=>if y=bA then some v else none)→Q () {s with heap:=h',toks:=tk}):
  wpAny (model G.prog G.w) A (setAttr (.ref x) bA v) Q E s:=by
 obtain ⟨d0,O⟩:=Y.obj
 have hC:=S0 _ _ O.aj
 have I:PySem.W.InstAt s.heap x {cls:=.ref C,data:=.fields vs} C none:=⟨hx,rfl,rfl,trivial⟩
 refine set_plain X I Y.sa ?_
 have SF:=PySem.F.store_object
 have sub:Looks (model G.prog G.w) s.heap (isInstance (.ref x) (.type "object")) true:=I.type.andThen λA Q E s k q=>by
  obtain ⟨hh,g,d,t,os⟩:=s
  refine wpAny_isSubtype_exc (k _ _ hC) ?_
  rw [O.obj]; exact q
 have hm:Looks (model G.prog G.w) s.heap (mroOf (.ref C)) (.ref C::d0.bm):=((Looks.ld (part:=none) hC).andThen .now).andThen .now
 refine codeAny_call_builtin SF.slot.plain SF.entry (@check_slot (model G.prog G.w) _ _ {s with toks:=s.toks+1} "object.__setattr__" "object" "__setattr__" (.ref x) [.str bA s.toks,v] [] _ SF.kind SF.split sub (SF.args (.ref x) (.str bA s.toks) v) ?_)
 rw [osa_eq,refuse_eq]
 refine wpAny_bind (wpAny_bind (I.type.here (s:={s with toks:=s.toks+1}) (wpAny_bind (hm.here (s:={s with toks:=s.toks+1}) ?_))))
 rw [O.ref]
 refine wpAny_pure (wpAny_bind (I.type.here (s:={s with toks:=s.toks+1}) (wpAny_bind ((looks_findIn X Y.u0).here (s:={s with toks:=s.toks+1}) (wpAny_bind ((Looks.now (a:=(none:Option Value))).here (s:={s with toks:=s.toks+1}) ?_))))))
 obtain ⟨cdd,hcd,hd'⟩:=any_some Y.cd
 show wpAny _ _ (storeInOwnDict (.ref x) (.ref C) (.str bA s.toks) bA v false) _ _ _
 refine wpAny_bind (wpAny_pure (wpAny_bind (wpAny_bind (wpAny_loadPart hx (wpAny_bind (looks_clsIn X hcd _ _ _ _ (λ_ _ e=>e) ?_))))))
 rw [hd']
 have hx₁:(s.heap.push {cls:=.type "dict",data:=.dict #[]}).get? x=some {cls:=.ref C,data:=.fields vs}:=Heap.get?_push_of_some _ hx
 have hxs:x≠s.heap.objs.size:=Nat.ne_of_lt (Heap.lt_size hx)
 refine wpAny_bind (wpAny_alloc ?_)
 refine wpAny_bind (wpAny_update hx₁ ?_)
 refine wpAny_pure ?_
 have hgd:((s.heap.push {cls:=.type "dict",data:=.dict #[]}).update x λo=>{o with dict:=some s.heap.objs.size}).get? s.heap.objs.size=some {cls:=.type "dict",data:=.dict #[]}:=
  (Heap.get?_update_ne _ _ _ _ hxs.symm).trans (Heap.get?_push_at rfl rfl)
 have hnd:((s.heap.push {cls:=.type "dict",data:=.dict #[]}).update x λo=>{o with dict:=some s.heap.objs.size}).Ns s.heap.objs.size (λ_=>none):=
  ⟨_,#[],_,hgd,rfl,λe he=>absurd he (by simp),λ_=>rfl⟩
 show wpAny _ _ (storeInDict s.heap.objs.size (.str bA s.toks) bA v) _ _ _
 unfold storeInDict newKeyGuard
 refine wpAny_bind (wpAny_pure (wpAny_bind (wpAny_nsSet1 (Heap.Ns1.of_empty hnd) λh' hn' hs=>?_)))
 obtain ⟨oD,esD,epD,hoD,hdD,hcD⟩:=hn'.count (Within.cons bA v Within.nil)
 refine wpAny_bind (wpAny_lookBehind hoD (by rw [hdD]; exact pastItsLine_dict (Nat.le_trans hcD (by rw [List.length_cons,List.length_nil,sizeLine_eq]; lia))) ?_)
 refine wpAny_pure ?_
 have hz:h'.objs.size=s.heap.objs.size+1:=by rw [hs.1]; simp [Heap.update,Heap.push]
 refine hq h' _ (λb ob hbx hb=>?_) (by lia) (by lia) ?_ hn'
 ·exact (hs.2 b (Nat.ne_of_lt (Heap.lt_size hb))).trans ((Heap.get?_update_ne _ _ _ _ hbx).trans (Heap.get?_push_of_some _ hb))
 ·exact (hs.2 x hxs).trans (Heap.get?_update_self _ hx₁ rfl)
end
def qX (xs xt:Str)(p1 p2 p3 p4:Pos):List Stmt:=[.Assign [.Attribute (.Name xs p1) bA p2] (.Name xt p3) p4]
structure CB (G:Ah)(fI:Addr)(fd:FuncData)(sc:Scope)(xs xt:Str)(p1 p2 p3 p4:Pos):Prop where
 ok:Cd G fI fd (qX xs xt p1 p2 p3 p4) sc
 names:fd.params.args.map (·.arg)=[xs,xt]
 ne:(xs==xt)=false
 nd:(xs==("__debug__" : Str))=false∧(xt==("__debug__" : Str))=false
 dfl:∃dv,∀(M:Model) (A:Around) (E:Value→Shared→Prop) (Q:Option (Array Value)→Shared→Prop) (s:Shared),G.K.In s.heap→(∀r,r.getD #[]=#[dv]→Q r s)→wpAny M A (seqItems? fd.defaults) Q E s
section
variable {G:Ah} {C fI:Addr} {A:Around} {s:Shared} {fd:FuncData} {sc:Scope} {xs xt:Str} {p1 p2 p3 p4:Pos}
theorem x9 (Y:B6 G C fI)(I:CB G fI fd sc xs xt p1 p2 p3 p4)(hG:G.Ok)(S0:G.h0.StaysIn s.heap)(tW:A.depth<recursionLimit){x:Addr}{vs:Array Value}{v:Value}{R:Result→Shared→Prop}(hx:s.heap.get? x=some {cls:=.ref C,data:=.fields vs})
  (hq:∀h' tk dx,(∀b o,b≠x→s.heap.get? b=some o→h'.get? b=some o)→s.heap.objs.size≤dx→dx<h'.objs.size→h'.get? x=some {cls:=.ref C,dict:=some dx,data:=.fields vs}→h'.Ns1 dx (λy=>if y=bA then some v else none)→R (.ok (.ret (.ref x))) {s with heap:=h',toks:=tk}):
  codeAny (model G.prog G.w) A (.call (.ref fI) ⟨.ref x::[v],[]⟩) (InitBack x R) s:=by
 obtain ⟨O,nm,ne,nd,dv,hdv⟩:=I
 obtain ⟨oc,od,osl,hat⟩:=O.aj
 have X:G.K.In s.heap:=hG.nD.keeps S0
 have oz:s.heap.NoLimit:=hG.lim.keeps S0
 have ne':xs≠xt:=by simpa using ne
 refine codeAny_call_def (binds:=dc (fd.params.args.map (·.arg)) [.ref x,v] [dv]) (body:=qX xs xt p1 p2 p3 p4) tW (X _ _ hat) rfl oz (codeRec_of X O.code) O.body (gk O.args (by rw [nm]; simp [gj,List.lookup,ne]) λM A E Q q=>hdv M A E Q s X q) (by rw [O.gd]; exact O.cells) (λq hq=>by rw [O.gd]; exact O.loc _ (nW hq)) (λh₀ hn hk=>?_) (by rw [O.gd]; exact O.co) (by rw [O.gd]; exact O.gen) (by rw [O.gd]; exact O.kind)
 have eb:dc (fd.params.args.map (·.arg)) [Value.ref x,v] [dv]=[(xs,.ref x),(xt,v)]:=by
  have ne2:(xt==xs)=false:=by simp [Ne.symm ne']
  rw [nm]; simp [dc,fH,jB,mu,List.lookup,ne2]
 rw [eb] at hn
 have l1:sc.names.lookup xs=some .local:=O.loc _ (by rw [nm]; simp)
 have l2:sc.names.lookup xt=some .local:=O.loc _ (by rw [nm]; simp)
 have kf:(callEnv fd s.heap.objs.size fI).scope.kind=.function:=by show fd.scope.kind=_; rw [O.gd]; exact O.kind
 have v1:List.lookup xs ([(xs,Value.ref x),(xt,v)]:List (Str×Value)).reverse=some (.ref x):=by
  show List.lookup xs [(xt,v),(xs,Value.ref x)]=_
  simp [List.lookup,ne]
 have v2:List.lookup xt ([(xs,Value.ref x),(xt,v)]:List (Str×Value)).reverse=some v:=by
  show List.lookup xt [(xt,v),(xs,Value.ref x)]=_
  simp [List.lookup]
 unfold qX
 refine wpAny_execs_cons ?_
 rw [plainObj_exec_Assign_Attribute _ _ _ _ _ rfl]
 refine wpAny_bind (wpAny_standAt (wpAny_bind ?_))
 refine wpAny_Name (wpAny_loadName_local kf (by show fd.scope.names.lookup xt=_; rw [O.gd]; exact l2) hn v2 ?_) nd.2
 refine wpAny_bind ?_
 rw [PySem.assign_Attribute]
 refine wpAny_bind (wpAny_holding ?_)
 refine wpAny_Name (wpAny_loadName_local kf (by show fd.scope.names.lookup xs=_; rw [O.gd]; exact l1) hn v1 ?_) nd.1
 refine wpAny_bind (wpAny_standAt (wpAny_bind (wpAny_holding ?_)))
 have k0:s.heap.StaysIn h₀:=λb o e=>hk b o e
 refine bu (n:=s.heap.objs.size) (Nat.le_of_lt hn.lt) ?_
 refine abe (s:={s with heap:=h₀,toks:=_}) Y (X.keeps k0) (λb o e=>hk b o (S0 b o e)) (hk _ _ hx) λh' tk kp sz sz2 hx' hn' hh=>?_
 refine wpAny_release (wpAny_pure (wpAny_execs_nil ?_))
 refine ⟨rfl,hq h' tk h₀.objs.size (λb o hb e=>kp b o hb (hk b o e)) (Nat.le_of_lt hn.lt) sz2 hx' hn'⟩
end
structure Bu (G:Ah)(C:Addr):Prop where
 it:∃fI fd sc xs xt p1 p2 p3 p4,B6 G C fI∧CB G fI fd sc xs xt p1 p2 p3 p4
 kp:keepIn G.K (.ref C)=true
section
variable {G:Ah} {PE:Addr} {B:Nat} {A:Around} {fs:List Env} {cl:List (Str×Addr)} {L:Addr} {c:Cx} {S:St} {s:Shared} {env:Env} {sc:Scope} {n:Nat} {q:Bool}
theorem abf (Z:Bu G PE)(hG:G.Ok)(tW:A.depth+1<recursionLimit)(a:At G fs cl L c S s)(hB:B≤c.h.objs.size){x:FV}{v:Value}(rx:FR G.prog G.w c x v){R:Result→Shared→Prop}
  (hq:∀c' e tk,FS G fs cl L c S x (.ref e) (PE,B) c' S→R (.ok (.ret (.ref e))) {s with heap:=c'.h,toks:=tk}):
  codeAny (model G.prog G.w) A (.call (.ref PE) ⟨[v],[]⟩) R s:=by
 obtain ⟨fI,fd,iw,xs,xt,p1,p2,p3,p4,Y,I⟩:=Z.it
 obtain ⟨hh,g,d,t,os⟩:=s
 have eh:c.h=hh:=a.heap
 subst eh
 have S0:G.h0.StaysIn c.h:=a.aF.bj
 refine x8 Y (a.aF.nD hG a.heap) S0 (sz (show 1≤4000000 by decide)) ?_
 have k:∀b o,c.h.get? b=some o→((c.h.push {cls:=.type "tuple",data:=.seq [v].toArray}).push {cls:=.ref PE,data:=.fields #[.ref c.h.objs.size,.none,.none,.none,.bool false,.none]}).get? b=some o:=λb o e=>Heap.get?_push_of_some _ (Heap.get?_push_of_some _ e)
 have hx:((c.h.push {cls:=.type "tuple",data:=.seq [v].toArray}).push {cls:=.ref PE,data:=.fields #[.ref c.h.objs.size,.none,.none,.none,.bool false,.none]}).get? (c.h.objs.size+1)=some {cls:=.ref PE,data:=.fields #[.ref c.h.objs.size,.none,.none,.none,.bool false,.none]}:=by heap_get
 refine x9 (A:=A.under _) (s:=⟨_,g,d,t,os⟩) Y I hG (λb o e=>k b o (S0 b o e)) (by first|exact tW|exact Nat.lt_of_succ_lt tW) hx λh' tk dx kp z1 z2 hx' hn'=>hq {c with h:=h',fz:=λa=>c.fz a∨a=dx} (c.h.objs.size+1) tk ?_
 rw [Array.size_push,Array.size_push] at z1
 have kp':∀b o,c.h.get? b=some o→h'.get? b=some o:=λb o e=>kp b o (Nat.ne_of_lt (Nat.lt_succ_of_lt (Heap.lt_size e))) (k b o e)
 have up:∀b,b=dx→c.h.objs.size≤b∧b<h'.objs.size:=λb e=>e▸⟨Nat.le_trans (Nat.le_add_right _ 2) z1,z2⟩
 obtain ⟨R1,E1⟩:=a.aF.ice (h':=h') (F:=λb=>b=dx) (Nat.le_of_lt (Nat.lt_of_le_of_lt (up dx rfl).1 z2)) kp' up
 have P:=Ac.new (h':=h') a.aF (Nat.le_succ _) (Heap.lt_size hx')
 refine ⟨R1,E1,.mk ⟨hx',rfl,rfl,rfl,⟨[v],?_,.cons (rx.aw E1.le) .nil⟩,.inr rfl⟩ (Nat.le_succ_of_le hB) ⟨P.lt,λf=>f.elim P.fz λe=>Nat.not_succ_le_self _ (e▸z1),P.h0,P.ne,P.obj,P.fr⟩ (.inl rfl)⟩
 rw [show zl [bA] [v]=λy=>if y=bA then some v else none from funext λy=>dS y bA _ _]
 exact hn'
theorem lH (r:Aq G A fs env sc cl L n q)(Z:Bu G PE)(a:At G fs cl L c S s){c0:Cx}{S0:St}{x:FV}{v:Value}(D:FS G fs cl L c0 S0 x v (PE,B) c S)(hB:c0.h.objs.size≤B){Q:Flow→Shared→Prop}{E:Value→Shared→Prop}(hn:∀s',E v s'→wpAny (model G.prog G.w) A (raiseNew v) Q E s')
  (k:∀c',FS G fs cl L c0 S0 x v (PE,B) c' S→E v {s with heap:=c'.h}):
  wpAny (model G.prog G.w) A (do
   let e ←holding [] (excFromValue v "exceptions must derive from BaseException")
   let e ←if ←isType v then holding [e] (raisedFor v e) else raisedInstance e
   setFlight e none
   raiseNew e) Q E s:=by
 obtain ⟨fI,fd,iw,xs,xt,p1,p2,p3,p4,Y,I⟩:=Z.it
 obtain ⟨d0,O⟩:=Y.obj
 obtain ⟨hp,g,d,tk,os⟩:=s
 have eh:c.h=hp:=a.heap
 subst eh
 have hC:=a.aF.bj _ _ O.aj
 cases id D.F with
 |mk X xW Pe ht=>
  rename_i e' oe dx vs
  have isT:∀{Q:Bool→Shared→Prop} {E:Value→Shared→Prop},Q false ⟨c.h,g,d,tk,os⟩→wpAny (model G.prog G.w) A (isType (.ref e')) Q E ⟨c.h,g,d,tk,os⟩:=λ{Q E} h=>by
   unfold isType loadHead
   refine wpAny_bind (wpAny_loadPart X.aj (wpAny_pure ?_))
   rw [X.data]; exact h
  have alY:∀{Q:Value→Shared→Prop} {E:Value→Shared→Prop},Q (.ref PE) ⟨c.h,g,d,tk,os⟩→wpAny (model G.prog G.w) A (typeOf (.ref e')) Q E ⟨c.h,g,d,tk,os⟩:=λ{Q E} h=>wpAny_bind (wpAny_loadPart X.aj (wpAny_pure (X.cls.symm▸h)))
  refine wpAny_bind (wpAny_holding ?_)
  unfold excFromValue isExcClass
  refine wpAny_bind (wpAny_bind (isT (nH (by decide) (wpAny_pure (nH (by decide) ?_)))))
  unfold isInstance
  refine wpAny_bind (wpAny_bind (alY (wpAny_isSubtype_exc hC ?_)))
  rw [O.bas]
  refine ify rfl (wpAny_pure (wpAny_bind (isT (nH (by decide) ?_))))
  unfold raisedInstance
  refine wpAny_bind (wpAny_bind (alY (wpAny_bind (wpAny_bind (wpAny_loadPart hC (wpAny_pure (ify (by rfl) (wpAny_pure (wpAny_bind ?_)))))))))
  rcases ht with h1|⟨T,h1,_⟩
  ·unfold setFlight
   exact wpAny_bind (wpAny_field X.aj X.data h1 (nH (by decide) (wpAny_pure (hn _ (k c D)))))
  ·exact fm r D hB (mk:=none) (.inl rfl) rfl ⟨e',oe,vs,T,rfl,X.aj,X.data,h1⟩ λc' D' _=>hn _ (k c' D')
end
noncomputable def qY:Expr→Option (Expr×List Expr×Pos)
 |.Call f es [] p=>some (f,es,p)
 |_=>none
theorem iG {e:Expr}{x:Expr×List Expr×Pos}(h:qY e=some x){Z:Expr→Prop}(z:Z (.Call x.1 x.2.1 [] x.2.2)):Z e:=by
 cases e with
 |Call f es kw p=>cases kw with
  |nil=>cases Option.some.inj h; exact z
  |cons=>exact nS h
 |_=>exact nS h
def gm (e:Expr)(P:Str→Pos→Prop):Prop:=match e with
 |.Name x p=>P x p
 |_=>False
theorem dA {e:Expr}{P:Str→Pos→Prop}{Z:Expr→Prop}(h:gm e P)(k:∀x p,P x p→Z (.Name x p)):Z e:=by
 cases e with
 |Name x p=>exact k x p h
 |_=>exact h.elim
def x' (v:Value)(P:Addr→Prop):Prop:=match v with
 |.ref a=>P a
 |_=>False
theorem jO {v:Value}{P:Addr→Prop}{Z:Value→Prop}(h:x' v P)(k:∀a,P a→Z (.ref a)):Z v:=by
 cases v with
 |ref a=>exact k a h
 |_=>exact h.elim
def qZ (f:AV)(P:Addr→Prop):Prop:=gw f λx=>lb x λv=>x' v P
theorem tX {p:Program}{w:World}{c:Cx}{f:AV}{v:Value}{P:Addr→Prop}(h:qZ f P)(r:VR p w c f v){Z:Value→Prop}(z:∀a,P a→Z (.ref a)):Z v:=
 aZ (P:=λf=>VR p w c f v→Z v) h (λx h r=>d5 (P:=λx=>VR p w c (.fr x) v→Z v) h (λu h r=>r.dg (P:=Z) (jO h z)) r) r
def ya (PE:Addr)(vE:VE)(e:Expr)(S:St)(X:KX):Prop:=bW (qY e) λc=>gm c.1 λx np=>cV (c.2.1.all bn) <| vE (.Name x np) S (λf S1=>qZ f λa=>cV (Nat.beq a PE) <| dC vE c.2.1 S1 (λas S2=>wJ as λa=>gw a λy=>X y S2) X) X
section
variable {G:Ah} {PE:Addr} {A:Around} {fs:List Env} {cl:List (Str×Addr)} {L:Addr} {c:Cx} {S:St} {s:Shared} {env:Env} {sc:Scope} {n:Nat} {q:Bool} {vE:VE}
theorem ahw {p:Program}{w:World}{c:Cx}{as:List AV}{vs:List Value}{P:AV→Prop}(h:wJ as P)(r:Al p w c as vs){Z:List Value→Prop}(z:∀a v,VR p w c a v→P a→Z [v]):Z vs:=
 dT (P:=λas=>Al p w c as vs→Z vs) h (λa h r=>r.el (P:=Z) λv vs ra r=>r.el (P:=λvs=>Z (v::vs)) (z a v ra h)) r
theorem q8 (r:Aq G A fs env sc cl L (n+1) true)(Z:Bu G PE)(hE:∀B e,Ae (VR G.prog G.w) G (PE,B) A fs cl L (vE e) (eval e env))(e:Expr)(pos:Pos){B:Nat}:
  Ae (AC G.prog G.w) G (PE,B) A fs cl L (λS _ X=>ya PE vE e S X) (exec (.Raise (some e) none pos) env):=by
 intro c S s a K X Q E v p x
 rw [arm_exec_Raise]
 refine wpAny_bind (wpAny_standAt ?_)
 unfold raiseStmt
 refine wpAny_bind (wpAny_bind (au v λz hz v=>iG (Z:=λe=>wpAny (model G.prog G.w) A (eval e env) _ E s) hz ?_))
 obtain ⟨f,es,mH⟩:=z
 refine dA (P:=λnm np=>cV (es.all bn) <| vE (.Name nm np) S _ X) (Z:=λf=>wpAny (model G.prog G.w) A (eval (.Call f es [] mH) env) _ E s) v λnm np v=>aG v λhs v=>?_
 have hst:=eB (env:=env) (pos:=mH) hs
 refine wpAny_Call_ofName (hE B (.Name nm np) c S s a _ X _ E v (λc1 f S1 u aL k1 e1 R1 a8 r1=>tX (Z:=λu=>wpAny (model G.prog G.w) A (callWith mH u [] (backTo mH (starEach es env)) []) _ E _) k1 r1 λfa k1=>aG k1 λhfa k1=>?_) x)
 have x1:=x.ak a.aF R1 e1 a8 aL
 rw [Nat.eq_of_beq_eq_true hfa]
 refine callWith_of (P:=λh=>G.K.In h) (by rw [hst.1]; rfl) (keeps_K Z.kp) (dW hs (eZ es (λe h'=>⟨List.all_eq_true.mp hs e h',hE B e⟩) c1 S1 _ (a.ak R1 aL) _ X _ E k1 (λc2 as S2 vs bG k2 e2 R2 cj r2=>⟨R2.nD r.run.ok rfl,ahw (Z:=λvs=>wpAny (model G.prog G.w) A (call (.ref PE) ([]++vs)) _ E _) k2 r2.1 λav u ry k2=>?_⟩) x1))
 refine aZ (P:=λav=>VR G.prog G.w c2 av u→_) k2 (λy k2 ry=>?_) ry
 have x2:=x1.ak R1 R2 e2 cj bG
 refine wpAny_call (abf (B:=c2.h.objs.size) Z r.run.ok (Nat.lt_of_le_of_lt (by lia) r.run.kK.1) (a.ak R2 bG) (Nat.le_refl _) ry.cU λc3 e3 fR D3=>wpAny_bind (wpAny_standAt (wpAny_pure (wpAny_bind (wpAny_pure ?_)))))
 exact lH r Z (s:={s with heap:=c3.h,toks:=fR}) ⟨D3.R,rfl⟩ D3 (Nat.le_refl _) (λs' h=>wpAny_raiseNew_none (r.run.i5 rfl) h) λc4 D4=>x2.2 c4 y S2 _ fR k2 D4.E D4.R rfl (D4.F.less x2.1)
end
structure BH (G:Ah)(C:Addr):Prop where
 ga:findIn G.K (.ref C) "__getattribute__" = some (some (.builtin "BaseException.__getattribute__"))
 gh:findIn G.K (.ref C) "__getattr__" = some .none
theorem tY:PySem.Slot "Exception" "__getattribute__" "BaseException.__getattribute__" :=
 .of (owner := "BaseException") (n := "__getattribute__") (by rw [typeLookup_type,builtinLookup_eq_fast]; kernel_rfl) (by decide +kernel) (by decide +kernel) (by decide +kernel)
  (by first|exact .inl (by decide +kernel)|exact .inr (by decide +kernel)) (by rw [isSubtype_type]; kernel_rfl)
theorem abg:builtinKind "BaseException.__getattribute__" = some .slot:=by decide +kernel
theorem yb:splitId "BaseException.__getattribute__" = some ("BaseException","__getattribute__"):=by decide +kernel
section
variable {G:Ah} {C fI:Addr} {A:Around} {s:Shared}
theorem abh (Y:B6 G C fI)(Y2:BH G C)(X:G.K.In s.heap)(S0:G.h0.StaysIn s.heap){x dx:Addr}{ox:Obj}{m:Str→Option Value}{v:Value}{b:Bool}{Q:Value→Shared→Prop}{E:Value→Shared→Prop}(hx:s.heap.get? x=some ox)(hcl:ox.cls=.ref C)(hnc:notCls ox=true)(hdx:ox.dict=some dx)(hn:s.heap.Ns1 dx m)(hv:m bA=some v)(hh:handedIn v=true)
  (hq:Q v {s with toks:=s.toks+1}):
  wpAny (model G.prog G.w) A (getAttr (.ref x) bA b) Q E s:=by
 obtain ⟨d0,O⟩:=Y.obj
 have hC:=S0 _ _ O.aj
 obtain ⟨od,es,ep,ed,d',kk,_,ff⟩:=hn
 have I:PySem.W.InstAt s.heap x ox C (some od):=⟨hx,hcl,hnc,by rw [hdx]; exact ed⟩
 have hlk:lookIn bA od=some (some v):=by rw [lg d' kk,ff,hv]
 have hf:=findObj_own (K:=G.K) (C:=C) (od:=od) (by unfold hasDictIn; exact Y.cd) Y.u0 rfl hlk
 obtain ⟨hp,g,d,t,os⟩:=s
 have L0:=I.type (M:=model G.prog G.w)
 have L1:=looks_findIn (M:=model G.prog G.w) X Y2.ga
 have L2:=looks_findIn (M:=model G.prog G.w) X Y2.gh
 have L3:=looks_find (M:=model G.prog G.w) X I hf
 have sub:Looks (model G.prog G.w) hp (isInstance (.ref x) (.type "BaseException")) true:=I.type.andThen λA Q E s k q=>by
  obtain ⟨hh,g,d,t,os⟩:=s
  refine wpAny_isSubtype_exc (k _ _ hC) ?_
  rw [O.bas]; exact q
 unfold getAttr getAttrBy
 refine wpAny_bind (wpAny_mkText (wpAny_holding (wpAny_bind (L0.at (wpAny_bind (L1.at ?_))))))
 show wpAny _ _ (getAttrByItsOwn (.ref x) (.str bA t) (.ref C) (.builtin "BaseException.__getattribute__") true b) _ _ _
 unfold getAttrByItsOwn hookBefore
 refine wpAny_bind (L2.at ?_)
 refine wpAny_bind (wpAny_attempt (wpAny_holding ?_))
 show wpAny _ _ (callGetattribute (.ref x) (.str bA t) (.builtin "BaseException.__getattribute__") b) _ _ _
 have e1:callGetattribute (.ref x) (.str bA t) (.builtin "BaseException.__getattribute__") b=boundAndCalled (.builtin "BaseException.__getattribute__") (.ref x) (.str bA t):=by
  unfold callGetattribute
  cases b <;> rfl
 rw [e1]
 unfold boundAndCalled
 rw [tY.bind]
 refine wpAny_bind (wpAny_pure (wpAny_call ?_))
 refine codeAny_call_builtin tY.plain PySem.F.entry_bexc_ga (@check_slot (model G.prog G.w) _ _ _ "BaseException.__getattribute__" "BaseException" "__getattribute__" (.ref x) [.str bA t] [] _ abg yb sub (PySem.F.args_bexc_ga _ _) ?_)
 refine wpAny_bind (wpAny_pure (wpAny_bind (wpAny_pure (wpAny_bind (L0.at (wpAny_bind (L3.at ?_)))))))
 refine wpAny_pure ?_
 show wpAny _ _ (handedOut v) _ _ _
 rw [handedOut_of hh]
 exact wpAny_pure hq
end
noncomputable def kQ {α:Type}(x:Str):List (Str×α)→List (Str×α)
 | []=>[]
 |f::r=>match x==f.1 with
  |true=>kQ x r
  |false=>f::kQ x r
theorem mI {x:Str}{xs:List Str}{v:Value}{vs:List Value}(y:Str):zl (x::xs) (v::vs) y=if y=x then some v else zl xs vs y:=dS y x _ _
theorem yc {p:Program}{w:World}{c:Cx}{x:Str}{fs:List (Str×AV)}:∀{vs:List Value},Al p w c (fs.map (·.2)) vs→
  ∃ws,(∀y,zl ((kQ x fs).map (·.1)) ws y=if y=x then none else zl (fs.map (·.1)) vs y)∧Al p w c ((kQ x fs).map (·.2)) ws:=by
 induction fs with
 |nil=>exact λ_=>⟨[],λy=>(ite_self _).symm,.nil⟩
 |cons f fs ih=>
  intro vs h
  refine h.el (P:=λvs=>∃ws,(∀y,zl ((kQ x (f::fs)).map (·.1)) ws y=if y=x then none else zl (f.1::fs.map (·.1)) vs y)∧Al p w c ((kQ x (f::fs)).map (·.2)) ws) λu us hu hr=>?_
  obtain ⟨ws,e,R⟩:=ih hr
  unfold kQ
  cases q:x==f.1 with
  |true=>
   refine ⟨ws,λy=>?_,R⟩
   show zl ((kQ x fs).map (·.1)) ws y=_
   rw [mI,e,eq_of_beq q]
   by_cases h:y=f.1
   ·rw [if_pos h,if_pos h]
   ·rw [if_neg h,if_neg h,if_neg h]
  |false=>
   refine ⟨u::ws,λy=>?_,.cons hu R⟩
   show zl (f.1::(kQ x fs).map (·.1)) (u::ws) y=_
   rw [mI,mI,e]
   by_cases h:y=f.1
   ·rw [if_pos h,if_pos h,if_neg]
    exact λe=>ne_of_beq_false q (e.symm.trans h)
   ·rw [if_neg h,if_neg h]
def lI (nm:Str)(S:St)(K:St→Prop):Prop:=K {S with loc:=kQ nm S.loc}∧∀u,K {S with loc:=cC nm (.fr (.lit u)) S.loc}
section
variable {G:Ah} {PE:Addr} {B:Nat} {A:Around} {fs:List Env} {cl:List (Str×Addr)} {L:Addr} {c:Cx} {S:St} {s:Shared} {env:Env} {sc:Scope} {n:Nat} {q:Bool}
theorem lJ {M:Model}(hE:Bh env sc cl L)(aj:At G fs cl L c S s){nm:Str}{pos:Pos}(hl:sc.names.lookup nm=some .local){K:St→Prop}(v:lI nm S K){Q:Unit→Shared→Prop}{E:Value→Shared→Prop}
  (k:∀c' S',K S'→Ad G.prog G.w G.h0 fs cl c' L S'→Am fs c S L c' S'→S'.ai=S.ai→(∃l,S'={S with loc:=l})→Q () {s with heap:=c'.h,toks:=s.toks+1}):wpAny M A (do bindName env nm .none; unbindBehindTheSuite env nm pos) Q E s:=by
 have hk:env.kindOf nm=some .local:=by unfold Env.kindOf; rw [hE.gd]; exact hl
 have hp:(env.scope.kind==.class||(env.scope.kind==.module&&env.locals !=env.globals))=false:=by rw [hE.gd,hE.kind]; rfl
 obtain ⟨vs,n1,n2⟩:=aj.aF.loc
 refine wpAny_bind (wpAny_bindName (wpAny_storeName_local (m:=zl (S.loc.map (·.1)) vs) hk (hE.loc▸aj.heap▸n1) (λh₁ hn₁ wD=>wpAny_onRaise (wpAny_unbindName_local hk hn₁ (v:=.none) (if_pos rfl) hp λh₂ u hn₂ hs₂=>?_)) hp))
 have sb:Heap.SameBut L c.h h₂:=aj.heap▸hE.loc▸wD.trans hs₂
 have go:∀l ws,zl (l.map λ(g:Str×AV)=>g.1) ws=(λx=>if x=nm then u else if x=nm then some Value.none else zl (S.loc.map (·.1)) vs x)→(Al G.prog G.w c (l.map (·.2)) ws)→K {S with loc:=l}→Q () {s with heap:=h₂,toks:=s.toks+1}:=λl ws e q kk=>
  (aj.aF.frame (loc:=l) sb λlc=>⟨ws,e▸hE.loc▸hn₂,q.aw lc⟩).elim λR' E'=>
  k _ _ kk R' E' rfl ⟨_,rfl⟩
 have i6:∀(y:Str) (a b d:Option Value),(if y=nm then a else b)=if y=nm then a else if y=nm then d else b:=λy a b d=>by
  by_cases h:y=nm
  ·rw [if_pos h,if_pos h]
  ·rw [if_neg h,if_neg h,if_neg h]
 cases u with
 |none=>
  obtain ⟨ws,e,rr⟩:=yc (x:=nm) n2
  exact go _ ws (funext λy=>(e y).trans (i6 ..)) rr v.1
 |some u=>
  obtain ⟨ws,e,rr⟩:=jr (x:=nm) (av:=.fr (.lit u)) (v:=u) (.fr (.lit u)) n2
  exact go _ ws (funext λy=>(e y).trans (i6 ..)) rr (v.2 u)
end
def yd (e:Expr)(P:Expr→Str→Prop):Prop:=match e with
 |.Attribute o a _=>P o a
 |_=>False
theorem vM {e:Expr}{P:Expr→Str→Prop}{Z:Expr→Prop}(h:yd e P)(k:∀o a p,P o a→Z (.Attribute o a p)):Z e:=by
 cases e with
 |Attribute o a p=>exact k o a p h
 |_=>exact h.elim
def ahx {α:Type}(o:Option α)(P:Prop):Prop:=match o with
 |none=>P
 |some _=>False
theorem tZ {α:Type}{o:Option α}{P:Prop}{Z:Option α→Prop}(h:ahx o P)(k:P→Z none):Z o:=by
 cases o with
 |none=>exact k h
 |some=>exact h.elim
def iT {α:Type}(l:List α)(P:Prop):Prop:=match l with
 | []=>P
 |_::_=>False
theorem dF {α:Type}{l:List α}{P:Prop}{Z:List α→Prop}(h:iT l P)(k:P→Z []):Z l:=by
 cases l with
 |nil=>exact k h
 |cons=>exact h.elim
def vNm (sc:Scope)(nm:Str)(v:Value)(S:St)(K:Prop):Prop:=u5 (sc.names.lookup nm) (vOk (nm==("__debug__" : Str)) (bW (S.loc.lookup nm) λa=>gw a λx=>lb x λu=>v=u∧K)) False False
def iU (sc:Scope)(nm:Str)(x:FV)(v:Value)(vt:Bf)(vs:Bo):Nat→List Stmt→St→KF→KX→Prop
 |0,_,_,_,_=>False
 |_+1,[],S,K,_=>K .next S
 |n+1,st::rest,S,K,X=>match st with
  |.Raise e c _=>ahx c (bW e λe=>gm e λm _=>cV (m==nm) (vNm sc nm v S (lI nm S (X x))))
  |.Assign ts e _=>wJ ts λt=>gm t λt _=>yd e λo a=>gm o λm _=>cV (m==nm) (cV (a==bA) (vNm sc nm v S (vOk (isB x) (fi sc t (.fr x) S λS1=>iU sc nm x v vt vs n rest S1 K X))))
  |.If t b o _=>iT o (vt t S (λr S1=>match r with
   |true=>iU sc nm x v vt vs n b S1 (λf S2=>match f with
    |.next=>iU sc nm x v vt vs n rest S2 K X
    |f=>K f S2) X
   |false=>iU sc nm x v vt vs n rest S1 K X) (λ_ _=>False))
  |.Expr e p=>vs (.Expr e p) S (λf S1=>match f with
   |.next=>iU sc nm x v vt vs n rest S1 K X
   |_=>False) (λ_ _=>False)
  |_=>False
theorem ye {sc:Scope}{nm:Str}{v:Value}{S:St}{K Z:Prop}(h:vNm sc nm v S K)(z:sc.names.lookup nm=some .local→(nm==("__debug__" : Str))=false→S.loc.lookup nm=some (.fr (.lit v))→K→Z):Z:=
 gF h (λh1 h=>let ⟨h2,h⟩:=cg h; au h λa h3 h=>aZ (P:=λa=>S.loc.lookup nm=some a→Z) h (λx h=>d5 (P:=λx=>S.loc.lookup nm=some (.fr x)→Z) h λu h h3=>z h1 h2 (h.1▸h3) h.2) h3) (λ_ h=>h.elim) λ_ h=>h.elim
section
variable {G:Ah} {PE:Addr} {B:Nat} {A:Around} {fs:List Env} {cl:List (Str×Addr)} {L:Addr} {env:Env} {sc:Scope} {n:Nat} {vt:Bf} {vs:Bo}
theorem kR {α:Type}{M:Model}{s:Shared}{a:Addr}{Q:α→Shared→Prop}{E:Value→Shared→Prop}(hh:A.handled=some (.ref a))(h:E (.ref a) s):wpAny M A (raiseNew (.ref a):Sem α) Q E s:=by
 unfold raiseNew
 refine wpAny_bind (wpAny_handled ?_)
 rw [hh]
 show wpAny M A (if (Value.ref a !=Value.ref a)=true then _ else throw (Value.ref a)) Q E s
 exact nH (by simp) (wpAny_throw h)
theorem told_asg (r:Aq G A fs env sc cl L n false)(Z:Bu G PE)(Y2:BH G PE){nm t:Str}{tp mp ap pos:Pos}{x:FV}{ea:Addr}{c0 c:Cx}{S0 S:St}{s:Shared}{K:St→Prop}{Q:Flow→Shared→Prop}{E:Value→Shared→Prop}(D:FS G fs cl L c0 S0 x (.ref ea) (PE,B) c S)
  (h1:sc.names.lookup nm=some .local) (h2:(nm==("__debug__" : Str))=false) (h3:S.loc.lookup nm=some (.fr (.lit (.ref ea)))) (hb:isB x=false) (h:fi sc t (.fr x) S K)
  (k:∀c2 S2 bG,K S2→FS G fs cl L c0 S0 x (.ref ea) (PE,B) c2 S2→S2.ai=S.ai→Q .next {s with heap:=c2.h,toks:=bG}) (R0:Ad G.prog G.w G.h0 fs cl c0 L S0):
  wpAny (model G.prog G.w) A (exec (.Assign [.Name t tp] (.Attribute (.Name nm mp) bA ap) pos) env) Q E {s with heap:=c.h}:=by
 refine wpAny_Assign_Name (lw rfl (gf r.run.env D.R rfl h2 h1 h3 λu hu=>?_)) rfl
 rw [hu.dg (P:=λu=>u=.ref ea) rfl]
 obtain ⟨fI,fd,iw,xs,xt,p1,p2,p3,p4,Y,I⟩:=Z.it
 have go:∀{v P},Bi G fs L c S x v P→v=.ref ea→P=(PE,B)→∃oe dx vs,ExcAt G c x PE ea oe dx vs:=λF=>by
  cases F with
  |mk X=>
   intro h1 h2
   cases h1
   cases h2
   exact ⟨_,_,_,X⟩
 obtain ⟨oe,dx,vs',W⟩:=go D.F rfl rfl
 obtain ⟨ws,n,q⟩:=W.u0
 refine q.el (P:=λws=>c.h.Ns1 dx (zl [bA] ws)→_) (λu us hx _ n=>?_) n
 refine abh (s:={s with heap:=c.h}) Y Y2 (D.R.nD r.run.ok rfl) D.R.bj W.aj W.cls (by unfold notCls; rw [W.data]) W.dict n (v:=u) rfl (lh hx hb) ?_
 exact dz (PE:=(PE,c.h.objs.size)) r.run t (c:=c) (S:=S) (s:={s with heap:=c.h,toks:=s.toks+1}) ⟨D.R,rfl⟩ (.fr hx) (λ_ S1=>K S1) (λ_ _=>False) _ E h (λc2 _ S2 _ bG k2 e2 R2 cj _=>k c2 S2 bG k2 (D.fQ R0 R2 e2) cj) ⟨Nat.le_refl _,λ_ _ _ _ _ k=>k.elim⟩
theorem yf (r:Aq G A fs env sc cl L n false)(Z:Bu G PE)(Y2:BH G PE){nm:Str}{x:FV}{ea:Addr}(hh:A.handled=some (.ref ea))(ht:∀B e,Ae BR G (PE,B) A fs cl L (vt e) (isTrue e env (eval e env)))(hs:∀B e p,Ae (AC G.prog G.w) G (PE,B) A fs cl L (vs (.Expr e p)) (exec (.Expr e p) env))
  {c0:Cx} {S0:St} {s:Shared} (R0:Ad G.prog G.w G.h0 fs cl c0 L S0) (hB:c0.h.objs.size≤B) {X:KX} {E:Value→Shared→Prop}
  (xp:∀c' S' tk,lI nm S' (X x)→FS G fs cl L c0 S0 x (.ref ea) (PE,B) c' S'→S'.ai=S0.ai→E (.ref ea) {s with heap:=c'.h,toks:=tk}) (k:Nat):
  ∀{l:List Stmt} {c:Cx} {S:St} {tk:Nat} {K:KF} {Q:Flow→Shared→Prop},FS G fs cl L c0 S0 x (.ref ea) (PE,B) c S→S.ai=S0.ai→iU sc nm x (.ref ea) vt vs k l S K X→
   (∀c' f S' fl tk,K f S'→FS G fs cl L c0 S0 x (.ref ea) (PE,B) c' S'→S'.ai=S0.ai→(AC G.prog G.w) c' f fl→Q fl {s with heap:=c'.h,toks:=tk})→
   wpAny (model G.prog G.w) A (execs l env) Q E {s with heap:=c.h,toks:=tk}:=by
 induction k with
 |zero=>exact λ_ _ h=>h.elim
 |succ k ih=>
  intro l c S tk K Q D hc h p
  have a:At G fs cl L c S {s with heap:=c.h,toks:=tk}:=⟨D.R,rfl⟩
  have no:∀{c S} {s:Shared},Ai G (PE,c.h.objs.size) fs cl L c S s (λ_ _=>False) E:=λ{c S s}=>⟨Nat.le_refl _,λ_ _ _ _ _ k=>k.elim⟩
  cases l with
  |nil=>exact wpAny_execs_nil (p c .next S .next tk h D hc .next)
  |cons st rest=>
   refine wpAny_execs_cons ?_
   cases st with
   |Raise e cc pos=>
    refine tZ (Z:=λcc=>wpAny (model G.prog G.w) A (exec (.Raise e cc pos) env) _ E _) h λh=>au h λe he h=>?_
    subst he
    refine dA (Z:=λe=>wpAny (model G.prog G.w) A (exec (.Raise (some e) none pos) env) _ E _) h λm mp h=>aG h λhm h=>ye h λh1 h2 h3 h=>?_
    rw [arm_exec_Raise]
    refine wpAny_bind (wpAny_standAt ?_)
    unfold raiseStmt
    rw [eq_of_beq hm]
    refine wpAny_bind (wpAny_bind (gf r.run.env D.R rfl h2 h1 h3 λu hu=>?_))
    rw [hu.dg (P:=λu=>u=.ref ea) rfl]
    refine wpAny_bind (wpAny_standAt (wpAny_pure (wpAny_bind (wpAny_pure ?_))))
    exact lH r Z a D hB (λs' h=>kR hh h) λc' D'=>xp c' S tk h D' hc
   |Assign ts e pos=>
    refine dT (P:=λts=>wpAny (model G.prog G.w) A (exec (.Assign ts e pos) env) _ E _) h λt h=>dA (Z:=λt=>wpAny (model G.prog G.w) A (exec (.Assign [t] e pos) env) _ E _) h λt tp h=>vM (Z:=λe=>wpAny (model G.prog G.w) A (exec (.Assign [.Name t tp] e pos) env) _ E _) h λo ta ap h=>
     dA (Z:=λo=>wpAny (model G.prog G.w) A (exec (.Assign [.Name t tp] (.Attribute o ta ap) pos) env) _ E _) h λm mp h=>aG h λhm h=>aG h λhta h=>ye h λh1 h2 h3 h=>?_
    obtain ⟨hb,h⟩:=cg h
    rw [eq_of_beq hm,eq_of_beq hta]
    exact told_asg (s:={s with heap:=c.h,toks:=tk}) r Z Y2 D h1 h2 h3 hb h (λc2 S2 bG k2 D2 cj=>ih D2 (cj.trans hc) k2 p) R0
   |If t b o pos=>
    refine dF (Z:=λo=>wpAny (model G.prog G.w) A (exec (.If t b o pos) env) _ E _) h λh=>wpAny_If (ht _ t c S _ a _ _ _ E h (λc2 b' S2 b2 bG k2 e2 R2 cj r2=>?_) no)
    have r2:b'=b2:=r2
    subst r2
    have D2:=D.fQ R0 R2 e2
    cases b' with
    |true=>
     refine ih D2 (cj.trans hc) k2 λc3 f S3 fl fR k3 D3 iA r3=>?_
     cases r3 with
     |next=>exact ih D3 iA k3 p
     |brk=>exact p c3 .brk S3 .brk fR k3 D3 iA .brk
     |cont=>exact p c3 .cont S3 .cont fR k3 D3 iA .cont
     |ret hv=>exact p c3 _ S3 _ fR k3 D3 iA (.ret hv)
    |false=>exact wpAny_execs_nil (ih D2 (cj.trans hc) k2 p)
   |Expr e p'=>
    refine hs _ e p' c S _ a _ _ _ E h (λc2 f S2 fl bG k2 e2 R2 cj r2=>?_) no
    cases r2 with
    |next=>exact ih (D.fQ R0 R2 e2) (cj.trans hc) k2 p
    |_=>exact k2.elim
   |_=>exact h.elim
end
structure B7 (G:Ah)(PE C:Addr):Prop where
 obj:∃(d:BN) (hd:Bool) (nid:String),G.h0.get? C=some (d.o C hd nid)∧(Value.ref C::d.bm).contains (.type "BaseException")=true
 not:∀(d:BN),G.h0.get? PE=some (d.o PE true "Exception.__new__")→(Value.ref PE::d.bm).contains (.ref C)=false
def q9 (PE:Addr)(gR:List Addr)(sc:Scope)(jP:Nat)(vE:VE)(vt:Bf)(vs:Bo)(x:FV):List ExceptHandler→St→KF→KX→Prop
 | [],S,_,X=>X x S
 |.ExceptHandler t name body _::rest,S,K,X=>bW t λt=>vE t S (λf S1=>qZ f λa=>match Nat.beq a PE with
   |true=>bW name λnm=>u5 (sc.names.lookup nm) (cV (!body.isEmpty) (∀e,iU sc nm x (.ref e) vt vs jP body {S1 with loc:=cC nm (.fr (.lit (.ref e))) S1.loc} (λf S2=>lI nm S2 (K f)) X)) False False
   |false=>cV (gR.contains a) (q9 PE gR sc jP vE vt vs x rest S1 K X)) (λ_ _=>False)
section
variable {G:Ah} {PE:Addr} {A:Around}
theorem lK {C:Addr}{d d2:BN}{hd2:Bool}{arS:String}{b:Bool}{M:Model}{s:Shared}(hC:s.heap.get? PE=some (d.o PE true "Exception.__new__"))(hC2:s.heap.get? C=some (d2.o C hd2 arS))(hb:(Value.ref C::d2.bm).contains (.type "BaseException")=true)
  (hcC:(Value.ref PE::d.bm).contains (.ref C)=b) {e:Addr} {oe:Obj} (he:s.heap.get? e=some oe) (qw:oe.cls=.ref PE) {Q:Bool→Shared→Prop} {E:Value→Shared→Prop} (hq:Q b s):wpAny M A (excMatches (.ref e) (.ref C)) Q E s:=by
 have f:=tc_notTuple
 obtain ⟨hp,g,d,t,os⟩:=s
 unfold excMatches
 repeat (any_goals (first|assumption|(with_reducible refine wpAny_loadPart_at he ?_; rw [qw])|with_reducible refine wpAny_loadPart_at hC2 ?_|(with_reducible refine wpAny_isSubtype_exc hC ?_; rw [hcC])|(with_reducible refine wpAny_isSubtype_exc hC2 ?_; rw [hb])|wp_step))
 cases b with
 |true=>wp_walk; exact hq
 |false=>wp_walk; exact hq
theorem re {C:Addr}(N:B7 G PE C)(Z:Bu G PE){M:Model}{s:Shared}(S0:G.h0.StaysIn s.heap){e:Addr}{oe:Obj}(he:s.heap.get? e=some oe)(qw:oe.cls=.ref PE){Q:Bool→Shared→Prop}{E:Value→Shared→Prop}(hq:Q false s):wpAny M A (excMatches (.ref e) (.ref C)) Q E s:=
 (N.obj).elim λ_ q=>q.elim λ_ q=>q.elim λ_ q=>q.elim λh2 hb=>
 (Z.it).elim λ_ q=>q.elim λ_ q=>q.elim λ_ q=>q.elim λ_ q=>q.elim λ_ q=>q.elim λ_ q=>q.elim λ_ q=>q.elim λ_ q=>q.elim λ_ q=>q.elim λY _=>
 (Y.obj).elim λd O=>
 lK (S0 _ _ O.aj) (S0 _ _ h2) hb (N.not d O.aj) he qw hq
theorem yg (Z:Bu G PE){M:Model}{s:Shared}(S0:G.h0.StaysIn s.heap){e:Addr}{oe:Obj}(he:s.heap.get? e=some oe)(qw:oe.cls=.ref PE){Q:Bool→Shared→Prop}{E:Value→Shared→Prop}(hq:Q true s):wpAny M A (excMatches (.ref e) (.ref PE)) Q E s:=
 (Z.it).elim λ_ q=>q.elim λ_ q=>q.elim λ_ q=>q.elim λ_ q=>q.elim λ_ q=>q.elim λ_ q=>q.elim λ_ q=>q.elim λ_ q=>q.elim λ_ q=>q.elim λY _=>
 (Y.obj).elim λ_ O=>
 lK (S0 _ _ O.aj) (S0 _ _ O.aj) O.bas (by simp) he qw hq
end
section
variable {G:Ah} {PE:Addr} {B:Nat} {A:Around} {fs:List Env} {cl:List (Str×Addr)} {L:Addr} {env:Env} {sc:Scope} {n:Nat} {q:Bool} {lL:VE} {kS:Bf} {vs vs':Bo} {gR:List Addr}
theorem Aq.mark (r:Aq G A fs env sc cl L n q)(v:Value):Aq G (A.mark (some v)) fs env sc cl L n false:=
 ⟨⟨r.run.ok,r.run.env,r.run.frames,r.run.kK,λh=>Bool.noConfusion h⟩,r.wW,r.frm⟩
theorem ua {c0 c:Cx}{S0 S:St}{s:Shared}{x:FV}{v:Value}{M:Model}(r:Aq G A fs env sc cl L n q)(D:FS G fs cl L c0 S0 x v (PE,B) c S)(hB:c0.h.objs.size≤B)(hh:c.h=s.heap)(t:AF c v){m:String}{Q:Flow→Shared→Prop}{E:Value→Shared→Prop}
  (k:∀c',FS G fs cl L c0 S0 x v (PE,B) c' S→AF c' v→E v {s with heap:=c'.h}):wpAny M A (PySem.passOn m v env:Sem Flow) Q E s:=by
 unfold PySem.passOn
 exact wpAny_bind (tU hh t λT=>nH (by simp) (wpAny_bind (r.frm▸fm r D hB (.inr rfl) hh t λc' D' t'=>wpAny_throw (k c' D' t'))))
theorem out_step {c0 c:Cx}{S0 S:St}{s:Shared}{x:FV}{v:Value}{nm:Str}{pos:Pos}{m:String}{Y:St→Prop}{FQ:Flow→Shared→Prop}{EN H Dh:Value→Shared→Prop}(r':Aq G (A.mark (some v)) fs env sc cl L n false)(R0:Ad G.prog G.w G.h0 fs cl c0 L S0)(D:FS G fs cl L c0 S0 x v (PE,c0.h.objs.size) c S)(fS:sc.names.lookup nm=some .local)(g:lI nm S Y)
  (k:∀c' S' tk,Y S'→FS G fs cl L c0 S0 x v (PE,c0.h.objs.size) c' S'→S'.ai=S.ai→AF c' v→EN v {s with heap:=c'.h,toks:=tk}):
  wpAny (model G.prog G.w) (A.mark (some v)) (noteFrame v env) (λ_ s₃=>wpAny (model G.prog G.w) (A.mark (some v)) (do bindName env nm Value.none; unbindBehindTheSuite env nm pos) (λ_ s₄=>wpAny (model G.prog G.w) (A.mark (some v)) (PySem.passOn m v env:Sem Flow) FQ EN s₄) H s₃) Dh {s with heap:=c.h}:=
 gP (s:={s with heap:=c.h}) r' D (Nat.le_refl _) rfl λc5 D5 tb5=>lJ r'.run.env (s:={s with heap:=c5.h}) ⟨D5.R,rfl⟩ fS g λc6 S6 k6 R6 e6 hc6 _=>ua (s:={s with heap:=c6.h,toks:=s.toks+1}) r' (D5.fQ R0 R6 e6) (Nat.le_refl _) rfl (D5.F.tb e6 tb5) λc7 D7 tb7=>k c7 S6 _ k6 D7 hc6 tb7
theorem AC.mono' {p:Program}{w:World}{c c':Cx}{f:Fl}{b:Flow}(h:AC p w c f b)(l:Le c c'):AC p w c' f b:=
 AC.casesOn (motive:=λf b _=>AC p w c' f b) h .next .brk .cont λhv=>.ret (hv.aw l)
theorem hit (r:Aq G A fs env sc cl L n q)(Z:Bu G PE)(Y2:BH G PE){e:Addr}(ht:∀B ex,Ae BR G (PE,B) (A.mark (some (.ref e))) fs cl L (kS ex) (isTrue ex env (eval ex env)))(hs:∀B ex p,Ae (AC G.prog G.w) G (PE,B) (A.mark (some (.ref e))) fs cl L (vs' (.Expr ex p)) (exec (.Expr ex p) env)){jP:Nat}
  {c0 c:Cx} {S0 S:St} {s:Shared} (R0:Ad G.prog G.w G.h0 fs cl c0 L S0) {x:FV} {K:KF} {X:KX} {Q:Flow→Shared→Prop} {E:Value→Shared→Prop} {R:Result→Shared→Prop} {nm:Str} {pos:Pos} {b:List Stmt} (hb:b≠[])
  (hOk:∀f s₂,wpAny (model G.prog G.w) A (do bindName env nm .none; unbindBehindTheSuite env nm pos) (λ_ s₃=>Q f s₃) E s₂→R (.ok f) s₂) (arT:∀y s₂,cameBackBy (model G.prog G.w) A env E y s₂→R (.error y) s₂)
  (p:Ak (AC G.prog G.w) G fs cl L c0 S0 s K Q) (xp:∀c' S' tk,X x S'→FS G fs cl L c0 S0 x (.ref e) (PE,c0.h.objs.size) c' S'→S'.ai=S0.ai→E (.ref e) {s with heap:=c'.h,toks:=tk})
  (fS:sc.names.lookup nm=some .local) (D:FS G fs cl L c0 S0 x (.ref e) (PE,c0.h.objs.size) c S) (hc:S.ai=S0.ai) (tb:AF c (.ref e)) {tk:Nat}
  (kk:iU sc nm x (.ref e) kS vs' jP b {S with loc:=cC nm (.fr (.lit (.ref e))) S.loc} (λf S2=>lI nm S2 (K f)) X):
  codeAny (model G.prog G.w) (A.mark (some (.ref e))) (Code.handlers (.ref e) [ExceptHandler.ExceptHandler none (some nm) b pos] env) R {s with heap:=c.h,toks:=tk}:=by
 have r':=r.mark (.ref e)
 cases b with
 |nil=>exact absurd rfl hb
 |cons b0 bs=>
  refine codeAny_handlers_suite_as (fm (s:={s with heap:=c.h,toks:=tk}) r' D (Nat.le_refl _) (mk:=none) (.inl rfl) rfl tb λc2 D2 tb2=>?_)
  refine dz (PE:=(PE,c2.h.objs.size)) r'.run nm (c:=c2) (S:=S) (s:={s with heap:=c2.h,toks:=tk}) ⟨D2.R,rfl⟩ (.fr (.lit (.ref e))) (λ_ S3=>S3={S with loc:=cC nm (.fr (.lit (.ref e))) S.loc}) (λ_ _=>False) _ _ (by unfold fi; rw [fS]; rfl) (λc3 _ S3 _ fR k3 e3 R3 iA _=>?_) ⟨Nat.le_refl _,λ_ _ _ _ _ k=>k.elim⟩
  subst k3
  refine yf (s:=s) r' Z Y2 rfl ht hs R0 (Nat.le_refl _) (X:=X) (λc4 S4 tk4 g4 D4 vD=>?_) jP (D2.fQ R0 R3 e3) hc kk λc4 f S4 fl tk4 k4 D4 vD r4=>hOk _ _ (lJ r.run.env (s:={s with heap:=c4.h,toks:=tk4}) ⟨D4.R,rfl⟩ fS k4 λc5 S5 k5 R5 e5 hc5 _=>p c5 f S5 fl _ k5 (D4.fQ R0 R5 e5).E R5 (hc5.trans vD) (r4.mono' e5.le))
  exact out_step (s:={s with heap:=c4.h,toks:=tk4}) r' R0 D4 fS g4 λc7 S6 tk7 k6 D7 hc6 _=>gP (s:={s with heap:=c7.h,toks:=tk7}) r' D7 (Nat.le_refl _) rfl λc8 D8 tb8=>arT _ _ (lG (s:={s with heap:=c8.h,toks:=tk7}) r D8 (Nat.le_refl _) rfl tb8 λc9 D9=>xp c9 S6 _ k6 D9 (hc6.trans vD))
theorem rg (r:Aq G A fs env sc cl L n q)(Z:Bu G PE)(Y2:BH G PE)(hN:∀a,a∈gR→B7 G PE a)(hE:∀v B e,Ae (VR G.prog G.w) G (PE,B) (A.mark (some v)) fs cl L (lL e) (eval e env))(ht:∀v B e,Ae BR G (PE,B) (A.mark (some v)) fs cl L (kS e) (isTrue e env (eval e env)))
  (hs:∀v B e p,Ae (AC G.prog G.w) G (PE,B) (A.mark (some v)) fs cl L (vs' (.Expr e p)) (exec (.Expr e p) env)) {jP:Nat}
  {c0:Cx} {S0:St} {s:Shared} (R0:Ad G.prog G.w G.h0 fs cl c0 L S0) {x:FV} {v:Value} {K:KF} {X:KX} {Q:Flow→Shared→Prop} {E:Value→Shared→Prop} (p:Ak (AC G.prog G.w) G fs cl L c0 S0 s K Q)
  (xp:∀c' S' tk,X x S'→FS G fs cl L c0 S0 x v (PE,c0.h.objs.size) c' S'→S'.ai=S0.ai→E v {s with heap:=c'.h,toks:=tk}) (dQ:List ExceptHandler):
  ∀{c:Cx} {S:St} {tk:Nat},FS G fs cl L c0 S0 x v (PE,c0.h.objs.size) c S→S.ai=S0.ai→AF c v→q9 PE gR sc jP lL kS vs' x dQ S K X→
   wpAny (model G.prog G.w) A (handleBy v env dQ) Q E {s with heap:=c.h,toks:=tk}:=by
 induction dQ with
 |nil=>
  intro c S tk D hc tb h
  rw [handleBy]
  exact ua r D (Nat.le_refl _) rfl tb λc' D' _=>xp c' S tk h D' hc
 |cons hd rest ih=>
  intro c S tk D hc tb h
  cases hd with
  |ExceptHandler t name body pos=>
   refine au h λt ht' h=>?_
   subst ht'
   have r':=r.mark v
   have nb:v≠byPass:=let ⟨e,_,_,_,hv,_⟩:=tb; hv▸nofun
   refine wpAny_handleBy_cons (codeAny_handlers_test (hE v _ t c S _ ⟨D.R,rfl⟩ _ _ _ _ h (λc1 f S1 u aL k1 e1 R1 a8 r1=>?_) ⟨Nat.le_refl _,λ_ _ _ _ _ k=>k.elim⟩)) nb
   refine tX (Z:=λu=>wpAny (model G.prog G.w) _ (excMatches v u) _ _ _) k1 r1 λca k1=>?_
   have D1:=D.fQ R0 R1 e1
   have tb1:=D.F.tb e1 tb
   have alZ:=a8.trans hc
   have go:∀{v P},Bi G fs L c1 S1 x v P→P=(PE,c0.h.objs.size)→∃e oe dx vs,v=.ref e∧ExcAt G c1 x PE e oe dx vs:=λF=>by
    cases F with
    |mk X=>
     intro h2
     cases h2
     exact ⟨_,_,_,_,rfl,X⟩
   obtain ⟨e,oe,dx,us,ev,W⟩:=go D1.F rfl
   subst ev
   revert k1
   cases hca:Nat.beq ca PE with
   |false=>exact λk1=>aG k1 λvN k1=>re (hN ca (List.contains_iff_mem.mp vN)) Z R1.bj W.aj W.cls (ih D1 alZ tb1 k1)
   |true=>
    intro k1
    have hca:=Nat.eq_of_beq_eq_true hca
    subst hca
    refine yg Z R1.bj W.aj W.cls ?_
    refine au k1 λnm hn k1=>gF k1 (λfS k1=>aG k1 λadT kk=>?_) (λ_ h=>h.elim) λ_ h=>h.elim
    subst hn
    exact hit (s:=s) r Z Y2 (λB e=>ht _ B e) (λB e p=>hs _ B e p) R0 (by intro hb; rw [hb] at adT; exact Bool.noConfusion adT) (λ_ _ h=>h) (λ_ _ h=>h) p xp fS D1 alZ tb1 (kk e)
def am0 (PE:Addr)(gR:List Addr)(sc:Scope)(jP:Nat)(vs:Bo)(lL:VE)(kS:Bf)(vs':Bo)(body:List Stmt)(dQ:List ExceptHandler)(iH:List Stmt)(S:St)(K:KF)(X:KX):Prop:=
 dD vs body S (λf S1=>match f with
  |.next=>dD vs iH S1 K X
  |f=>K f S1) (λx S1=>q9 PE gR sc jP lL kS vs' x dQ S1 K X)
theorem yh (r:Aq G A fs env sc cl L n q)(Z:Bu G PE)(Y2:BH G PE)(hN:∀a,a∈gR→B7 G PE a)(hE:∀v B e,Ae (VR G.prog G.w) G (PE,B) (A.mark (some v)) fs cl L (lL e) (eval e env))(ht:∀v B e,Ae BR G (PE,B) (A.mark (some v)) fs cl L (kS e) (isTrue e env (eval e env)))
  (qP:∀v B e p,Ae (AC G.prog G.w) G (PE,B) (A.mark (some v)) fs cl L (vs' (.Expr e p)) (exec (.Expr e p) env)) (jP:Nat) (body:List Stmt) (h0:ExceptHandler) (dQ:List ExceptHandler) (iH:List Stmt) (pos:Pos)
  (hb:∀B,Ae (AC G.prog G.w) G (PE,B) A fs cl L (dD vs body) (execs body env)) (ho:∀B,Ae (AC G.prog G.w) G (PE,B) A fs cl L (dD vs iH) (execs iH env)):
  Ae (AC G.prog G.w) G (PE,B) A fs cl L (am0 PE gR sc jP vs lL kS vs' body (h0::dQ) iH) (exec (.Try body (h0::dQ) iH [] pos) env):=by
 intro c S s a K X Q E v p x
 refine wpAny_Try_except (hb c.h.objs.size c S s a _ _ _ _ v (λc1 f S1 fl aL k1 e1 R1 a8 r1=>?_) ⟨Nat.le_refl _,λc1 y S1 u aL k1 E1 R1 a8 F1=>?_⟩)
 ·have p1:=p.ak a.aF R1 e1 a8 aL
  have A1:=a.ak R1 aL
  cases r1 with
  |next=>exact ho B c1 S1 _ A1 K X Q E k1 p1 (x.ak a.aF R1 e1 a8 aL)
  |brk=>exact p1.here A1 k1 .brk
  |cont=>exact p1.here A1 k1 .cont
  |ret hv=>exact p1.here A1 k1 (.ret hv)
 ·refine gP (s:={s with heap:=c1.h,toks:=aL}) r ⟨R1,E1,F1⟩ (Nat.le_refl _) rfl λc2 D2 tb2=>?_
  refine fm (s:={s with heap:=c2.h,toks:=aL}) r D2 (Nat.le_refl _) (mk:=none) (.inl rfl) rfl tb2 λc3 D3 tb3=>?_
  exact rg r Z Y2 hN hE ht qP a.aF p (λc' S' tk k D' nQ=>x.2 c' y S' _ tk k D'.E D'.R nQ (D'.F.less x.1)) (h0::dQ) D3 a8 tb3 k1
end
end
def ck (S:St)(a:AV)(xs:List FV):Prop:=match a with
 |.fr x=>aaM x λys=>ys=xs
 |.own m k=>qT m k xs S
noncomputable def jQ (xs ys:List FV):List AV:=(xs.zip ys).map λp=>.fr (.az [p.1,p.2])
section
variable {G:Ah} {PE:Addr} {B:Nat} {A:Around} {fs:List Env} {cl:List (Str×Addr)} {L:Addr} {c0 c:Cx} {S0 S:St} {s:Shared} {env:Env} {sc:Scope} {n:Nat} {q:Bool} {I:Addr} {target:Expr}
theorem bT {a:AV}{v:Value}{xs:List FV}(h:ck S a xs)(r:VR G.prog G.w c a v)(R:Ad G.prog G.w G.h0 fs cl c L S):AW G.prog G.w c v xs:=by
 cases a with
 |fr x=>exact ji (P:=λx=>VR G.prog G.w c (.fr x) v→_) h (λys h r=>h▸.of r.cU) r
 |own m k=>exact (mG R h).elim λ_ q=>q.elim λ_ q=>q.elim λe q=>r.bc.1▸.mk e q
def Bj (G:Ah)(N0:Nat)(c:Cx)(fs:List Env)(L:Addr)(c':Cx)(S':St):Prop:=Le c c'∧∀b o,N0≤b→c.h.get? b=some o→c'.h.get? b=some o∧Ac G.h0 fs L c' S' b
structure BI (c c':Cx):Prop where
 ρ:c'.ρ=c.ρ
 n:c'.n=c.n
 fz:c'.fz=c.fz
 keep:∀b o,c.h.get? b=some o→c'.h.get? b=some o
 size:c.h.objs.size≤c'.h.objs.size
def BJ (G:Ah)(target:Expr)(I:Addr)(N0:Nat)(c:Cx)(items:List AV)(aV:St→Prop):Prop:=
 ∀(A:Around) (fs:List Env) (cl:List (Str×Addr)) (L:Addr) (c':Cx) (S':St) (B0:Nat),A.handled=none→Bj G N0 c fs L c' S'→B0≤N0→∃J,Bx G A fs cl L I target B0 c.h.objs.size items aV J∧J 0 c' S'
theorem vO (ht:∀I v,letOwnedTupleGo target (.ref I) v=pure ()){a:AV}{v:Value}{P:List AV→(St→Prop)→Prop}(aj:At G fs cl L c S s)(ra:VR G.prog G.w c a v)(h:xX a S P){Q:Value→Shared→Prop}{E:Value→Shared→Prop}
  (k:∀I items aV c',BJ G target I s.heap.objs.size c' items aV→P items aV→Ad G.prog G.w G.h0 fs cl c' L S→Am fs c S L c' S→BI c c'→Bj G s.heap.objs.size c' fs L c' S→Q (.ref I) {s with heap:=c'.h}):wpAny (model G.prog G.w) A (pyIter v) Q E s:=by
 have kp:∀o b o',c.h.get? b=some o'→(s.heap.push o).get? b=some o':=λo b o' e=>Heap.get?_push_of_some _ (aj.heap▸e)
 have lc:∀o,Le c {c with h:=s.heap.push o}:=λo=>⟨Nat.le_refl _,λ_ _=>rfl,λ_ f=>f,λb o' _=>kp o b o'⟩
 have mk:∀(o:Obj) items aV,o.isFreed=false→P items aV→(∀{A fs cl L c2 S2 B0},A.handled=none→Le {c with h:=s.heap.push o} c2→c2.h.get? s.heap.objs.size=some o→Ac G.h0 fs L c2 S2 s.heap.objs.size→B0≤s.heap.objs.size→∃J,Bx G A fs cl L s.heap.objs.size target B0 (s.heap.objs.size+1) items aV J∧J 0 c2 S2)→Q (.ref s.heap.objs.size) {s with heap:=s.heap.push o}:=λo items aV hf hP z=>by
  obtain ⟨R',E'⟩:=aj.aF.nL (h':=s.heap.push o) (aj.heap▸Nat.le_of_lt (bl _ _)) (kp o)
  exact k s.heap.objs.size items aV {c with h:=s.heap.push o} (λA fs cl L c2 S2 B0 hh C hB=>have g:=C.2 _ _ (Nat.le_refl _) (Heap.get?_push_size _ hf); (show (s.heap.push o).objs.size=s.heap.objs.size+1 from Heap.size_push _ _).symm▸z hh C.1 g.1 g.2 hB) hP R' E' ⟨rfl,rfl,rfl,kp o,aj.heap▸Nat.le_of_lt (bl _ _)⟩
   ⟨.refl _,λb o' hb e=>⟨e,Ac.new aj.aF (aj.heap▸hb) (Heap.lt_size e)⟩⟩
 have lt:∀{ax o},c.h.get? ax=some o→ax≠s.heap.objs.size:=λe=>Nat.ne_of_lt (aj.heap▸Heap.lt_size e)
 cases a with
 |fr x=>cases x with
  |fl xs=>exact ra.dg (P:=λv=>wpAny (model G.prog G.w) A (pyIter v) Q E s) λvs ax n f e r=>wpAny_pyIter_list (items:=vs.toArray) ⟨_,aj.heap▸e,rfl,n,rfl⟩ (mk _ _ AT rfl h λhh l g p hB=>⟨_,src_list hh (ht _) (ax:=ax) hB (Nat.lt_succ_self _),⟨_,g,rfl,rfl⟩,p,lt e,l.fz _ f,vs,n,l.aj _ _ f (kp _ _ _ e),r.aw ((lc _).trans l)⟩)
  |az xs=>exact ra.dg (P:=λv=>wpAny (model G.prog G.w) A (pyIter v) Q E s) λvs ax n f e r=>wpAny_pyIter_tuple (items:=vs.toArray) ⟨_,aj.heap▸e,rfl,n,rfl⟩ (mk _ _ AT rfl h λhh l g p hB=>⟨_,src_tuple hh (ht _) (ax:=ax) hB (Nat.lt_succ_self _),⟨_,g,rfl,rfl⟩,p,lt e,l.fz _ f,vs,n,l.aj _ _ f (kp _ _ _ e),r.aw ((lc _).trans l)⟩)
  |tw x y z=>
   refine ra.dg (P:=λv=>wpAny (model G.prog G.w) A (pyIter v) Q E s) λt u r a _ e=>wpAny_pyIter_range (aj.heap▸e) h.1 (mk _ _ AT rfl h.2.2 λhh l g p hB=>⟨_,src_range hh (ht _) (x:=x) (y:=y) h.2.1 hB (Nat.lt_succ_self _),?_,p⟩)
   rw [show x+Int.ofNat 0*z=x by show x+0*z=x; rw [Int.zero_mul,Int.add_zero],show Builtin.Range.rangeSize x y z-Int.ofNat 0=Builtin.Range.rangeSize x y z from Int.sub_zero _]
   exact g
  |_=>exact h.elim
 |own m kk=>
  refine au h λq e h=>cD (P:=λo=>S.get m=some (q.1,o)→_) h (λxs h e=>?_) e
  obtain ⟨vs,n,e2,r2⟩:=aj.aF.d6 e
  rw [ra.bc.1]
  have e2:c.h.get? (c.ρ kk)=_:=(show q.1=kk from h.1.symm)▸e2
  exact wpAny_pyIter_list (items:=vs.toArray) ⟨_,aj.heap▸e2,rfl,n,rfl⟩ (mk _ _ (qT m kk xs) rfl h.2 λhh l g p hB=>⟨_,abd hh (ht _) (m:=m) (k:=kk) hB (Nat.lt_succ_self _),⟨_,g,rfl,by rw [l.ρ kk ra.bc.2]; rfl⟩,p,Nat.lt_of_lt_of_le ra.bc.2 l.n⟩)
end
structure BA (G:Ah)(fs:List Env)(L:Addr)(a b:AV)(z TI TO i1 i2 l1 l2:Addr)(i:Nat)(c:Cx)(S:St):Prop where
 va:VR G.prog G.w c a (.ref l1)
 vb:VR G.prog G.w c b (.ref l2)
 iz:IsZip c.h z TI TO .none
 ti:IsPair c.h TI (.ref i1) (.ref i2)
 io:∃u v,IsPair c.h TO u v
 it1:c.h.IsListIter i1 l1 i
 it2:c.h.IsListIter i2 l2 i
 pz:Ac G.h0 fs L c S z
 pTI:Ac G.h0 fs L c S TI
 pTO:Ac G.h0 fs L c S TO
 p1:Ac G.h0 fs L c S i1
 p2:Ac G.h0 fs L c S i2
def AZ (z TO i1 i2:Addr)(b:Addr):Prop:=b=z∨b=TO∨b=i1∨b=i2
theorem AZ.el {z TO i1 i2 b:Addr}(h:AZ z TO i1 i2 b){P:Addr→Prop}(h1:P z)(h2:P TO)(h3:P i1)(h4:P i2):P b:=
 h.elim (λe=>e▸h1) λh=>h.elim (λe=>e▸h2) λh=>h.elim (λe=>e▸h3) λe=>e▸h4
section
variable {G:Ah} {PE:Addr} {B:Nat} {A:Around} {fs:List Env} {cl:List (Str×Addr)} {L:Addr} {c0 c:Cx} {S0 S:St} {s:Shared} {env:Env} {sc:Scope} {n:Nat} {q:Bool} {I:Addr}
theorem vP {xs ys:List FV}{i:Nat}{a:AV}(h:(jQ xs ys)[i]?=some a){Z:AV→Prop}(k:∀x y,xs[i]?=some x→ys[i]?=some y→Z (.fr (.az [x,y]))):Z a:=by
 unfold jQ at h
 rw [List.getElem?_map] at h
 obtain ⟨p,hp,rfl⟩:=Option.map_eq_some_iff.mp h
 rw [List.getElem?_zip_eq_some] at hp
 exact k p.1 p.2 hp.1 hp.2
theorem vQ (xs ys:List FV):(jQ xs ys).length=min xs.length ys.length:=by unfold jQ; rw [List.length_map,List.length_zip]
theorem AW.ref {a:Addr}{xs:List FV}(h:AW G.prog G.w c (.ref a) xs):∃vs n,c.h.get? a=some (listOf vs.toArray n)∧Aj G.prog G.w c xs vs:=by
 cases h with
 |mk g r=>exact ⟨_,_,g,r⟩
theorem oA {a b:AV}{z TI TO i1 i2 l1 l2:Addr}{i:Nat}(J:BA G fs L a b z TI TO i1 i2 l1 l2 i c S)(R:Ad G.prog G.w G.h0 fs cl c L S)(E0:Am fs c0 S0 L c S)(hF2:∀b,AZ z TO i1 i2 b→c0.h.objs.size≤b){h':Heap}(hs:c.h.objs.size≤h'.objs.size)(q7:∀b o,b≠z→b≠TO→b≠i1→b≠i2→c.h.get? b=some o→h'.get? b=some o):
  Ad G.prog G.w G.h0 fs cl {c with h:=h'} L S∧Am fs c0 S0 L {c with h:=h'} S∧Le c {c with h:=h'}∧(∀a,Ac G.h0 fs L c S a→Ac G.h0 fs L {c with h:=h'} S a):=
 have hF:∀b,AZ z TO i1 i2 b→Ac G.h0 fs L c S b:=λb f=>f.el J.pz J.pTO J.p1 J.p2
 have kp:∀b o,c.h.get? b=some o→¬AZ z TO i1 i2 b→h'.get? b=some o:=λb o e nf=>q7 b o (λw=>nf (.inl w)) (λw=>nf (.inr (.inl w))) (λw=>nf (.inr (.inr (.inl w)))) (λw=>nf (.inr (.inr (.inr w)))) e
 (R.jC hF hs kp).elim λR1 P1=>
 ⟨R1,E0.jC (h0:=G.h0) (λb f=>⟨hF b f,hF2 b f⟩) hs kp,⟨Nat.le_refl _,λ_ _=>rfl,λ_ h=>h,λb o f e=>kp b o e λw=>(hF b w).fz f⟩,P1⟩
theorem abi (hh:A.handled=none){a b:AV}{xs ys:List FV}{ts:List Expr}{tk:Nat}{tp:Pos}{z TI TO i1 i2 l1 l2:Addr}(D:ZipApart z TI TO i1 i2 l1 l2){B0 B1:Nat}(hB:∀b,AZ z TO i1 i2 b→B0≤b)(nG:∀b,AZ z TO i1 i2 b→b<B1)(hB2:TI<B1):
  Bx G A fs cl L z (.Tuple ts tk tp) B0 B1 (jQ xs ys) (λS=>ck S a xs∧ck S b ys) (BA G fs L a b z TI TO i1 i2 l1 l2):=
 have hz:AZ z TO i1 i2 z:=.inl rfl
 have hTO:AZ z TO i1 i2 TO:=.inr (.inl rfl)
 have h1:AZ z TO i1 i2 i1:=.inr (.inr (.inl rfl))
 have h2:AZ z TO i1 i2 i2:=.inr (.inr (.inr rfl))
 have far:∀{h h':Heap},(∀b o,b≠z→b≠TO→b≠i1→b≠i2→h.get? b=some o→h'.get? b=some o)→∀b o,B1≤b→h.get? b=some o→h'.get? b=some o:=λq7 b o hb=>q7 b o (Nat.ne_of_gt (Nat.lt_of_lt_of_le (nG _ hz) hb)) (Nat.ne_of_gt (Nat.lt_of_lt_of_le (nG _ hTO) hb)) (Nat.ne_of_gt (Nat.lt_of_lt_of_le (nG _ h1) hb)) (Nat.ne_of_gt (Nat.lt_of_lt_of_le (nG _ h2) hb))
 have fQ:∀{i c S c' S'},BA G fs L a b z TI TO i1 i2 l1 l2 i c S→Le c c'→(∀b o,(AZ z TO i1 i2 b∨b=TI)→c.h.get? b=some o→c'.h.get? b=some o)→(∀b,Ac G.h0 fs L c S b→Ac G.h0 fs L c' S' b)→BA G fs L a b z TI TO i1 i2 l1 l2 i c' S':=λJ l g p=>
  (J.io).elim λu q=>q.elim λv e5=>
  (J.it1).elim λo6 q=>q.elim λe6 r6=>
  (J.it2).elim λo7 q=>q.elim λe7 r7=>
  ⟨J.va.aw l,J.vb.aw l,g _ _ (.inl hz) J.iz,g _ _ (.inr rfl) J.ti,⟨u,v,g _ _ (.inl hTO) e5⟩,⟨o6,g _ _ (.inl h1) e6,r6⟩,⟨o7,g _ _ (.inl h2) e7,r7⟩,p _ J.pz,p _ J.pTI,p _ J.pTO,p _ J.p1,p _ J.p2⟩
 {fQ:=λJ R R' E=>fQ J E.le (λb o f e=>f.elim (λf=>(f.el (P:=λb=>Ac G.h0 fs L _ _ b) J.pz J.pTO J.p1 J.p2).get E e) λf=>by subst f; exact J.pTI.get E e) λb p=>p.fQ R R' E
  more:=λJ l kb pv=>fQ J l (λb o f e=>kb b o (f.elim (nG b) λf=>f▸hB2) e) pv
  gQ:=λaj J Q E h=>wpAny_pyIter_zip (aj.heap▸J.iz) h
  vK:=λ{i c S s c0 S0 w} hi aj J hc E0 hb Q R E hq k=>by
   refine vP (Z:=λw=>(∀c' v tk,Ad G.prog G.w G.h0 fs cl c' L S→Am fs c0 S0 L c' S→Cy G.h0 fs L B1 c c' S→BA G fs L a b z TI TO i1 i2 l1 l2 (i+1) c' S→VR G.prog G.w c' w v→R v {s with heap:=c'.h,toks:=tk})→_) hi (λx y hx hy k=>?_) k
   obtain ⟨vs1,n1,g1,r1⟩:=(bT hc.1 J.va aj.aF).ref
   obtain ⟨vs2,n2,g2,r2⟩:=(bT hc.2 J.vb aj.aF).ref
   obtain ⟨xv,ex,rx⟩:=r1.get hx
   obtain ⟨yv,ey,ry⟩:=r2.get hy
   obtain ⟨hp,g,d,tkk,os⟩:=s
   have eh:c.h=hp:=aj.heap
   subst eh
   obtain ⟨u,v,a5⟩:=J.io
   refine wpAny_pyNext_zip_item (s:=⟨c.h,g,d,tkk,os⟩) D J.iz J.ti a5 J.it1 J.it2 (xs:=vs1.toArray) (ys:=vs2.toArray) ⟨_,g1,rfl,n1,rfl⟩ ⟨_,g2,rfl,n2,rfl⟩ (x:=xv) (y:=yv) (List.getElem?_toArray.trans ex) (List.getElem?_toArray.trans ey) λh' q1 q2 q3 q4 q5 q6 q7=>?_
   have hs:c.h.objs.size≤h'.objs.size:=q6.symm▸Nat.le_succ _
   obtain ⟨R1,E1,l1',P1⟩:=oA J aj.aF E0 (λb f=>Nat.le_trans hb (hB b f)) hs q7
   have PT:Ac G.h0 fs L {c with h:=h'} S c.h.objs.size:=Ac.new aj.aF (Nat.le_refl _) (q6.symm▸Nat.lt_succ_self _)
   have R2:=R1.eA (F:=λb=>b=c.h.objs.size) λb e=>e▸PT
   have E2:=E1.eA (F:=λb=>b=c.h.objs.size) λb e=>e▸E0.size
   have l2':Le {c with h:=h'} {c with h:=h',fz:=λb=>c.fz b∨b=c.h.objs.size}:=⟨Nat.le_refl _,λ_ _=>rfl,λ_ h=>.inl h,λ_ _ _ e=>e⟩
   have pv:∀b,Ac G.h0 fs L c S b→Ac G.h0 fs L {c with h:=h',fz:=λb=>c.fz b∨b=c.h.objs.size} S b:=λb p=>
    have p':=P1 b p
    ⟨p'.lt,λf=>f.elim p'.fz λe=>Nat.lt_irrefl _ (e▸p.lt),p'.h0,p'.ne,p'.obj,p'.fr⟩
   rw [hq]
   refine wpAny_letOwnedTupleGo_zip (s:=⟨h',g,d,tkk,os⟩) q1 λh2 w1 w2=>?_
   obtain ⟨R3,E3,P3,l3'⟩:=fL R2 E2 (pv z J.pz) (Nat.le_trans hb (hB _ hz)) (Nat.le_of_eq w2.1.symm) λb o e ne=>(w2.2 b ne).trans e
   have pv3:∀b,Ac G.h0 fs L c S b→Ac G.h0 fs L {c with h:=h2,fz:=λb=>c.fz b∨b=c.h.objs.size} S b:=λb p=>
    have p':=pv b p
    ⟨Nat.lt_of_lt_of_le p'.lt (Nat.le_of_eq w2.1.symm),p'.fz,p'.h0,p'.ne,p'.obj,p'.fr⟩
   have LL:=(l1'.trans l2').trans l3'
   have nz:c.h.objs.size≠z:=Nat.ne_of_gt J.pz.lt
   exact k _ _ tkk R3 E3 ⟨LL,λb o hb e=>(w2.2 b (Nat.ne_of_gt (Nat.lt_of_lt_of_le (nG _ hz) hb))).trans (far q7 b o hb e),λb _ p=>pv3 b p⟩ ⟨J.va.aw LL,J.vb.aw LL,w1,w2.extBut _ _ D.TIz (q7 _ _ D.TIz D.TITO D.TIi1 D.TIi2 J.ti),⟨xv,yv,w2.extBut _ _ D.TOz q2⟩,q3.extBut w2.extBut D.i1z,q4.extBut w2.extBut D.i2z,pv3 _ J.pz,pv3 _ J.pTI,pv3 _ J.pTO,pv3 _ J.p1,pv3 _ J.p2⟩ (.fr (.az (vs:=[xv,yv]) (n:=0) (.inr rfl) (w2.extBut _ _ nz q5) (.cons (rx.aw LL) (.cons (ry.aw LL) .nil))))
  done:=λ{c S s c0 S0} aj J hc E0 hb Q E k=>by
   obtain ⟨vs1,n1,g1,r1⟩:=(bT hc.1 J.va aj.aF).ref
   obtain ⟨vs2,n2,g2,r2⟩:=(bT hc.2 J.vb aj.aF).ref
   obtain ⟨hp,g,d,tkk,os⟩:=s
   have eh:c.h=hp:=aj.heap
   subst eh
   rw [vQ] at J
   obtain ⟨u,v,a5⟩:=J.io
   have over:∀{vs:List Value} {m n:Nat},m=vs.length→m≤n→vs.toArray[n]?=none:=λe h=>List.getElem?_toArray.trans (List.getElem?_eq_none (e▸h))
   have arU:vs1.toArray[min xs.length ys.length]?=none∨vs2.toArray[min xs.length ys.length]?=none:=(Nat.le_total xs.length ys.length).imp (λh=>over r1.len (Nat.le_min.mpr ⟨Nat.le_refl _,h⟩)) λh=>over r2.len (Nat.le_min.mpr ⟨h,Nat.le_refl _⟩)
   refine bu (s:=⟨c.h,g,d,tkk,os⟩) (Nat.le_refl _) (wpAny_pyNext_zip_end (s:=⟨c.h,g,d,tkk,os⟩) hh D J.iz J.ti a5 J.it1 J.it2 (xs:=vs1.toArray) (ys:=vs2.toArray) ⟨_,g1,rfl,n1,rfl⟩ ⟨_,g2,rfl,n2,rfl⟩ arU λh' q7 hs=>?_)
   obtain ⟨R1,E1,l1',P1⟩:=oA J aj.aF E0 (λb f=>Nat.le_trans hb (hB b f)) hs q7
   exact k {c with h:=h'} tkk R1 E1 ⟨l1',far q7,λb _ p=>P1 b p⟩}
theorem yi {a b:AV}{u v:Value}{xs ys:List FV}{ts:List Expr}{tk:Nat}{tp:Pos}(aj:At G fs cl L c S s)(ra:(VR G.prog G.w) c a u)(rb:(VR G.prog G.w) c b v)(ha:ck S a xs)(hb:ck S b ys){Q:Value→Shared→Prop}{E:Value→Shared→Prop}
  (k:∀z c',IsZip c'.h z (s.heap.objs.size+2) (s.heap.objs.size+3) .none→BJ G (.Tuple ts tk tp) z s.heap.objs.size c' (jQ xs ys) (λS=>ck S a xs∧ck S b ys)→Ad G.prog G.w G.h0 fs cl c' L S→Am fs c S L c' S→BI c c'→Bj G s.heap.objs.size c' fs L c' S→Q (.ref z) {s with heap:=c'.h}):
  wpAny (model G.prog G.w) A (call (.type "zip") [u,v]) Q E s:=by
 cases bT ha ra aj.aF with
 |mk g1 r1=>cases bT hb rb aj.aF with
  |mk g2 r2=>
   rename_i l1 vs1 n1 l2 vs2 n2
   obtain ⟨hp,g,d,tkk,os⟩:=s
   have eh:c.h=hp:=aj.heap
   subst eh
   refine call_zip_2 (s:=⟨c.h,g,d,tkk,os⟩) (xs:=vs1.toArray) (ys:=vs2.toArray) ⟨_,g1,rfl,n1,rfl⟩ ⟨_,g2,rfl,n2,rfl⟩ λh' q1 q2 q3 q4 q5 q6 q7=>?_
   have q6:h'.objs.size=c.h.objs.size+5:=q6
   obtain ⟨R',E'⟩:=aj.aF.nL (h':=h') (q6.symm▸Nat.le_add_right _ _) q7
   have ne:∀{l:Nat} k,l<c.h.objs.size→l≠c.h.objs.size+k:=λk h=>Nat.ne_of_lt (Nat.lt_of_lt_of_le h (Nat.le_add_right _ k))
   have t1:∀k,l1≠c.h.objs.size+k:=λk=>ne k (Heap.lt_size g1)
   have t2:∀k,l2≠c.h.objs.size+k:=λk=>ne k (Heap.lt_size g2)
   have nn:∀(i j:Nat),i≠j→c.h.objs.size+i≠c.h.objs.size+j:=λi j h e=>h (Nat.add_left_cancel e)
   have ge:∀k:Nat,c.h.objs.size≤c.h.objs.size+k:=λk=>Nat.le_add_right _ _
   have lt:∀k,k<5→c.h.objs.size+k<h'.objs.size:=λk h=>q6.symm▸Nat.add_lt_add_left h _
   refine k (c.h.objs.size+4) {c with h:=h'} q1 (λA fs' cl' L' c2 S2 B0 hh C hB=>?_) R' E' ⟨rfl,rfl,rfl,q7,q6.symm▸Nat.le_add_right _ _⟩ ⟨.refl _,λb o hb e=>⟨e,Ac.new aj.aF hb (Heap.lt_size e)⟩⟩
   have D:ZipApart (c.h.objs.size+4) (c.h.objs.size+2) (c.h.objs.size+3) c.h.objs.size (c.h.objs.size+1) l1 l2:=
    ⟨nn 2 4 (by decide),nn 3 4 (by decide),nn 0 4 (by decide),nn 1 4 (by decide),nn 2 3 (by decide),nn 2 0 (by decide),nn 2 1 (by decide),nn 3 0 (by decide),nn 3 1 (by decide),nn 0 1 (by decide),t1 4,t1 3,t1 0,t1 1,t2 4,t2 3,t2 0,t2 1⟩
   obtain ⟨o4,e4,r4⟩:=q4
   obtain ⟨o5,e5,r5⟩:=q5
   have x1:=C.2 _ _ (ge 4) q1
   have x2:=C.2 _ _ (ge 2) q2
   have x3:=C.2 _ _ (ge 3) q3
   have x4:=C.2 _ _ (Nat.le_refl _) e4
   have x5:=C.2 _ _ (ge 1) e5
   exact ⟨_,abi hh D (λb f=>f.el (P:=λb=>B0≤b) (Nat.le_trans hB (ge 4)) (Nat.le_trans hB (ge 3)) hB (Nat.le_trans hB (ge 1))) (λb f=>f.el (P:=λb=>b<h'.objs.size) (lt 4 (by decide)) (lt 3 (by decide)) (lt 0 (by decide)) (lt 1 (by decide))) (lt 2 (by decide)),(ra.aw E'.le).aw C.1,(rb.aw E'.le).aw C.1,x1.1,x2.1,⟨_,_,x3.1⟩,⟨_,x4.1,r4⟩,⟨_,x5.1,r5⟩,x1.2,x2.2,x3.2,x4.2,x5.2⟩
end
def adU (v:Value)(P:String→Prop):Prop:=match v with
 |.type T=>P T
 |_=>False
theorem yj {v:Value}{P:String→Prop}{Z:Value→Prop}(h:adU v P)(k:∀T,P T→Z (.type T)):Z v:=by
 cases v with
 |type T=>exact k T h
 |_=>exact h.elim
def vR (vE:VE)(target iter:Expr)(S:St)(P:List AV→(St→Prop)→St→Prop)(X:KX):Prop:=match fk target with
 |some _=>bW (qY iter) λc=>gm c.1 λzn np=>on2 c.2.1 λea eb=>cV ([ea,eb].all bn) <| vE (.Name zn np) S (λf S1=>gw f λf=>lb f λf=>adU f λT=>cV (T == "zip") <| dC vE [ea,eb] S1 (λas S2=>on2 as λa b=>
   dB S2 a λxs=>dB S2 b λys=>P (jQ xs ys) (λS=>ck S a xs∧ck S b ys) S2) X) X
 |none=>cV (xY iter&&xZ target) (vE iter S (λa S1=>xX a S1 λitems aV=>P items aV S1) X)
theorem ub {S:St}{a:AV}{P:List FV→Prop}(h:dB S a P):∃xs,ck S a xs∧P xs:=by
 cases a with
 |fr x=>exact ji (P:=λx=>∃xs,ck S (.fr x) xs∧P xs) h λxs h=>⟨xs,rfl,h⟩
 |own m k=>
  refine au h λq e h=>?_
  obtain ⟨j,o⟩:=q
  exact cD (P:=λo=>S.get m=some (j,o)→_) h (λxs h e=>⟨xs,by show qT m k xs S; unfold qT; rw [e]; exact ⟨h.1,rfl⟩,h.2⟩) e
section
variable {G:Ah} {PE:Addr} {B:Nat} {A:Around} {fs:List Env} {cl:List (Str×Addr)} {L:Addr} {c0 c:Cx} {S0 S:St} {s:Shared} {env:Env} {sc:Scope} {n:Nat} {q:Bool} {vE:VE} {vs:Bo}
theorem jR {vE:VE}{target iter:Expr}{S:St}{P:List AV→(St→Prop)→St→Prop}{X:KX}(h:vR vE target iter S P X)(x:Value):foldedSetIterable iter env x=pure x:=by
 unfold vR at h
 cases ht:fk target with
 |some ts=>
  rw [ht] at h
  exact au h λc hc _=>iG (Z:=λe=>foldedSetIterable e env x=pure x) hc rfl
 |none=>
  rw [ht] at h
  exact aG h λhb _=>vL (Bool.and_eq_true_iff.mp hb).1 x
theorem jS (hE:∀B e,Ae (VR G.prog G.w) G (PE,B) A fs cl L (vE e) (eval e env)){target iter:Expr}(a:At G fs cl L c S s){P:List AV→(St→Prop)→St→Prop}{X:KX}{Q:Value→Shared→Prop}{E:Value→Shared→Prop}(v:vR vE target iter S P X)(x:Ai G (PE,B) fs cl L c S s X E)
  (k:∀I items aV c1 S1 c2 tk,BJ G target I c1.h.objs.size c2 items aV→P items aV S1→Ad G.prog G.w G.h0 fs cl c1 L S1→Am fs c S L c1 S1→S1.ai=S.ai→Ad G.prog G.w G.h0 fs cl c2 L S1→Am fs c1 S1 L c2 S1→BI c1 c2→Bj G c1.h.objs.size c2 fs L c2 S1→Q (.ref I) {s with heap:=c2.h,toks:=tk}):
  wpAny (model G.prog G.w) A (eval iter env) (λx s₁=>wpAny (model G.prog G.w) A (pyIter x) Q E s₁) E s:=by
 unfold vR at v
 cases ht:fk target with
 |some ts=>
  rw [ht] at v
  refine au v λz hz v=>iG (Z:=λe=>wpAny (model G.prog G.w) A (eval e env) _ E s) hz ?_
  obtain ⟨f,es,pos⟩:=z
  refine dA (P:=λzn np=>on2 es λea eb=>cV ([ea,eb].all bn) <| vE (.Name zn np) S _ X) (Z:=λf=>wpAny (model G.prog G.w) A (eval (.Call f es [] pos) env) _ E s) v λzn np v=>wK (P:=λes=>wpAny (model G.prog G.w) A (eval (.Call (.Name zn np) es [] pos) env) _ E s) v λea eb v=>aG v λhs v=>?_
  have s1:=(eB (env:=env) (pos:=pos) hs).1
  refine wpAny_Call_ofName (hE B _ c S s a _ X _ E v (λc1 f S1 u aL k1 e1 R1 a8 r1=>?_) x)
  have x1:=x.ak a.aF R1 e1 a8 aL
  have A1:=a.ak R1 aL
  refine aZ (P:=λf=>VR G.prog G.w c1 f u→_) k1 (λf k1 r1=>d5 (P:=λf=>VR G.prog G.w c1 (.fr f) u→_) k1 (λw k1 r1=>?_) r1) r1
  have e:u=w:=r1.dg (P:=λu=>u=w) rfl
  subst e
  refine yj (Z:=λu=>wpAny (model G.prog G.w) A (callWith pos u [] (backTo pos (starEach [ea,eb] env)) []) _ E _) k1 λT k1=>aG k1 λhT kk=>?_
  have hT:T = "zip" := eq_of_beq hT
  subst hT
  refine PySem.callWith_type s1 (dW hs (eZ [ea,eb] (λe h'=>⟨List.all_eq_true.mp hs e h',hE B e⟩) c1 S1 _ A1 _ X _ E kk (λc2 as S2 vs bG k2 e2 R2 cj r2=>?_) x1))
  refine wK (P:=λas=>Al G.prog G.w c2 as vs→_) k2 (λa' b' k2 r2=>r2.el (P:=λvs=>wpAny (model G.prog G.w) A (call (.type "zip") vs) _ E _) λu us ra r2=>r2.el (P:=λus=>wpAny (model G.prog G.w) A (call (.type "zip") (u::us)) _ E _) λw ws rb r2=>r2.el (P:=λws=>wpAny (model G.prog G.w) A (call (.type "zip") (u::w::ws)) _ E _) ?_) r2.1
  obtain ⟨xs,ha,k2⟩:=ub k2
  obtain ⟨ys,hb,k2⟩:=ub k2
  obtain ⟨tk,tp,et⟩:=gO (Z:=λt=>∃k p,t=.Tuple ts k p) ht λk p=>⟨k,p,rfl⟩
  subst et
  exact yi (ts:=ts) (tk:=tk) (tp:=tp) (A1.ak R2 bG) ra rb ha hb λz c3 g3 S3 R3 E3 G3 C3=>
   wpAny_pyIter_zip g3 (k z _ _ c2 S2 c3 bG S3 k2 R2 (e1.trans a.aF.kn R1.kn e2) (cj.trans a8) R3 E3 G3 C3)
 |none=>
  rw [ht] at v
  exact aG v λhb v=>hE B iter c S s a _ X _ E v (λc1 b S1 u aL k1 e1 R1 a8 r1=>vO (target:=target) (λI v=>ahv (Bool.and_eq_true_iff.mp hb).2 (.ref I) v) (a.ak R1 aL) r1 k1 λI items aV c2 hS k2 R2 E2 G2 C2=>k I items aV c1 S1 c2 aL hS k2 R1 e1 a8 R2 E2 G2 C2) x
abbrev AX:=(AV→St→KF→KX→Prop)→(St→Prop)→List AV→St→KF→KX→Prop
def AK (L:AX):Prop:=∀aA aV items S K X,L aA aV items S K X→ee aV aA items S K X
def adV (G:Ah)(sc:Scope)(L:AX)(vE:VE)(vs:Bo)(target iter:Expr)(body:List Stmt)(aA:AV→St→(St→Prop)→KX→Prop)(S:St)(K:KF)(X:KX):Prop:=
 vR vE target iter S (λitems aV S1=>L (λa S KF KX=>aA a S (λS1=>dD vs body S1 KF KX) KX) aV items S1 K X) X
def yk (G:Ah)(sc:Scope)(vE:VE)(target:Expr)(a:AV)(S:St)(K:St→Prop)(X:KX):Prop:=match fk target with
 |some ts=>cV (ts.all bn) (iy S a λxs=>cV (Nat.beq xs.length ts.length) (gN G sc vE ts (xs.map .fr) S K X))
 |none=>qS G sc vE target a S K X
theorem uc (r:Run G A fs env sc cl L n true)(hE:∀e,Ae (VR G.prog G.w) G (PE,B) A fs cl L (vE e) (eval e env))(t:Expr){a:AV}{v:Value}(aj:At G fs cl L c S s)(ra:(VR G.prog G.w) c a v):Ap UR G (PE,B) A fs cl L c S s (λK X=>yk G sc vE t a S (K ()) X) (assign t env v):=by
 intro K X Q E h p x
 unfold yk at h
 cases ht:fk t with
 |some ts=>
  rw [ht] at h
  exact gO (Z:=λt=>wpAny (model G.prog G.w) A (assign t env v) Q E s) ht λk tp=>aG h λhst h=>dP (Z:=λv=>wpAny (model G.prog G.w) A (assign (.Tuple ts k tp) env v) Q E s) h ra aj λxs l us m T hT el r2 h=>aG h λiD h=>
   tR (PE:=(PE,B)) r hE hst hT aj el ((List.length_map _).trans (Nat.eq_of_beq_eq_true iD)) (Al.ofF r2) K X Q E h p x
 |none=>
  rw [ht] at h
  exact jl (PE:=(PE,B)) r hE t aj ra K X Q E h p x
theorem vS (r:Aq G A fs env sc cl L n true){LL:AX}(hL:AK LL)(target iter:Expr)(body:List Stmt)(pos:Pos)(hE:∀B e,Ae (VR G.prog G.w) G (PE,B) A fs cl L (vE e) (eval e env))(hs:∀B,Ae (AC G.prog G.w) G (PE,B) A fs cl L (dD vs body) (execs body env)):
  Ae (AC G.prog G.w) G (PE,B) A fs cl L (adV G sc LL vE vs target iter body (yk G sc vE target)) (exec (.For target iter body [] pos) env):=by
 intro c S s a K X Q E v p x
 refine wpAny_For (jS hE a v x λI items aV c1 S1 c2 tk hS v2 R1 E1 a8 R2 E2 _ C2=>?_) (jR v)
 obtain ⟨J,hJ,hJ0⟩:=hS A fs cl L c2 S1 c1.h.objs.size (r.run.i5 rfl) C2 (Nat.le_refl _)
 exact x6 (s:={s with heap:=c1.h,toks:=tk}) r hJ (λB' c S s a v aj ra K X Q E h p x=>uc (PE:=PE) (B:=B') r.run (hE B') target aj ra (λ_ S1=>dD vs body S1 K X) X _ E h (λc3 _ S3 _ fR k3 e3 R3 iA _=>hs B' c3 S3 _ (aj.ak R3 fR) K X Q E k3 (p.ak aj.aF R3 e3 iA fR) (x.ak aj.aF R3 e3 iA fR)) x) ⟨R1,rfl⟩ R2 E2 hJ0 (hL _ _ _ _ _ _ v2) (p.ak a.aF R1 E1 a8 tk) (x.ak a.aF R1 E1 a8 tk)
end
noncomputable def cn:List (Str×NameKind)→List (Str×Addr)→List (Str×Addr)→List (Str×Addr)
 | [],_,aJ=>aJ
 |(n,k)::r,cl,aJ=>match k==NameKind.free with
  |true=>match cl.lookup n with
   |some a=>cn r cl ((n,a)::aJ)
   |none=>cn r cl aJ
  |false=>cn r cl aJ
theorem jT {scope:Scope}{env:Env}(h:∀x∈scope.names,x.2=.free→(env.cells.lookup x.1).isSome=true):closureFor scope env=pure (cn scope.names env.cells []):=by
 have key:∀(names:List (Str×NameKind)) (aJ:List (Str×Addr)),(∀x∈names,x.2=.free→(env.cells.lookup x.1).isSome=true)→
   (forIn (m:=Sem) names aJ λ(x:Str×NameKind) (cs:List (Str×Addr))=>(match x with|(name,kind)=>if (kind==NameKind.free)=true then (do let vU ←cellOf env name; pure (ForInStep.yield ((name,vU)::cs))) else pure (ForInStep.yield cs):Sem (ForInStep (List (Str×Addr)))))=pure (cn names env.cells aJ):=by
  intro names
  induction names with
  |nil=>intro aJ _; rfl
  |cons x r ih=>
   intro aJ hx
   obtain ⟨n,k⟩:=x
   rw [List.forIn_cons]
   unfold cn
   cases hk:k==NameKind.free with
   |true=>
    have:=hx (n,k) (.head _) (by simpa using hk)
    obtain ⟨a,ha⟩:=Option.isSome_iff_exists.mp this
    have hc:cellOf env n=pure a:=by unfold cellOf; dsimp only at ha; rw [ha]
    have e:(match env.cells.lookup n with|some a=>cn r env.cells ((n,a)::aJ)|none=>cn r env.cells aJ)=cn r env.cells ((n,a)::aJ):=by dsimp only at ha; rw [ha]
    dsimp only
    rw [e,if_pos hk,hc,pure_bind,pure_bind]
    exact ih _ λy hy=>hx y (.tail _ hy)
   |false=>
    dsimp only
    rw [if_neg (by rw [hk]; decide),pure_bind]
    exact ih _ λy hy=>hx y (.tail _ hy)
 have:=key scope.names [] h
 unfold closureFor
 simp only [bind_pure_comp] at this ⊢
 first
  |exact this
  |(rw [this]; rfl)
  |(simp only [this]; rfl)
theorem rh {x:Str}{a:Addr}{cl:List (Str×Addr)}(hc:cl.lookup x=some a)(names:List (Str×NameKind)):∀{aJ:List (Str×Addr)},((x,NameKind.free)∈names∨aJ.lookup x=some a)→(aJ.lookup x=none∨aJ.lookup x=some a)→(cn names cl aJ).lookup x=some a:=by
 induction names with
 |nil=>exact λhm _=>hm.elim (λh=>nomatch h) id
 |cons f r ih=>
  obtain ⟨n,k⟩:=f
  intro aJ hm hb
  have tl:¬(x=n∧k=NameKind.free)→(x,NameKind.free)∈r∨aJ.lookup x=some a:=λne=>hm.imp_left λh=>(List.mem_cons.mp h).elim (λe=>absurd ⟨congrArg Prod.fst e,(congrArg Prod.snd e).symm⟩ ne) id
  unfold cn
  cases hk:k==NameKind.free with
  |false=>exact ih (tl λe=>ne_of_beq_false hk e.2) hb
  |true=>
   cases hn:cl.lookup n with
   |none=>exact ih (tl λe=>nomatch (hc.symm.trans (congrArg (λy=>List.lookup y cl) e.1)).trans hn) hb
   |some b=>
    have lk:((n,b)::aJ).lookup x=if x=n then some b else aJ.lookup x:=dS x n _ _
    by_cases hx:x=n
    ·have e:((n,b)::aJ).lookup x=some a:=lk.trans ((if_pos hx).trans (hn.symm.trans (hx▸hc)))
     exact ih (.inr e) (.inr e)
    ·have e:((n,b)::aJ).lookup x=aJ.lookup x:=lk.trans (if_neg hx)
     exact ih (e.symm▸tl λe=>hx e.1) (e.symm▸hb)
noncomputable def f3 (names:List (Str×NameKind))(ai:List (Str×Nat×Nat)):List (Str×Nat×Nat):=ai.filter λx=>names.contains (x.1,NameKind.free)
noncomputable def ud (names:List (Str×NameKind))(ai:List (Str×Nat×Nat)):Bool:=names.all λx=>match x.2==NameKind.free with
 |true=>(ai.lookup x.1).isSome
 |false=>true
noncomputable def St.gS (S:St)(ai:List (Str×Nat×Nat)):St:={loc:=[],ai:=ai,am:=S.am,af:=S.af,aa:=S.aa}
noncomputable def St.outer (S S1:St):St:={loc:=S.loc,ai:=S.ai,am:=S1.am,af:=S1.af,aa:=S1.aa}
noncomputable def St.mv (S:St):St:={loc:=S.loc,ai:=S.ai,am:=[],af:=S.am++S.af,aa:=S.aa}
noncomputable def iI (scope sc:Scope):Scope:={scope with names:=scope.names.map λ(n,k)=>if (k==.free&&sc.kind==.function&&sc.names.lookup n==some .cell) then (n,.cell) else (n,k)}
theorem abj {scope sc:Scope}{env:Env}(h:env.scope=sc):relabel scope env=iI scope sc:=by subst h; rfl
section
variable {p:Program} {w:World} {h0:Heap} {fs all:List Env} {cl cl':List (Str×Addr)} {c c1:Cx} {L L':Addr} {S S1:St}
theorem Ad.ue (R:Ad p w h0 fs cl c L S){cl':List (Str×Addr)}{cel':List (Str×Nat×Nat)}(h:∀x m k,(x,m,k)∈cel'→cl'.lookup x=some (c.ρ k)∧k<c.n):Ad p w h0 fs cl' c L {S with ai:=cel'}:=
 ⟨R.bj,R.n,R.loc,R.objs,R.aP,R.inj,R.eW,R.im,R.ez,R.kG,R.cW,h,R.b9⟩
theorem Ad.gT {S':St}(R:Ad p w h0 fs cl c L S)(h1:S'.loc=S.loc)(h2:S'.ai=S.ai)(h3:S'.aa=S.aa)(h4:S'.objs=S.objs):Ad p w h0 fs cl c L S':=
 ⟨R.bj,R.n.trans h3.symm,by rw [h1]; exact R.loc,by rw [h4]; exact R.objs,by rw [h4]; exact R.aP,by rw [h4]; exact R.inj,by rw [h4]; exact R.eW,R.im,R.ez,R.kG,by rw [h4]; exact R.cW,by rw [h2]; exact R.ai,R.b9⟩
theorem Ac.gT {S':St}{a:Addr}(x:Ac h0 fs L c S a)(h:S'.objs=S.objs):Ac h0 fs L c S' a:=⟨x.lt,x.fz,x.h0,x.ne,by rw [h]; exact x.obj,x.fr⟩
theorem Am.gT {S' S2 S2':St}(E:Am fs c S L c1 S')(h:S2.objs=S.objs)(h':S2'.objs=S'.objs):Am fs c S2 L c1 S2':=⟨E.le,E.size,by rw [h]; exact E.keep,by rw [h]; exact E.fresh,by rw [h,h']; exact E.aP⟩
theorem Ac.enter {a:Addr}{h':Heap}{S':St}(x:Ac h0 fs L c S a)(Z:An fs all L)(hs:c.h.objs.size≤h'.objs.size)(h:S'.objs=S.objs):Ac h0 all c.h.objs.size {c with h:=h'} S' a:=
 ⟨Nat.lt_of_lt_of_le x.lt hs,x.fz,x.h0,Nat.ne_of_lt x.lt,by rw [h]; exact x.obj,λh=>(Z.mem a h).elim x.fr x.ne⟩
theorem Bv.of2 {S0:St}(hL:c.h.objs.size≤L')(E:Am all c S0 L' c1 S1)(hg:S0.objs=S.af):Bv all c S c1 S1:=
 ⟨E.le,E.size,λb o e hb=>E.keep b o e (Nat.ne_of_lt (Nat.lt_of_lt_of_le (Heap.lt_size e) hL)) λm j q hq=>hb m j q (hg▸hq),λa h=>hg▸E.fresh a h,λm j o h=>hg▸E.aP m j o (List.mem_append_right _ h)⟩
theorem Ad.uf (R:Ad p w h0 fs cl c L S){o:AO}{a:Addr}(P:Ac h0 fs L c S a){S':St}(h1:S'.loc=S.loc)(h2:S'.ai=S.ai)(h3:S'.aa=S.aa+1)
  (hS:∀m j q,(m,j,q)∈S'.objs→(m,j,q)∈S.objs∨(j=S.aa∧q=o)) (hn:(S'.objs.map (·.2.1)).Nodup)
  (ho:∀c',Le c c'→c'.h=c.h→c'.ρ S.aa=a→c'.n=S.aa+1→(∀j,j<c.n→c'.ρ j=c.ρ j)→OR p w c' o a):
  ∃c',Ad p w h0 fs cl c' L S'∧Le c c'∧c'.h=c.h∧c'.ρ S.aa=a∧c'.n=S.aa+1∧c'.fz=c.fz∧(∀c0 S0,Am fs c0 S0 L c S→(∀m k o,(m,k,o)∈S0.objs→k<c0.n)→c0.h.objs.size≤a→Am fs c0 S0 L c' S')∧(∀b,b≠a→Ac h0 fs L c S b→Ac h0 fs L c' S' b):=by
 have r1:∀j,j<c.n→(if j=c.n then a else c.ρ j)=c.ρ j:=λj hj=>if_neg (Nat.ne_of_lt hj)
 have r2:(if S.aa=c.n then a else c.ρ S.aa)=a:=if_pos R.n.symm
 have hn':c.n+1=S.aa+1:=congrArg (· + 1) R.n
 have l:Le c {h:=c.h,ρ:=λj=>if j=c.n then a else c.ρ j,n:=c.n+1,fz:=c.fz}:=⟨Nat.le_succ _,r1,λ_ h=>h,λa o _ e=>e⟩
 have el:∀{m j q} (_:(m,j,q)∈S'.objs) {P:Nat→AO→Addr→Prop},((m,j,q)∈S.objs→P j q (c.ρ j))→P S.aa o a→P j q (if j=c.n then a else c.ρ j):=λ{m j q} h {P} qk new=>
  (hS m j q h).elim (λh=>(r1 j (R.kn m j q h)).symm▸qk h) λh=>by rw [h.1,h.2,r2]; exact new
 obtain ⟨vs,n1,n2⟩:=R.loc
 refine ⟨{h:=c.h,ρ:=λj=>if j=c.n then a else c.ρ j,n:=c.n+1,fz:=c.fz},⟨R.bj,hn'.trans h3.symm,h1▸⟨vs,n1,n2.aw l⟩,λm j q h=>el h (P:=λ_ q b=>OR p w _ q b) (λh=>(R.objs m j q h).aw l λz e=>e) (ho _ l rfl r2 hn' r1),λm j q h=>el h (P:=λj _ b=>j<c.n+1∧h0.get? b=none∧b≠L∧¬c.fz b∧b<c.h.objs.size) (λh=>(R.aP m j q h).elim λx1 x=>⟨Nat.lt_succ_of_lt x1,x⟩) ⟨R.n▸Nat.lt_succ_self _,P.h0,P.ne,P.fz,P.lt⟩,
   λm j q m' j' q' h h'=>el h (P:=λj _ b=>b=(if j'=c.n then a else c.ρ j')→j=j') (λh=>el h' (P:=λj' _ b'=>c.ρ j=b'→j=j') (λh'=>R.inj _ _ _ _ _ _ h h') λe=>absurd e.symm (P.obj m j q h)) (el h' (P:=λj' _ b'=>a=b'→S.aa=j') (λh' e=>absurd e (P.obj m' j' q' h')) λ_=>rfl),hn,R.im,R.ez,R.kG,
   λb hb=>(R.cW b hb).elim λa1 q=>q.elim λa2 q=>q.elim λa3 a4=>⟨a1,a2,a3,λm j q h=>el h (P:=λ_ _ b'=>b≠b') (a4 m j q) λe=>P.fr (e▸hb)⟩,λx m j h=>((R.ai x m j (h2▸h)).elim λa b=>⟨a.trans (congrArg some (r1 j b).symm),Nat.lt_succ_of_lt b⟩),R.b9⟩,
  l,rfl,r2,hn',rfl,λc0 S0 E0 kn0 ha=>⟨E0.le.trans l,E0.size,E0.keep,E0.fresh,λm j q h=>el h (P:=λj _ b=>(∃m' q',(m',j,q')∈S0.objs)∨c0.h.objs.size≤b) (E0.aP m j q) (.inr ha)⟩,λb hb p=>⟨p.lt,p.fz,p.h0,p.ne,λm j q h=>el h (P:=λ_ _ b'=>b≠b') (p.obj m j q) hb,p.fr⟩⟩
end
section
variable {prog:Program} {w:World} {A:Around} {E:Value→Shared→Prop} {R:Result→Shared→Prop} {s:Shared}
theorem oG {dk target iter:Expr}{fT:List Expr}{scope:Scope}{pos:Pos}{it aJ:Value}{env:Env}(I:Nat→Shared→Prop)
  (aA:∀n s,I n s→wpAny (model prog w) A (pyNext it) (λr s₁=>match r with
   |none=>R (.ok .next) s₁
   |some v=>wpAny (model prog w) A (letOwnedTupleGo target it v) (λ_ s1=>wpAny (model prog w) A (assign target env v) (λ_ s₂=>
     wpAny (model prog w) A (forIn fT true λc r=>if r=true then do let ok ←isTrue c env (eval c env); pure (ForInStep.yield ok) else pure (ForInStep.yield r)) (λok s₃=>
      if ok=true then wpAny (model prog w) A (eval dk env) (λx s₄=>
       wpAny (model prog w) A (call (.builtin "list.append") [aJ,x]) (λ_ s₅=>∃m,m<n∧I m s₅) (notedBy (model prog w) A env λe s'=>R (.error e) s') s₄) (notedBy (model prog w) A env λe s'=>R (.error e) s') s₃
      else ∃m,m<n∧I m s₃) (notedBy (model prog w) A env λe s'=>R (.error e) s') s₂) (notedBy (model prog w) A env λe s'=>R (.error e) s') s1) (notedBy (model prog w) A env λe s'=>R (.error e) s') s₁) (notedBy (model prog w) A env λe s'=>R (.error e) s') s)
  (n:Nat) (h:I n s):
  codeAny (model prog w) A (.compLoop (.ListComp dk [⟨target,iter,fT,0⟩] scope pos) 0 it aJ env) R s:=by
 refine codeAny_loop rfl I (λn s hI=>?_) n h
 show wpAny _ A ((compTurn (.ListComp dk [⟨target,iter,fT,0⟩] scope pos) 0 it aJ env).onRaise (λx=>do noteFrame x env; theTreesLotGoes x)) _ _ s
 refine wpAny_noted ?_
 rw [compTurn_list]
 refine wpAny_bind (wpAny_standAt (wpAny_bind (wpAny_mono (aA n s hI) (λr s₁ h₁=>?_) λ_ _ h'=>h')))
 cases r with
 |none=>exact wpAny_pure h₁
 |some v=>
  refine wpAny_bind (wpAny_mono h₁ (λ_ s1 h1=>?_) λ_ _ h'=>h')
  refine wpAny_bind (wpAny_mono h1 (λ_ s₂ h₂=>wpAny_bind (wpAny_mono h₂ (λok s₃ h₃=>?_) λ_ _ h'=>h')) λ_ _ h'=>h')
  cases ok with
  |false=>exact wpAny_pure ⟨rfl,h₃⟩
  |true=>
   exact wpAny_bind (wpAny_bind (wpAny_mono h₃ (λx s₄ h₄=>wpAny_bind (wpAny_mono h₄ (λ_ s₅ h₅=>wpAny_pure (wpAny_pure ⟨rfl,h₅⟩)) λ_ _ h'=>h')) λ_ _ h'=>h'))
end
def oU (aV:St→Prop)(aA:AV→St→(Option FV→St→Prop)→Prop):List AV→List FV→St→(List FV→St→Prop)→Prop
 | [],aJ,S,K=>aV S∧K aJ S
 |a::r,aJ,S,K=>aV S∧aA a S λo S1=>match o with
  |some x=>oU aV aA r (aJ++[x]) S1 K
  |none=>oU aV aA r aJ S1 K
abbrev noX:KX:=λ_ _=>False
def vCE (vE:VE)(dk:Expr)(K:Option FV→St→Prop)(S1:St):Prop:=vE dk S1 (λx S2=>jv x S2 λy S3=>K (some y) S3) noX
def arV (vE:VE)(vt:Bf)(fT:List Expr)(dk:Expr)(K:Option FV→St→Prop)(S1:St):Prop:=match fT with
 | []=>vCE vE dk K S1
 |t::r=>iT r (vt t S1 (λb S2=>match b with
  |true=>vCE vE dk K S2
  |false=>K none S2) noX)
def eE (G:Ah)(sc:Scope)(vE:VE)(vt:Bf)(target:Expr)(fT:List Expr)(dk:Expr)(a:AV)(S:St)(K:Option FV→St→Prop):Prop:=yk G sc vE target a S (arV vE vt fT dk K) noX
noncomputable def cp:NameKind→Bool
 |.cell=>false
 |_=>true
noncomputable def ug:ScopeKind→Bool
 |.function=>true
 |_=>false
noncomputable def jU:NameKind→Bool
 |.local=>true
 |_=>false
def rj (scope:Scope):Bool:=ug scope.kind&&scope.names.all λx=>cp x.2&&(!jU x.2||(scope.names.lookup x.1).any jU)
theorem fp {scope:Scope}(h:rj scope=true):scope.kind=.function∧(∀x∈scope.names,x.2≠.cell)∧∀x∈scope.names,x.2=.local→scope.names.lookup x.1=some .local:=by
 have h:=Bool.and_eq_true_iff.mp h
 have h2:=λx hx=>Bool.and_eq_true_iff.mp (List.all_eq_true.mp h.2 x hx)
 have f:∀k,ug k=true→k=.function:=λk=>by cases k <;> first|exact λ_=>rfl|exact λh=>Bool.noConfusion h
 have l:∀k,jU k=true→k=.local:=λk=>by cases k <;> first|exact λ_=>rfl|exact λh=>Bool.noConfusion h
 exact ⟨f _ h.1,λx hx e=>Bool.noConfusion ((congrArg cp e).symm.trans (h2 x hx).1),λx hx e=>by
  have:=(h2 x hx).2
  rw [e] at this
  cases e1:scope.names.lookup x.1 with
  |none=>rw [e1] at this; exact Bool.noConfusion this
  |some k=>rw [e1] at this; exact congrArg some (l k this)⟩
theorem am1 {c:Prop}[Decidable c]{a b:Prop}(h:c)(x:a):if c then a else b:=(if_pos h).mpr x
theorem arW {c:Prop}[Decidable c]{a b:Prop}(h:¬c)(x:b):if c then a else b:=(if_neg h).mpr x
theorem rm {names:List (Str×NameKind)}{ai:List (Str×Nat×Nat)}(h:ud names ai=true):∀x∈names,x.2=.free→∃p,ai.lookup x.1=some p:=by
 intro x hx e
 have:=List.all_eq_true.mp h x hx
 rw [e] at this
 exact Option.isSome_iff_exists.mp this
section
variable {G:Ah} {PE:Addr} {B:Nat} {A:Around} {fs:List Env} {cl:List (Str×Addr)} {L:Addr} {c1 c2:Cx} {S1:St} {s:Shared} {env:Env} {sc:Scope} {n:Nat} {lL:VE} {kS:Bf}
def Bb (G:Ah)(PE:Addr)(n:Nat)(iw:Scope)(lL:VE)(kS:Bf):Prop:=∀(A:Around) (fs:List Env) (env:Env) (cl:List (Str×Addr)) (C:Addr),Run G A fs env iw cl C n true→
 (∀B e,Ae (VR G.prog G.w) G (PE,B) A fs cl C (lL e) (eval e env))∧∀B e,Ae BR G (PE,B) A fs cl C (kS e) (isTrue e env (eval e env))
inductive A9 (G:Ah) (fs:List Env) (cl:List (Str×Addr)) (C:Addr) (c1:Cx) (S4:St) (s:Shared) (J:Nat→Cx→St→Prop) (D:Addr) (V:Nat→List FV→St→Prop) (N:Nat):Nat→Shared→Prop
 |mk {i:Nat} {c':Cx} {S':St} {tk:Nat} {aJ:List FV} {vs:List Value} {m:Nat}:i≤N→Ad G.prog G.w G.h0 fs cl c' C S'→Am fs c1 S4 C c' S'→S'.ai=S4.ai→J i c' S'→c'.h.get? D=some (listOf vs.toArray m)→Aj G.prog G.w c' aJ vs→Ac G.h0 fs C c' S' D→aJ.length≤i→V i aJ S'→A9 G fs cl C c1 S4 s J D V N (N+1-i) {s with heap:=c'.h,toks:=tk}
theorem vV {C I D B0 B1:Addr}(r:Run G A fs env sc cl C n true)(hE:∀B e,Ae (VR G.prog G.w) G (PE,B) A fs cl C (lL e) (eval e env))(hT:∀B e,Ae BR G (PE,B) A fs cl C (kS e) (isTrue e env (eval e env))){dk target iter:Expr}{fT:List Expr}{scope:Scope}{pos:Pos}
  {items:List AV} {aV:St→Prop} {J:Nat→Cx→St→Prop} (hJ:Bx G A fs cl C I target B0 B1 items aV J) {S4:St} (kn:∀m k o,(m,k,o)∈S4.objs→k<c1.n) (hB0:c1.h.objs.size≤B0) (hD0:c1.h.objs.size≤D) (hD:B1≤D) (iD:items.length≤100000) {RR:Result→Shared→Prop} {K:List FV→St→Prop}
  (done:∀c5 S5 tk aJ vs m,K aJ S5→Ad G.prog G.w G.h0 fs cl c5 C S5→Am fs c1 S4 C c5 S5→Ac G.h0 fs C c5 S5 D→c5.h.get? D=some (listOf vs.toArray m)→Aj G.prog G.w c5 aJ vs→RR (.ok .next) {s with heap:=c5.h,toks:=tk})
  {s0:Shared} (h0:A9 G fs cl C c1 S4 s J D (λi aJ S'=>oU aV (eE G sc lL kS target fT dk) (items.drop i) aJ S' K) items.length (items.length+1) s0):
  codeAny (model G.prog G.w) A (.compLoop (.ListComp dk [⟨target,iter,fT,0⟩] scope pos) 0 (.ref I) (.ref D) env) RR s0:=by
 refine oG (A9 G fs cl C c1 S4 s J D (λi aJ S'=>oU aV (eE G sc lL kS target fT dk) (items.drop i) aJ S' K) items.length) (λn s' h=>?_) (items.length+1) h0
 cases h with
 |mk hi R' E' nQ hJ' g' r' P' hl v'=>
  rename_i i c' S' tk aJ vs m
  cases hd:items.drop i with
  |nil=>
   rw [hd] at v'
   exact hJ.done (s:={s with heap:=c'.h,toks:=tk}) ⟨R',rfl⟩ (drop_nil hd hi▸hJ') v'.1 E' hB0 _ _ λc5 tk5 R5 E5 st5=>done c5 S' tk5 aJ vs m v'.2 R5 E5 (st5.pv _ hD P') (st5.keep _ _ hD g') (r'.aw st5.le)
  |cons a rest=>
   rw [hd] at v'
   obtain ⟨hi',hlt,tV⟩:=drop_cons hd
   refine hJ.vK (s:={s with heap:=c'.h,toks:=tk}) hi' ⟨R',rfl⟩ hJ' v'.1 E' hB0 _ _ _ (λv s'=>rfl) λc6 u tk6 R6 E6 st6 hJ6 r6=>?_
   have g6:=st6.keep _ _ hD g'
   have ra6:=r'.aw st6.le
   have P6:=st6.pv _ hD P'
   have ahy:∀{c S} {s:Shared} {E:Value→Shared→Prop},Ai G (PE,c.h.objs.size) fs cl C c S s noX E:=λ{c S s E}=>⟨Nat.le_refl _,λ_ _ _ _ _ k=>k.elim⟩
   have next:∀{c9 S9 tk9 ahz vs' m'},Ad G.prog G.w G.h0 fs cl c9 C S9→Am fs c1 S4 C c9 S9→S9.ai=S4.ai→J (i+1) c9 S9→c9.h.get? D=some (listOf (List.toArray vs') m')→Aj G.prog G.w c9 ahz vs'→Ac G.h0 fs C c9 S9 D→ahz.length≤i+1→oU aV (eE G sc lL kS target fT dk) rest ahz S9 K→
     ∃m,m<items.length+1-i∧A9 G fs cl C c1 S4 s J D (λi aJ S'=>oU aV (eE G sc lL kS target fT dk) (items.drop i) aJ S' K) items.length m {s with heap:=c9.h,toks:=tk9}:=λR E hc j g r p l v=>⟨_,by lia,.mk (i:=i+1) hlt R E hc j g r p l (tV.symm▸v)⟩
   -- one more
   have more:∀{c8 S8 tk8},Ad G.prog G.w G.h0 fs cl c8 C S8→Am fs c6 S' C c8 S8→S8.ai=S'.ai→vCE lL dk (λo S1=>match o with|some x=>oU aV (eE G sc lL kS target fT dk) rest (aJ++[x]) S1 K|none=>oU aV (eE G sc lL kS target fT dk) rest aJ S1 K) S8→
     wpAny (model G.prog G.w) A (eval dk env) (λx s₄=>wpAny (model G.prog G.w) A (call (.builtin "list.append") [.ref D,x]) (λ_ s₅=>∃m,m<items.length+1-i∧A9 G fs cl C c1 S4 s J D (λi aJ S'=>oU aV (eE G sc lL kS target fT dk) (items.drop i) aJ S' K) items.length m s₅)
      (notedBy (model G.prog G.w) A env λe s'=>RR (.error e) s') s₄) (notedBy (model G.prog G.w) A env λe s'=>RR (.error e) s') {s with heap:=c8.h,toks:=tk8}:=by
    intro c8 S8 tk8 R8 E8 hc8 k8
    refine hE _ dk c8 S8 _ ⟨R8,rfl⟩ _ noX _ _ k8 (λc9 x S9 u9 tk9 k9 e9 R9 hc9 r9=>cN k9 r9 R9 λc10 y Dq a7 r10 CC Di h10 g10=>?_) ahy
    have EE:=(E8.trans R6.kn R8.kn e9).trans R6.kn R9.kn Di
    have rd:=ra6.aw EE.le
    have e10:({s with heap:=c9.h,toks:=tk9}:Shared)={s with heap:=c10.h,toks:=tk9}:=by rw [h10]
    rw [e10]
    refine wpAny_list_append_plain (s:={s with heap:=c10.h,toks:=tk9}) (items:=vs.toArray) ⟨m,P6.get EE g6⟩ (λh' hl' hs=>?_) (by rw [sizeLine_eq,List.size_toArray,←r'.len]; lia)
    obtain ⟨m',hl'⟩:=hl'
    obtain ⟨Dj,Dk,Dl,l11⟩:=fL CC (E6.trans kn R6.kn EE) (P6.fQ R6 CC EE) hD0 (Nat.le_of_eq hs.1.symm) λb o e ne=>(hs.2 b ne).trans e
    exact next Dj Dk (g10.trans (hc9.trans (hc8.trans nQ))) (hJ.more (hJ.fQ hJ6 R6 CC EE) l11 (λb o hb e=>(hs.2 b (Nat.ne_of_lt (Nat.lt_of_lt_of_le hb hD))).trans e) λb p=>⟨Nat.lt_of_lt_of_le p.lt (Nat.le_of_eq hs.1.symm),p.fz,p.h0,p.ne,p.obj,p.fr⟩) (vs':=vs++[u9]) ((List.push_toArray vs u9)▸hl') ((rd.aw l11).append (.cons (r10.aw l11) .nil)) Dl (by rw [List.length_append]; exact Nat.succ_le_succ hl) a7
   refine uc (PE:=PE) (B:=c6.h.objs.size) r (hE c6.h.objs.size) target (s:={s with heap:=c6.h,toks:=tk6}) ⟨R6,rfl⟩ r6 (λ_=>_) noX _ _ v'.2 (λc7 _ S7 _ tk7 k7 e7 R7 hc7 _=>?_) ahy
   cases fT with
   |nil=>exact PySem.wpAny_tests_nil (am1 rfl (more R7 e7 hc7 k7))
   |cons t tr=>
    refine dF (Z:=λtr=>wpAny (model G.prog G.w) A (forIn (t::tr) true λc r=>if r=true then do let ok ←isTrue c env (eval c env); pure (ForInStep.yield ok) else pure (ForInStep.yield r)) _ _ _) k7 λk7=>PySem.wpAny_tests_one (hT _ t c7 S7 _ ⟨R7,rfl⟩ _ noX _ _ k7 (λc8 b S8 b' tk8 k8 e8 R8 hc8 r8=>?_) ahy)
    have r8:b=b':=r8
    subst r8
    have E8:=e7.trans R6.kn R7.kn e8
    cases b with
    |true=>exact am1 rfl (more R8 E8 (hc8.trans hc7) k8)
    |false=>exact arW (by decide) (next R8 (E6.trans kn R6.kn E8) ((hc8.trans hc7).trans nQ) (hJ.fQ hJ6 R6 R8 E8) (P6.get E8 g6) (ra6.aw E8.le) (P6.fQ R6 R8 E8) (Nat.le_succ_of_le hl) k8)
theorem lM (r:Aq G A fs env sc cl L n true){scope:Scope}{dk target iter:Expr}{fT:List Expr}{pos:Pos}{nm:Nat}(hok:rj scope=true)(hI:Bb G PE n (iI scope sc) lL kS)
  {I:Addr} {items:List AV} {aV:St→Prop} {tk:Nat} (R1:Ad G.prog G.w G.h0 fs cl c1 L S1) (R2:Ad G.prog G.w G.h0 fs cl c2 L S1) (gr:BI c1 c2) (hS:BJ G target I c1.h.objs.size c2 items aV) (C2:Bj G c1.h.objs.size c2 fs L c2 S1)
  (avw:ud scope.names S1.ai=true) (iD:items.length≤100000) {K:KE} (v:oU aV (eE G (iI scope sc) lL kS target fT dk) items [] (S1.gS (f3 scope.names S1.ai)) (λaJ S2=>jw nm aJ (S1.outer S2) K))
  {RR:Value→Addr→Result→Shared→Prop} {E:Value→Shared→Prop}
  (hRR:∀D C c5 S5 av tk,K av S5→(VR G.prog G.w) c5 av (.ref D)→Ad G.prog G.w G.h0 fs cl c5 L S5→Am fs c1 S1 L c5 S5→S5.ai=S1.ai→Ac G.h0 fs L c5 S5 C→c1.h.objs.size≤C→(∃m,c5.h.Ns C m)→RR (.ref D) C (.ok .next) {s with heap:=c5.h,toks:=tk}):
  wpAny (model G.prog G.w) A (newList []) (λaJ s₃=>wpAny (model G.prog G.w) A (newFunctionEnv scope env.globals (cn scope.names cl []) [] env.qual none .none (some env)) (λam2 s₄=>
   codeAny (model G.prog G.w) A (.compStart (.ListComp dk [⟨target,iter,fT,0⟩] scope pos) 0 (.ref I) aJ {am2 with scope:=relabel scope env}) (RR aJ am2.locals) s₄) E s₃) E {s with heap:=c2.h,toks:=tk}:=by
 obtain ⟨hk1,hk2,hk3⟩:=fp hok
 refine wpAny_newObj_type (wpAny_newFunctionEnv hk2 (λy hy=>nomatch hy) (λh₁ abk ahA=>?_) hk1)
 dsimp only at abk ahA ⊢
 generalize hH3:c2.h.push {cls:=.type "list",dict:=none,data:=.seq ([]:List Value).toArray}=h3 at abk ahA ⊢
 have z3:h3.objs.size=c2.h.objs.size+1:=hH3▸Heap.size_push _ _
 have le3:c2.h.objs.size≤h3.objs.size:=z3.symm▸Nat.le_succ _
 have Z:An fs (env::fs) L:=⟨.inr ⟨env,rfl,r.frm,by rw [r.run.env.gd,r.run.env.kind]; decide⟩⟩
 have k3:∀b o,c2.h.get? b=some o→h3.get? b=some o:=λb o e=>hH3▸Heap.get?_push_of_some _ e
 obtain ⟨R3,E3⟩:=R2.nL (h':=h3) le3 k3
 have k4:∀b o,h3.get? b=some o→h₁.get? b=some o:=λb o e=>ahA.extBut b o (Nat.ne_of_lt (Heap.lt_size e)) (Heap.get?_push_of_some _ e)
 have k34:=λb o e=>k4 b o (k3 b o e)
 have z4:h3.objs.size≤h₁.objs.size:=Nat.le_of_lt abk.lt
 have R5:Ad G.prog G.w G.h0 (env::fs) (cn scope.names cl []) {c2 with h:=h₁} h3.objs.size (S1.gS (f3 scope.names S1.ai)):=
  Ad.gT (((R3.gT (S':=S1.mv) rfl rfl rfl rfl).enter Z (binds:=[]) (loc:=[]) .nil (h':=h₁) abk k4).ue (cl':=cn scope.names cl []) (cel':=f3 scope.names S1.ai) λx m k h=>
   (List.mem_filter.mp h).elim λh1 h2=>
   (R2.ai x m k h1).elim λq1 q2=>
   ⟨rh q1 _ (.inl (List.contains_iff_mem.mp h2)) (.inl rfl),q2⟩) rfl rfl rfl rfl
 have adW:∀{b},Ac G.h0 fs L {c2 with h:=h3} S1 b→Ac G.h0 (env::fs) h3.objs.size {c2 with h:=h₁} (S1.gS (f3 scope.names S1.ai)) b:=λx=>x.enter Z z4 rfl
 have gD:h₁.get? c2.h.objs.size=some (listOf ([]:List Value).toArray 0):=k4 _ _ (hH3▸Heap.get?_push_size _ rfl)
 have E4:Am (env::fs) c1 (S1.gS (f3 scope.names S1.ai)) h3.objs.size {c2 with h:=h₁} (S1.gS (f3 scope.names S1.ai)):=
  ⟨⟨Nat.le_of_eq gr.n.symm,λk _=>congrFun gr.ρ k,λb f=>(congrFun gr.fz b).symm▸f,λb o _ e=>k34 _ _ (gr.keep b o e)⟩,Nat.le_trans gr.size (Nat.le_trans le3 z4),λb o e _ _=>⟨o,k34 _ _ (gr.keep b o e),.refl o⟩,λb f=>.inl (congrFun gr.fz b▸f),λm k o h=>.inl ⟨m,o,h⟩⟩
 have Ct:c1.h.objs.size≤h3.objs.size:=Nat.le_trans gr.size le3
 have ahB:Run G A (env::fs) (compEnvC scope (cn scope.names cl []) h3.objs.size env) (iI scope sc) (cn scope.names cl []) h3.objs.size n true:=
  ⟨r.run.ok,⟨abj r.run.env.gd,hk1,rfl,r.run.env.glo,r.run.env.blt,rfl⟩,⟨env::fs,r.wW,.inl rfl⟩,r.run.kK,r.run.i5⟩
 obtain ⟨J,hJ,hJ0⟩:=hS A (env::fs) (cn scope.names cl []) h3.objs.size {c2 with h:=h₁} (S1.gS (f3 scope.names S1.ai)) c1.h.objs.size (r.run.i5 rfl) ⟨⟨Nat.le_refl _,λ_ _=>rfl,λ_ f=>f,λb o _ e=>k34 _ _ e⟩,λb o hb e=>
  have p:=(C2.2 b o hb e).2
  ⟨k34 _ _ e,adW ⟨Nat.lt_of_lt_of_le p.lt le3,p.fz,p.h0,p.ne,p.obj,p.fr⟩⟩⟩ (Nat.le_refl _)
 have loop:codeAny (model G.prog G.w) A (.compLoop (.ListComp dk [⟨target,iter,fT,0⟩] scope pos) 0 (.ref I) (.ref c2.h.objs.size) (compEnvC scope (cn scope.names cl []) h3.objs.size env)) (RR (.ref c2.h.objs.size) h3.objs.size) {s with heap:=h₁,toks:=tk}:=by
  refine vV (S4:=S1.gS (f3 scope.names S1.ai)) ahB (hI _ _ _ _ _ ahB).1 (hI _ _ _ _ _ ahB).2 hJ (λm k o h=>R1.kn m k o h) (Nat.le_refl _) gr.size (Nat.le_refl _) iD (λc5 S' tk5 aJ vs m v' R5 E5 P5 g5 r5=>?_) (A9.mk (i:=0) (c':={c2 with h:=h₁}) (S':=S1.gS (f3 scope.names S1.ai)) (tk:=tk) (vs:=[]) (m:=0) (Nat.zero_le _) R5 E4 rfl hJ0 gD .nil (adW (Ac.new R2 (Nat.le_refl _) (z3.symm▸Nat.lt_succ_self _))) (Nat.zero_le _) v)
  have Rn:Bv (env::fs) c1 S1.mv c5 S'.mv:=Bv.of2 Ct (E5.gT (S2':=S'.mv) rfl rfl) rfl
  obtain ⟨Dm,Dn⟩:=(R1.gT (S':=S1.mv) rfl rfl rfl rfl).xj Z (R5.gT (S':=S'.mv) rfl rfl rfl rfl) Rn
  have R6:Ad G.prog G.w G.h0 fs cl c5 L (S1.outer S'):=Dm.gT rfl rfl rfl rfl
  have E6:Am fs c1 S1 L c5 (S1.outer S'):=Dn.gT rfl rfl
  have C5:Ac G.h0 fs L c5 (S1.outer S') c2.h.objs.size:=((P5.gT (S':=S'.mv) rfl).aq (R1.gT (S':=S1.mv) rfl rfl rfl rfl) Rn Z gr.size).gT rfl
  obtain ⟨us,n1,n2⟩:=R5.loc
  have PC:Ac G.h0 fs L c5 (S1.outer S') h3.objs.size:=⟨n1.lt,R5.im.2,R5.im.1,λe=>(R1.loc).elim λ_ q=>q.elim λm1 _=>Nat.not_le.mpr m1.lt (e▸Ct),λm k o h e=>(R5.aP m k o h).2.2.1 e.symm,λh=>(R5.cW _ (Z.sub _ h)).1 rfl⟩
  have am3:h3.objs.size≠c2.h.objs.size:=z3.symm▸Nat.succ_ne_self _
  unfold jw at v'
  cases nm with
  |zero=>
   have l7:Le c5 {c5 with fz:=λb=>c5.fz b∨b=c2.h.objs.size}:=⟨Nat.le_refl _,λ_ _=>rfl,λ_ h=>.inl h,λ_ _ _ e=>e⟩
   exact hRR c2.h.objs.size h3.objs.size {c5 with fz:=λb=>c5.fz b∨b=c2.h.objs.size} _ _ tk5 v' (.fr (.fl (.inr rfl) g5 (r5.aw l7))) (R6.eA (F:=λb=>b=c2.h.objs.size) λb e=>e▸C5) (E6.eA (F:=λb=>b=c2.h.objs.size) λb e=>e▸gr.size) rfl ⟨PC.lt,λf=>f.elim PC.fz am3,PC.h0,PC.ne,PC.obj,PC.fr⟩ Ct ⟨_,n1⟩
  |succ nm=>
   have z:=cM (m:=nm+1) (o:=.list aJ) R6.eW R6.dO
   obtain ⟨c7,R7,l7,h7,q7,n7,f7,e7,p7⟩:=R6.uf C5 z.2.loc z.2.ai z.2.aa z.1 z.2.eW λc' lc q1 q2 q3 q4=>⟨vs,m,q1.symm▸g5,r5.aw lc⟩
   exact h7▸hRR c2.h.objs.size h3.objs.size c7 _ _ tk5 v' (q7▸.own _ _ (n7.symm▸Nat.lt_succ_self _)) R7 (e7 c1 S1 E6 R1.kn gr.size) z.2.ai (p7 _ am3 PC) Ct ⟨_,h7.symm▸n1⟩
 exact codeAny_compStart_list loop (hJ.gQ (s:={s with heap:=h₁,toks:=tk}) ⟨R5,rfl⟩ hJ0 _ _ loop)
end
abbrev AI:=(AV→St→(Option FV→St→Prop)→Prop)→(St→Prop)→List AV→St→(List FV→St→Prop)→Prop
def AA (L:AI):Prop:=∀aA aV items S K,L aA aV items S K→oU aV aA items [] S K
def lN (G:Ah)(sc:Scope)(LL:AI)(vEf:Scope→VE)(vtf:Scope→Bf)(vE:VE)(nm:Nat)(dk target iter:Expr)(fT:List Expr)(scope:Scope)(S:St)(K:KE)(X:KX):Prop:=match rj scope&&ud scope.names S.ai with
 |true=>vR vE target iter S (λitems aV S1=>items.length≤100000∧LL (eE G (iI scope sc) (vEf (iI scope sc)) (vtf (iI scope sc)) target fT dk) aV items (S1.gS (f3 scope.names S1.ai)) (λaJ S2=>jw nm aJ (S1.outer S2) K)) X
 |false=>False
section
variable {G:Ah} {PE:Addr} {B:Nat} {A:Around} {fs:List Env} {cl:List (Str×Addr)} {L:Addr} {c c1 c2:Cx} {S S1:St} {s:Shared} {env:Env} {sc:Scope} {n:Nat} {vE:VE} {vEf:Scope→VE} {vtf:Scope→Bf}
theorem uh (r:Run G A fs env sc cl L n true)(R:Ad G.prog G.w G.h0 fs cl c L S){scope:Scope}(h:ud scope.names S.ai=true):closureFor scope env=pure (cn scope.names cl []):=by
 have:=jT (scope:=scope) (env:=env) λx hx e=>by
  obtain ⟨⟨m,k⟩,hp⟩:=rm h x hx e
  obtain ⟨q1,q2⟩:=R.ai x.1 m k (ch hp)
  rw [r.env.ai,q1]; rfl
 rw [this,r.env.ai]
theorem vW (r:Aq G A fs env sc cl L n true){LL:AI}(hL:AA LL)(hE:∀B e,Ae (VR G.prog G.w) G (PE,B) A fs cl L (vE e) (eval e env)){dk target iter:Expr}{fT:List Expr}{scope:Scope}{pos:Pos}{nm:Nat}(hI:Bb G PE n (iI scope sc) (vEf (iI scope sc)) (vtf (iI scope sc))):
  Ae (VR G.prog G.w) G (PE,B) A fs cl L (lN G sc LL vEf vtf vE nm dk target iter fT scope) (eval (.ListComp dk [⟨target,iter,fT,0⟩] scope pos) env):=by
 intro c S s a K X Q E v p x
 unfold lN at v
 split at v
 ·rename_i hb
  rw [Bool.and_eq_true] at hb
  obtain ⟨hk1,hk2,hk3⟩:=fp hb.1
  rw [eval_ListComp]
  refine wpAny_comprehension_free (use:=none) rfl (jR v) (uh r.run a.aF hb.2) hk1 hk3 (jS hE a v x λI items aV c1 S1 c2 tk hS v2 R1 E1 a8 R2 E2 gr C2=>?_)
  have p1:=p.ak a.aF R1 E1 a8 tk
  refine lM (s:=s) r hb.1 hI R1 R2 gr hS C2 (by rw [a8]; exact hb.2) v2.1 (hL _ _ _ _ _ v2.2) (RR:=λaJ C=>compPost (model G.prog G.w) A E none Q aJ C) λD C c5 S5 av tk5 k5 r5 R5 E5 hc5 PC hC nC=>?_
  obtain ⟨m,nC⟩:=nC
  refine ⟨m,nC,λh' hs=>?_⟩
  have kp:∀b o,c5.h.get? b=some o→¬b=C→h'.get? b=some o:=λb o e ne=>(hs.2 b ne).trans e
  obtain ⟨R6,_⟩:=R5.jC (F:=λb=>b=C) (h':=h') (λb e=>e▸PC) (Nat.le_of_eq hs.1.symm) kp
  have E6:=E5.jC (h0:=G.h0) (F:=λb=>b=C) (λb e=>e▸⟨PC,hC⟩) (Nat.le_of_eq hs.1.symm) kp
  have l:Le c5 {c5 with h:=h'}:=⟨Nat.le_refl _,λ_ _=>rfl,λ_ h=>h,λa o f e=>kp a o e λz=>PC.fz (z▸f)⟩
  exact p1 {c5 with h:=h'} av S5 (.ref D) tk5 k5 E6 R6 hc5 (r5.aw l)
 ·exact v.elim
theorem mJ (r:Aq G A fs env sc cl L n true){LL:AI}(hL:AA LL)(hE:∀B e,Ae (VR G.prog G.w) G (PE,B) A fs cl L (vE e) (eval e env)){dk target iter:Expr}{fT:List Expr}{scope:Scope}{pos am4 py:Pos}{y:Str}{nm:Nat}(hI:Bb G PE n (iI scope sc) (vEf (iI scope sc)) (vtf (iI scope sc)))
  (hsw:swapsWith (.ListComp dk [⟨target,iter,fT,0⟩] scope pos) (some (.Name y py)) am4.line env=pure true):
  Ae (AC G.prog G.w) G (PE,B) A fs cl L (λS K X=>lN G sc LL vEf vtf vE nm dk target iter fT scope S (λa S1=>fi sc y a S1 λS2=>K .next S2) X) (exec (.Assign [.Name y py] (.ListComp dk [⟨target,iter,fT,0⟩] scope pos) am4) env):=by
 intro c S s a K X Q E v p x
 unfold lN at v
 split at v
 ·rename_i hb
  rw [Bool.and_eq_true] at hb
  obtain ⟨hk1,hk2,hk3⟩:=fp hb.1
  rw [exec_Assign_Name_used _ _ _ _ hsw]
  refine wpAny_bind (wpAny_standAt (wpAny_bind ?_))
  show wpAny _ A (do let _ ←comprehension (.ListComp dk [⟨target,iter,fT,0⟩] scope pos) scope env _ (newList []) false (eval iter env) (some (assign (.Name y py) env))) _ _ s
  refine wpAny_bind (wpAny_comprehension_free (use:=some (assign (.Name y py) env)) (Q:=λ_ s'=>wpAny (model G.prog G.w) A (pure ()) (λ_ s''=>wpAny (model G.prog G.w) A (pure Flow.next) Q E s'') E s') rfl (jR v) (uh r.run a.aF hb.2) hk1 hk3 (jS hE a v x λI items aV c1 S1 c2 tk hS v2 R1 E1 a8 R2 E2 gr C2=>?_))
  have p1:=p.ak a.aF R1 E1 a8 tk
  have x1:=x.ak a.aF R1 E1 a8 tk
  refine lM (s:=s) r hb.1 hI R1 R2 gr hS C2 (by rw [a8]; exact hb.2) v2.1 (hL _ _ _ _ _ v2.2) (RR:=λaJ C=>compPost (model G.prog G.w) A E (some (assign (.Name y py) env)) _ aJ C) λD C c5 S5 av tk5 k5 r5 R5 E5 hc5 PC hC nC=>?_
  obtain ⟨m,nC⟩:=nC
  show wpAny _ A (assign (.Name y py) env (.ref D)) _ E _
  refine assign_Name (dz (PE:=(PE,c5.h.objs.size)) r.run y (c:=c5) (S:=S5) (s:={s with heap:=c5.h,toks:=tk5}) ⟨R5,rfl⟩ r5 (λ_ S2=>K .next S2) noX _ E k5 (λc6 _ S6 _ tk6 k6 e6 R6 hc6 _=>?_) ⟨Nat.le_refl _,λ_ _ _ _ _ k=>k.elim⟩)
  have C6:=PC.fQ R5 R6 e6
  refine ⟨m,iQ nC λo e=>PC.get e6 e,λh' hs=>?_⟩
  have kp:∀b o,c6.h.get? b=some o→¬b=C→h'.get? b=some o:=λb o e ne=>(hs.2 b ne).trans e
  obtain ⟨R7,_⟩:=R6.jC (F:=λb=>b=C) (h':=h') (λb e=>e▸C6) (Nat.le_of_eq hs.1.symm) kp
  have E7:=(E5.trans R1.kn R5.kn e6).jC (h0:=G.h0) (F:=λb=>b=C) (λb e=>e▸⟨C6,hC⟩) (Nat.le_of_eq hs.1.symm) kp
  exact wpAny_pure (wpAny_pure (p1 {c6 with h:=h'} .next S6 .next tk6 k6 E7 R7 (hc6.trans hc5) .next))
 ·exact v.elim
end
theorem o9 (C:Addr)(rest:List Value)(kw:List (Str×Value)):(Code.builtin "type.__call__" ⟨.ref C::rest,kw⟩).weight=1:=by kernel_rfl
theorem rn (C:Addr)(rest:List Value)(kw:List (Str×Value)):(Code.builtin "type.__call__" ⟨.ref C::rest,kw⟩).cUnits=1:=by kernel_rfl
theorem vX (C:Addr)(rest:List Value)(kw:List (Str×Value)):(Code.builtin "type.__call__" ⟨.ref C::rest,kw⟩).envs=[]:=by kernel_rfl
def adX (G:Ah)(own:Addr→Nat×Nat)(vc:Au)(C:Addr)(as:List AV)(S:St)(K:KE):Prop:=cV (makesIn G.K C) (bW (findIn G.K (.ref C) "__init__") λo=>bW o λv=>x' v λfI=>cV (isFn G.K (.ref fI)) <|
 vc (.fr (.lit (.ref fI))) (.own (own C).1 (S.aa+1)::as) ((S.i4 (own C).2 (.be [])).i4 (own C).1 (.inst C (own C).2 S.aa)) (λr S2=>gw r λr=>wO r (match Nat.beq (own C).1 90 with
  |true=>jv (.own (own C).1 (S.aa+1)) S2 λx S3=>K (.fr x) S3
  |false=>K (.own (own C).1 (S.aa+1)) S2)) noX)
section
variable {G:Ah} {PE:Addr×Nat} {A:Around} {fs:List Env} {cl:List (Str×Addr)} {L:Addr} {c:Cx} {S:St} {s:Shared} {env:Env} {sc:Scope} {n:Nat} {q:Bool} {vc:Au} {own:Addr→Nat×Nat}
theorem Run.arX (r:Run G A fs env sc cl L (n+1) q)(C:Addr)(rest:List Value)(kw:List (Str×Value)):Run G (A.under (.builtin "type.__call__" ⟨.ref C::rest,kw⟩)) fs env sc cl L n q:=by
 obtain ⟨a,b⟩:=r.kK
 refine ⟨r.ok,r.env,(r.frames).elim λall q=>q.elim λh1 h2=>⟨all,?_,h2⟩,⟨?_,?_⟩,r.i5⟩
 ·show pushEnvs (Code.builtin "type.__call__" ⟨.ref C::rest,kw⟩).envs A.frames=_
  rw [vX]; exact h1
 ·show A.depth+(Code.builtin "type.__call__" ⟨.ref C::rest,kw⟩).weight+_<_
  rw [o9]; lia
 ·show A.units+(Code.builtin "type.__call__" ⟨.ref C::rest,kw⟩).cUnits+8*n+8<_
  rw [rn]; lia
theorem yl (R:Ad G.prog G.w G.h0 fs cl c L S)(C:Addr)(m dm:Nat):∃c',Ad G.prog G.w G.h0 fs cl c' L ((S.i4 dm (.be [])).i4 m (.inst C dm S.aa))∧Am fs c S L c' ((S.i4 dm (.be [])).i4 m (.inst C dm S.aa))∧((S.i4 dm (.be [])).i4 m (.inst C dm S.aa)).ai=S.ai∧
  c'.h=(c.h.push emptyDict).push (instObj C c.h.objs.size)∧VR G.prog G.w c' (.own m (S.aa+1)) (.ref (c.h.objs.size+1)):=by
 have e1:(c.h.push emptyDict).get? c.h.objs.size=some emptyDict:=Heap.get?_push_size _ rfl
 obtain ⟨c1,R1,E1,h1,q1,n1⟩:=R.i4 (m:=dm) (o:=.be []) (h':=c.h.push emptyDict) (a:=c.h.objs.size) (Nat.le_of_lt (bl _ _)) (λb o e=>Heap.get?_push_of_some _ e) (Nat.le_refl _) (bl _ _)
  λc' lc q1 q2 q3 q4=>⟨[],by rw [q1]; exact ⟨_,#[],_,e1,rfl,λe he=>absurd he (by simp),by simp [UniqKeys],λy=>rfl⟩,.nil⟩
 have z1:=cM (m:=dm) (o:=.be []) R.eW R.dO
 have sz:c1.h.objs.size=c.h.objs.size+1:=h1▸Heap.size_push _ _
 obtain ⟨c2,R2,E2,h2,q2,n2⟩:=R1.i4 (m:=m) (o:=.inst C dm S.aa) (h':=(c.h.push emptyDict).push (instObj C c.h.objs.size)) (a:=c.h.objs.size+1) (h1▸Nat.le_of_lt (bl _ _)) (λb o e=>Heap.get?_push_of_some _ (h1▸e)) (Nat.le_of_eq sz) (sz▸h1▸bl _ _)
  λc' lc w1 w2 w3 w4=>⟨by rw [w1,w4 S.aa (n1▸Nat.lt_succ_self _),q1]; exact sz▸h1▸Heap.get?_push_size _ rfl,by rw [w3,z1.2.aa]; exact Nat.lt_succ_of_lt (Nat.lt_succ_self _)⟩
 rw [z1.2.aa] at q2 n2
 exact ⟨c2,R2,E1.trans R.kn R1.kn E2,((cM (m:=m) (o:=.inst C dm S.aa) R1.eW R1.dO).2.ai).trans z1.2.ai,h2,q2▸.own _ _ (n2.symm▸Nat.lt_succ_self _)⟩
set_option backward.match.sparseCases true in
theorem ym (r:Run G A fs env sc cl L (n+1) q)(hc:Ag G PE n q vc){C:Addr}{as:List AV}{vs:List Value}(aj:At G fs cl L c S s)(ra:Al G.prog G.w c as vs){K:KE}{X:KX}{Q E:Value→Shared→Prop}(v:adX G own vc C as S K)(p:Ak (VR G.prog G.w) G fs cl L c S s K Q)(x:Ai G PE fs cl L c S s X E):
  codeAny (model G.prog G.w) A (.call (.ref C) ⟨vs,[]⟩) (λr s'=>match r with|.ok (.ret u)=>Q u s'|.ok _=>False|.error e=>E e s') s:=by
 refine aG v λhm v=>au v λo hi v=>au v λw hw v=>?_
 subst hw
 refine jO (Z:=λw=>findIn G.K (.ref C) "__init__" = some (some w)→_) v (λfI v hi=>aG v λhf v=>?_) hi
 have X':=aj.aF.nD r.ok aj.heap
 obtain ⟨hp,g,d,tk,os⟩:=s
 have eh:c.h=hp:=aj.heap
 subst eh
 refine make_core (makes_of X' hm) (looks_findIn X' hi) (λgQ=>bind_fn X' gQ (beq_iff_eq.mp hf)) (.inl rfl) ?_
 obtain ⟨c2,R2,EE,am5,h2,rv⟩:=yl aj.aF C (own C).1 (own C).2
 rw [←h2]
 have p2:=p.ak aj.aF R2 EE am5 tk
 refine codeAny_mono (hc _ fs env sc cl L (r.arX C vs []) (.fr (.lit (.ref fI))) (.ref fI) (.own (own C).1 (S.aa+1)::as) (.ref (c.h.objs.size+1)::vs) c2 _ ⟨c2.h,g,d,tk,os⟩ ⟨R2,rfl⟩ (.fr (.lit _)) (.cons rv (ra.aw EE.le)) _ noX (λu s'=>u=.none∧Q (.ref (c.h.objs.size+1)) s') E v (λc3 a3 S3 b3 fR k3 e3 R3 iA r3=>?_) ⟨(x.ak aj.aF R2 EE am5 tk).1,λ_ _ _ _ _ k=>k.elim⟩) λr s' z=>?_
 ·refine aZ (P:=λa=>VR G.prog G.w c3 a b3→_) k3 (λy k3 r3=>uU (P:=λy=>VR G.prog G.w c3 (.fr y) b3→_) k3 (λk3 r3=>⟨r3.dg (P:=λv=>v=.none) rfl,?_⟩) r3) r3
  have p3:=p2.ak R2 R3 e3 iA fR
  have a3:At G fs cl L c3 S3 ⟨c3.h,g,d,fR,os⟩:=⟨R3,rfl⟩
  have rr:=rv.aw e3.le
  revert k3
  cases Nat.beq (own C).1 90 with
  |false=>exact λk3=>p3.here a3 k3 rr
  |true=>exact λk3=>cN k3 rr R3 λc4 y S4 k4 r4 R4 E4 h4 g4=>(p3.same a3 R4 E4 g4 h4).here (a3.same R4 h4) k4 (.fr r4)
 ·cases r with
  |error e=>exact z
  |ok f=>cases f <;> exact z
end
def onB (b:Bool)(P Q:Prop):Prop:=match b with
 |true=>P
 |false=>Q
theorem rp {b:Bool}{P Q Z:Prop}(h:onB b P Q)(k:P→Z)(k':Q→Z):Z:=by
 cases b with
 |true=>exact k h
 |false=>exact k' h
theorem rq {α:Type}{o:Option α}{f:α→Bool}(h:o.any f=true){Z:Option α→Prop}(k:∀x,f x=true→Z (some x)):Z o:=by
 cases o with
 |none=>exact Bool.noConfusion h
 |some x=>exact k x h
theorem ahC {b:Bool}(h:(!b)=true):b=false:=by
 cases b with
 |false=>rfl
 |true=>exact Bool.noConfusion h
theorem arY {k:NameKind}:jU k=true→k=.local:=by cases k <;> first|exact λ_=>rfl|exact λh=>Bool.noConfusion h
theorem arZ {k:NameKind}:cp k=false→k=.cell:=by cases k <;> first|exact λ_=>rfl|exact λh=>Bool.noConfusion h
def lO (names:List (Str×NameKind))(x:Str):Bool:=(names.lookup x).any jU
def adY (names:List (Str×NameKind))(x:Str):Bool:=(names.lookup x).any λk => !cp k
theorem gU {names:List (Str×NameKind)}{x:Str}(h:lO names x=true):names.lookup x=some .local:=rq (Z:=λo=>o=some .local) h λ_ h=>congrArg some (arY h)
theorem yn {names:List (Str×NameKind)}{x:Str}(h:adY names x=true):names.lookup x=some .cell:=rq (Z:=λo=>o=some .cell) h λ_ h=>congrArg some (arZ (ahC h))
noncomputable def cE:List (Str×NameKind)→List Str
 | []=>[]
 |f::r=>match cp f.2 with
  |false=>f.1::cE r
  |true=>cE r
theorem jV (k:NameKind):(k==NameKind.cell) = !cp k:=by cases k <;> rfl
theorem rt {k:NameKind}(h:cp k=true):k≠.cell:=λe=>Bool.noConfusion ((congrArg cp e).symm.trans h)
theorem gn {names:List (Str×NameKind)}:cE names=[]→∀x∈names,x.2≠.cell:=by
 induction names with
 |nil=>exact λ_ x hx=>nomatch hx
 |cons f r ih=>
  unfold cE
  cases h:cp f.2 with
  |false=>exact λe=>nomatch e
  |true=>exact λe x hx=>(List.mem_cons.mp hx).elim (λq=>q▸rt h) (ih e x)
theorem fq (f:Str×NameKind)(r:List (Str×NameKind))(n:Nat)(aJ:List (Str×Addr)):cellsFrom n (f::r) aJ=if (f.2==NameKind.cell)=true then cellsFrom (n+1) r ((f.1,n)::aJ) else cellsFrom n r aJ:=rfl
theorem jW {names:List (Str×NameKind)}{n:Nat}{aJ:List (Str×Addr)}:cE names=[]→cellsFrom n names aJ=aJ:=by
 induction names with
 |nil=>exact λ_=>rfl
 |cons f r ih=>
  rw [fq,jV]
  unfold cE
  cases h:cp f.2 with
  |false=>exact λe=>nomatch e
  |true=>exact λe=>(if_neg Bool.noConfusion).trans (ih e)
theorem f4 {names:List (Str×NameKind)}{n:Nat}{aJ:List (Str×Addr)}{x:Str}:cE names=[x]→cellsFrom n names aJ=(x,n)::aJ:=by
 induction names with
 |nil=>exact λh=>nomatch h
 |cons f r ih=>
  rw [fq,jV]
  unfold cE
  cases h:cp f.2 with
  |false=>exact λe=>(if_pos rfl).trans ((jW (List.cons.inj e).2).trans (by rw [(List.cons.inj e).1]))
  |true=>exact λe=>(if_neg Bool.noConfusion).trans (ih e)
def am6 (K:Frag)(fd:FuncData):Bool:=codeIn K fd.code fd.qualname&&(ug fd.scope.kind&&(!fd.scope.isCoroutine&&(!fd.scope.isGenerator&&(Nat.beq fd.globals mainGlobals&&(Nat.beq fd.builtins builtinsNs&&(fd.closure.isEmpty&&d8 fd.params))))))
structure Ch (K:Frag)(fd:FuncData):Prop where
 code:codeIn K fd.code fd.qualname=true
 kind:fd.scope.kind=.function
 co:fd.scope.isCoroutine=false
 gen:fd.scope.isGenerator=false
 glo:fd.globals=mainGlobals
 blt:fd.builtins=builtinsNs
 clo:fd.closure=[]
 args:d8 fd.params=true
theorem as0 {k:ScopeKind}:ug k=true→k=.function:=by cases k <;> first|exact λ_=>rfl|exact λh=>Bool.noConfusion h
theorem vY {K:Frag}{fd:FuncData}(h:am6 K fd=true):Ch K fd:=
 (Bool.and_eq_true_iff.mp h).elim λh1 h=>
 (Bool.and_eq_true_iff.mp h).elim λh2 h=>
 (Bool.and_eq_true_iff.mp h).elim λh3 h=>
 (Bool.and_eq_true_iff.mp h).elim λh4 h=>
 (Bool.and_eq_true_iff.mp h).elim λh5 h=>
 (Bool.and_eq_true_iff.mp h).elim λh6 h=>
 (Bool.and_eq_true_iff.mp h).elim λh7 h8=>
 ⟨h1,as0 h2,ahC h3,ahC h4,Nat.eq_of_beq_eq_true h5,Nat.eq_of_beq_eq_true h6,List.isEmpty_iff.mp h7,h8⟩
noncomputable def yo:Value→Bool
 |.type T=>T == "tuple"
 |_=>false
noncomputable def abl:Data→Option (List Value)
 |.seq vs _=>some vs.toList
 |_=>none
def adZ (K:Frag):Value→Option FV
 |.none=>some .none
 |.bool b=>some (.bool b)
 |.int i _=>some (.int i)
 |.str s _=>some (.str s)
 |.bytes b _=>some (.bytes b)
 |.ref a=>(K.lookup a).bind λo=>match yo o.cls&&(o.dict.isNone&&(o.slots.toList.isEmpty&&(abl o.data).any List.isEmpty)) with
  |true=>some (.az [])
  |false=>none
 |_=>none
noncomputable def ru (K:Frag):List Value→Option (List FV)
 | []=>some []
 |v::r=>(adZ K v).bind λx=>(ru K r).map (x :: ·)
def dfl (K:Frag):Value→Option (List FV)
 |.none=>some []
 |.ref a=>(K.lookup a).bind λo=>(abl o.data).bind (ru K)
 |_=>none
def lP (m k:Nat)(x:FV):List (Str×AV)→(List (Str×AV)→Prop)→Prop
 | [],K=>K []
 |f::r,K=>match f.2 with
  |.own m' k'=>onB (Nat.beq m m') (k=k'∧lP m k x r λl=>K ((f.1,.fr x)::l)) (lP m k x r λl=>K ((f.1,.own m' k')::l))
  |.fr z=>lP m k x r λl=>K ((f.1,.fr z)::l)
def bU:List AV→St→(List AV→St→Prop)→Prop
 | [],S,K=>K [] S
 |a::r,S,K=>match a with
  |.fr x=>bU r S λas S1=>K (.fr x::as) S1
  |.own m k=>onB (Nat.blt m 100) (bU r S λas S1=>K (.own m k::as) S1) (jv (.own m k) S λx S1=>lP m k x S1.loc λloc=>bU r {S1 with loc:=loc} λas S2=>K (.fr x::as) S2)
section
variable {p:Program} {w:World} {h0:Heap} {fs all:List Env} {cl cl':List (Str×Addr)} {c c1:Cx} {L L':Addr} {S S1:St}
theorem Ad.ahD (R:Ad p w h0 fs cl c L S){loc:List (Str×AV)}(hn:loc.map (·.1)=S.loc.map (·.1))(h:∀vs,Al p w c (S.loc.map (·.2)) vs→Al p w c (loc.map (·.2)) vs):Ad p w h0 fs cl c L {S with loc:=loc}:=
 ⟨R.bj,R.n,((R.loc).elim λvs q=>q.elim λn1 n2=>⟨vs,hn.symm▸n1,h vs n2⟩),R.objs,R.aP,R.inj,R.eW,R.im,R.ez,R.kG,R.cW,R.ai,R.b9⟩
theorem rz {m k:Nat}{x:FV}(hx:FR p w c x (.ref (c.ρ k))){Z:Prop}{l:List (Str×AV)}:∀{K:List (Str×AV)→Prop},lP m k x l K→(∀l',K l'→l'.map (·.1)=l.map (·.1)→(∀vs,Al p w c (l.map (·.2)) vs→Al p w c (l'.map (·.2)) vs)→Z)→Z:=by
 induction l with
 |nil=>exact λh z=>z [] h rfl λ_ r=>r
 |cons f l ih=>
  obtain ⟨y,a⟩:=f
  intro K h z
  have go:∀b,(∀v,VR p w c a v→VR p w c b v)→lP m k x l (λl=>K ((y,b)::l))→Z:=λb hb h=>ih h λl' h1 h2 h3=>z ((y,b)::l') h1 (congrArg (y :: ·) h2) λvs rv=>rv.el (P:=λvs=>Al p w c (b::l'.map λ(g:Str×AV)=>g.2) vs) λv vs ra rr=>.cons (hb v ra) (h3 vs rr)
  cases a with
  |fr u=>exact go _ (λ_ r=>r) h
  |own m' k'=>exact rp h (λh=>go (.fr x) (λv r=>.fr ((r.bc.1.trans (congrArg (λj=>Value.ref (c.ρ j)) h.1.symm)).symm▸hx)) h.2) (go _ λ_ r=>r)
def C7 (p:Program)(w:World)(h0:Heap)(fs:List Env)(cl:List (Str×Addr))(c:Cx)(L:Addr)(S:St)(K:List AV→St→Prop)(Z:Prop)(vs:List Value):Prop:=
 ∀c' as' S',K as' S'→Al p w c' as' vs→Ad p w h0 fs cl c' L S'→Am fs c S L c' S'→c'.h=c.h→S'.ai=S.ai→Z
theorem f5 {Z:Prop}{as:List AV}:∀{vs:List Value} {c:Cx} {S:St} {K:List AV→St→Prop},bU as S K→Al p w c as vs→Ad p w h0 fs cl c L S→C7 p w h0 fs cl c L S K Z vs→Z:=by
 induction as with
 |nil=>exact λ{vs c S K} h r R z=>z c [] S h (r.el (P:=λvs=>Al p w c [] vs) .nil) R (.refl ..) rfl rfl
 |cons a as ih=>
  intro vs c S K h r R z
  refine r.el (P:=λvs=>C7 p w h0 fs cl c L S K Z vs→Z) (λv vs r rs z=>?_) z
  have go:∀{a},VR p w c a v→bU as S (λas S1=>K (a::as) S1)→Z:=λr h=>ih h rs R λc2 xs S2 h2 r2 R2 E2 e2 g2=>z c2 _ S2 h2 (.cons (r.aw E2.le) r2) R2 E2 e2 g2
  cases a with
  |fr x=>exact go r h
  |own m k=>
   exact rp h (go r) λh=>cN h r R λc1 x S1 h1 r1 R1 E1 e1 g1=>
    have ev:v=.ref (c1.ρ k):=r.bc.1.trans (congrArg Value.ref (E1.le.ρ k r.bc.2).symm)
    rz (ev▸r1) h1 λloc h1 q1 q2=>
     have C8:=R1.ahD q1 q2
     ih h1 (rs.aw E1.le) C8 λc2 xs S2 h2 r2 R2 E2 e2 g2=>z c2 _ S2 h2 (.cons (.fr (r1.aw E2.le)) r2) R2 ((E1.gT (S2':={S1 with loc:=loc}) rfl rfl).trans R.kn C8.kn E2) (e2.trans e1) (g2.trans g1)
theorem ui {d:Data}{vs:List Value}(h:abl d=some vs){Z:Data→Prop}(z:∀us n,us.toList=vs→Z (.seq us n)):Z d:=by
 cases d with
 |seq us n=>exact z us n (Option.some.inj h)
 |_=>exact nS h
theorem yp {v:Value}(h:yo v=true):v=.type "tuple" := by
 cases v with
 |type T=>exact congrArg Value.type (eq_of_beq h)
 |_=>exact Bool.noConfusion h
theorem rA {G:Ah}(hG:G.Ok)(R:Ad G.prog G.w G.h0 fs cl c L S){v:Value}{x:FV}(h:adZ G.K v=some x):FR G.prog G.w c x v:=by
 cases v with
 |none=>exact Option.some.inj h▸.none
 |bool b=>exact Option.some.inj h▸.bool _
 |int=>exact Option.some.inj h▸.int _ _
 |str=>exact Option.some.inj h▸.str _ _
 |bytes=>exact Option.some.inj h▸.bytes _ _
 |ref a=>
  obtain ⟨o,ho,h⟩:=Option.bind_eq_some_iff.mp h
  have h0:=hG.nD _ _ ho
  obtain ⟨oc,od,da,sl⟩:=o
  revert h
  dsimp only
  cases hb:yo oc&&(od.isNone&&(sl.toList.isEmpty&&(abl da).any List.isEmpty)) with
  |false=>exact λh=>nS h
  |true=>
   intro h
   obtain ⟨b1,hb⟩:=Bool.and_eq_true_iff.mp hb
   obtain ⟨b2,hb⟩:=Bool.and_eq_true_iff.mp hb
   obtain ⟨b3,b4⟩:=Bool.and_eq_true_iff.mp hb
   obtain ⟨vs,hv,b4⟩:=rq (Z:=λo=>∃vs,o=some vs∧vs.isEmpty=true) b4 λvs h=>⟨vs,rfl,h⟩
   refine ui (Z:=λda=>G.h0.get? a=some ⟨oc,od,da,sl⟩→FR G.prog G.w c x (.ref a)) hv (λus n e h0=>?_) h0
   have e1:us=List.toArray []:=Array.toList_inj.mp (e.trans (List.isEmpty_iff.mp b4))
   have e2:sl=#[]:=Array.toList_inj.mp (List.isEmpty_iff.mp b3)
   rw [yp b1,Option.isNone_iff_eq_none.mp b2,e1,e2] at h0
   exact Option.some.inj h▸.az (R.b9 _ _ h0) (R.bj _ _ h0) .nil
 |_=>exact nS h
theorem pb {G:Ah}(hG:G.Ok)(R:Ad G.prog G.w G.h0 fs cl c L S){vs:List Value}:∀{xs:List FV},ru G.K vs=some xs→Aj G.prog G.w c xs vs:=by
 induction vs with
 |nil=>exact λh=>Option.some.inj h▸.nil
 |cons v vs ih=>
  intro xs h
  obtain ⟨x,hx,h⟩:=Option.bind_eq_some_iff.mp h
  obtain ⟨l,hl,h⟩:=Option.map_eq_some_iff.mp h
  exact h▸.cons (rA hG R hx) (ih hl)
theorem yq {G:Ah}(hG:G.Ok)(R:Ad G.prog G.w G.h0 fs cl c L S){v:Value}{ds:List FV}(h:dfl G.K v=some ds):∃es,Aj G.prog G.w c ds es∧∀(M:Model) (A:Around) (s:Shared) (E:Value→Shared→Prop) (Q:Option (Array Value)→Shared→Prop),s.heap=c.h→(∀r,r.getD #[]=es.toArray→Q r s)→wpAny M A (seqItems? v) Q E s:=by
 cases v with
 |none=>exact ⟨[],Option.some.inj h▸.nil,λM A s E Q _ q=>wpAny_bind (wpAny_pure (wpAny_pure (q none rfl)))⟩
 |ref a=>
  obtain ⟨o,ho,h⟩:=Option.bind_eq_some_iff.mp h
  obtain ⟨vs,hv,h⟩:=Option.bind_eq_some_iff.mp h
  obtain ⟨us,n,hd,e⟩:=ui (Z:=λd=>∃us n,d=.seq us n∧us.toList=vs) hv λus n e=>⟨us,n,rfl,e⟩
  exact ⟨us.toList,e▸pb hG R h,λM A s E Q hs q=>wpAny_seqItems (items:=us) (n:=n) (hs▸R.bj _ _ (hG.nD _ _ ho)) hd (q _ (Array.toArray_toList).symm)⟩
 |_=>exact nS h
end
def yr (vB:St→KF→KX→Prop)(E S:St)(K:KE)(X:KX):Prop:=vB E (λf S1=>match f with
 |.ret a=>arO a S S1 K
 |.next=>K (.fr .none) (S.aq S1)
 |_=>False) (λx S1=>X x (S.aq S1))
noncomputable def rB {α:Type}(x:Str)(l:List (Str×α)):List (Str×α):=l.filter λb => !(b.1==x)
def St.rC (S:St)(x:Str)(b:List (Str×AV)):St:={(S.enter (rB x b).reverse).i4 300 (.cell (b.reverse.lookup x)) with ai:=[(x,300,S.aa)]}
noncomputable def ae0 (o:Obj):Option FuncData:=match o.data with
 |.func fd=>some fd
 |_=>none
theorem yt {o:Obj}{fd:FuncData}(h:ae0 o=some fd):o.data=.func fd:=by
 obtain ⟨oc,od,da,sl⟩:=o
 cases da with
 |func fd'=>exact congrArg Data.func (Option.some.inj h)
 |_=>exact nS h
noncomputable def ae1:FuncBody→Option (List Stmt)
 |.stmts b=>some b
 |_=>none
theorem yu {b:FuncBody}{l:List Stmt}(h:ae1 b=some l):b=.stmts l:=by
 cases b with
 |stmts b=>exact congrArg FuncBody.stmts (Option.some.inj h)
 |_=>exact nS h
def am7 (G:Ah)(vZ:Scope→List Stmt→St→KF→KX→Prop)(a:Addr)(as:List AV)(S:St)(K:KE)(X:KX):Prop:=bW (G.K.lookup a) λo=>bW (ae0 o) λfd=>bW (ae1 fd.body) λbody=>cV (am6 G.K fd) <| bW (dfl G.K fd.defaults) λds=>
 bU as S λas' S1=>cV (gj (fd.params.args.map (·.arg)) as' (ds.map .fr)) (match cE fd.scope.names with
  | []=>cV ((dc (fd.params.args.map (·.arg)) as' (ds.map .fr)).all λq=>lO fd.scope.names q.1) (yr (vZ fd.scope body) (S1.enter (dc (fd.params.args.map (·.arg)) as' (ds.map .fr)).reverse) S1 K X)
  |x::r=>iT r (cV (adY fd.scope.names x&&(dc (fd.params.args.map (·.arg)) as' (ds.map .fr)).all λq=>lO fd.scope.names q.1||q.1==x) (yr (vZ fd.scope body) (S1.rC x (dc (fd.params.args.map (·.arg)) as' (ds.map .fr))) S1 K X)))
def BodyOk (G:Ah)(PE:Addr)(n:Nat)(q:Bool)(vZ:Scope→List Stmt→St→KF→KX→Prop):Prop:=
 ∀(A:Around) (fs:List Env) (env:Env) (sc:Scope) (cl:List (Str×Addr)) (L:Addr),Aq G A fs env sc cl L n q→∀(B:Nat) (body:List Stmt),Ae (AC G.prog G.w) G (PE,B) A fs cl L (vZ sc body) (execs body env)
section
variable {G:Ah} {PE:Addr} {B:Nat} {A:Around} {fs all:List Env} {cl cl':List (Str×Addr)} {L:Addr} {c c0:Cx} {S S0:St} {s:Shared} {env eR:Env} {sc iw:Scope} {n:Nat} {q:Bool}
set_option backward.match.sparseCases true in
theorem pc (eC:A.frames=some all)(Z:An fs all L)(r':Aq G (A.deeper eR) all eR iw cl' c.h.objs.size n q){vB:St→KF→KX→Prop}{body:List Stmt}(hB:∀B,Ae (AC G.prog G.w) G (PE,B) (A.deeper eR) all cl' c.h.objs.size vB (execs body eR))(aj:At G fs cl L c S s)
  {S':St} (hS:S'.objs=S.af) (R0:Ad G.prog G.w G.h0 all cl' c0 c.h.objs.size S0) (E0:Am all c S' c.h.objs.size c0 S0) {K:KE} {X:KX} {Q E:Value→Shared→Prop} (v:yr vB S0 S K X) (p:Ak (VR G.prog G.w) G fs cl L c S s K Q) (x:Ai G (PE,B) fs cl L c S s X E) (tk:Nat):
  wpAny (model G.prog G.w) (A.deeper eR) (execs body eR) (λf s'=>Q (match f with|.ret v=>v|_=>.none) s')
    (λe s'=>wpAny (model G.prog G.w) (A.deeper eR) (leaving eR e) (λ_ s''=>E e s'') (λe' s''=>E e' s'') s') {s with heap:=c0.h,toks:=tk}:=by
 have kn:∀m k o,(m,k,o)∈S'.objs→k<c.n:=λm k o h=>aj.aF.kn m k o (List.mem_append_right _ (hS▸h))
 refine hB c.h.objs.size c0 _ {s with heap:=c0.h,toks:=tk} ⟨R0,rfl⟩ _ _ _ _ v (λc1 f S1 fl aL k1 e1 R1 a8 r1=>?_) ⟨E0.size,λc1 y S1 u aL k1 e1 R1 a8 fly=>?_⟩
 ·have E1:=E0.trans kn R0.kn e1
  have kG:∀{av:AV} {u:Value} {c2:Cx} {S2:St},Ad G.prog G.w G.h0 all cl' c2 c.h.objs.size S2→Am all c S' c.h.objs.size c2 S2→c2.h=c1.h→K av (S.aq S2)→VR G.prog G.w c2 av u→Q u {s with heap:=c1.h,toks:=aL}:=λ{av u c2 S2} R2 E2 e2 k2 q2=>
   (aj.aF.xj Z R2 (Bv.of2 (Nat.le_refl _) E2 hS)).elim λR3 E3=>
   e2▸p c2 av (S.aq S2) u aL k2 E3 R3 rfl q2
  cases r1 with
  |next=>exact kG R1 E1 rfl k1 (.fr .none)
  |brk=>exact k1.elim
  |cont=>exact k1.elim
  |ret hv=>
   rename_i av u
   cases av with
   |fr y=>exact kG R1 E1 rfl k1 hv
   |own m k=>
    revert k1
    show (match Nat.blt m 100 with|true=>K (.own m k) (S.aq S1)|false=>jv (.own m k) S1 λx S2=>K (.fr x) (S.aq S2))→_
    cases Nat.blt m 100 with
    |true=>exact λk1=>kG R1 E1 rfl k1 hv
    |false=>exact λk1=>cN k1 hv R1 λc2 y S2 k2 q2 R2 E2 e2 g2=>kG R2 (E1.trans kn R1.kn E2) e2 k2 (.fr q2)
 ·exact vJ (B:=B) (s1:={s with heap:=c1.h,toks:=aL}) aj.aF Z r' R1 (Bv.of2 (Nat.le_refl _) (E0.trans kn R0.kn e1) hS) fly rfl (Nat.le_refl _) x.1 λc2 D=>x.2 c2 y (S.aq S1) u aL k1 D.E D.R rfl D.F
theorem lQ {α:Type}(l:List (Str×α))(n:Str)(v:α)(y:Str):(l++[(n,v)]).lookup y=(l.lookup y).or (if y=n then some v else none):=
 List.lookup_append.trans (congrArg (Option.or _) (dS y n _ _))
theorem yw {kindOf:Str→Option NameKind}{x:Str}(hx:kindOf x≠some .local){binds:List (Str×Value)}:∀{m0:Str→Option Value},(∀b∈binds,kindOf b.1=some .local∨b.1=x)→∀y,bindL kindOf binds m0 y=((rB x binds).reverse.lookup y).or (m0 y):=by
 induction binds with
 |nil=>exact λ_ _=>rfl
 |cons f r ih=>
  obtain ⟨n,v⟩:=f
  intro m0 h y
  unfold bindL
  rw [ih λb hb=>h b (.tail _ hb)]
  refine (h (n,v) (.head _)).elim (λhl=>?_) λhl=>?_
  ·have e:rB x ((n,v)::r)=(n,v)::rB x r:=List.filter_cons_of_pos ((congrArg not (beq_false_of_ne λe:n=x=>hx (e▸hl))).trans rfl)
   rw [e,List.reverse_cons,lQ,if_pos hl]
   cases (rB x r).reverse.lookup y with
   |some u=>rfl
   |none=>
    show (if y=n then some v else m0 y)=(if y=n then some v else none).or (m0 y)
    by_cases hy:y=n
    ·rw [if_pos hy,if_pos hy]
     rfl
    ·rw [if_neg hy,if_neg hy]
     rfl
  ·have hl:n=x:=hl
   subst hl
   have e:rB n ((n,v)::r)=rB n r:=List.filter_cons_of_neg (by simp)
   rw [e,if_neg hx]
theorem yx {kindOf:Str→Option NameKind}{x:Str}(hx:kindOf x≠some .local){binds:List (Str×Value)}:∀{m0:Str→Option Value},bindC kindOf binds m0 x=(binds.reverse.lookup x).or (m0 x):=by
 induction binds with
 |nil=>exact λ{_}=>rfl
 |cons f r ih=>
  obtain ⟨n,v⟩:=f
  intro m0
  unfold bindC
  rw [ih,List.reverse_cons,lQ]
  cases r.reverse.lookup x with
  |some u=>rfl
  |none=>
   show (if kindOf n=some NameKind.local then m0 else λy=>if y=n then some v else m0 y) x=(if x=n then some v else none).or (m0 x)
   by_cases hn:x=n
   ·rw [if_pos hn,if_neg (hn▸hx)]
    exact if_pos hn
   ·rw [if_neg hn]
    by_cases hk:kindOf n=some .local
    ·rw [if_pos hk]
     rfl
    ·rw [if_neg hk]
     exact if_neg hn
theorem AR.filter {p:Program}{w:World}{c:Cx}{x:Str}{l:List (Str×AV)}{m:List (Str×Value)}(h:AR p w c l m):AR p w c (rB x l) (rB x m):=by
 unfold rB
 induction h with
 |nil=>exact .nil
 |cons a r ih=>
  rename_i n _ _ _ _
  rw [List.filter_cons,List.filter_cons]
  by_cases h:(!(n==x))=true
  ·rw [if_pos h,if_pos h]
   exact .cons a ih
  ·rw [if_neg h,if_neg h]
   exact ih
theorem AR.rev {p:Program}{w:World}{c:Cx}{l:List (Str×AV)}{m:List (Str×Value)}(h:AR p w c l m):AR p w c l.reverse m.reverse:=by
 induction h with
 |nil=>exact .nil
 |cons a r ih=>rw [List.reverse_cons,List.reverse_cons]; exact ih.append (.cons a .nil)
theorem AR.mem {p:Program}{w:World}{c:Cx}{l:List (Str×AV)}{m:List (Str×Value)}(h:AR p w c l m){P:Str→Prop}(k:∀b∈l,P b.1):∀b∈m,P b.1:=by
 induction h with
 |nil=>exact λb hb=>nomatch hb
 |cons a r ih=>exact λb hb=>(List.mem_cons.mp hb).elim (λe=>e▸k _ (.head _)) (ih (λb hb=>k b (.tail _ hb)) b)
structure BB (G:Ah)(a:Addr)(o:Obj)(fd:FuncData)(body:List Stmt)(c:Cx)(s:Shared)(vs:List Value)(l:List (Str×AV))(b:List (Str×Value)):Prop where
 aj:G.K.lookup a=some o
 fn:o.data=.func fd
 body:fd.body=.stmts body
 O:Ch G.K fd
 bd:AR G.prog G.w c l b
 bind:BindsTo s fd ⟨vs,[]⟩ b
theorem iJ {l:List (Str×AV)}{h':Heap}(hs:c.h.objs.size≤h'.objs.size)(hk:∀b o,c.h.get? b=some o→h'.get? b=some o):Am all c (S.enter l) L {c with h:=h'} (S.enter l):=
 ⟨⟨Nat.le_refl _,λ_ _=>rfl,λ_ h=>h,λa o _ e=>hk a o e⟩,hs,λb o e _ _=>⟨o,hk b o e,.refl o⟩,λ_ h=>.inl h,λm k o h=>.inl ⟨m,o,h⟩⟩
set_option backward.match.sparseCases true in
theorem v0 (r:Run G A fs env sc cl L (n+1) q){vZ:Scope→List Stmt→St→KF→KX→Prop}(hB:BodyOk G PE n q vZ){a:Addr}{o:Obj}{fd:FuncData}{body:List Stmt}{vs:List Value}{l:List (Str×AV)}{b:List (Str×Value)}(D:BB G a o fd body c s vs l b)(aj:At G fs cl L c S s)
  (vN:cE fd.scope.names=[]) (fS:(l.all λq=>lO fd.scope.names q.1)=true) {K:KE} {X:KX} {Q E:Value→Shared→Prop} (v:yr (vZ fd.scope body) (S.enter l.reverse) S K X) (p:Ak (VR G.prog G.w) G fs cl L c S s K Q) (x:Ai G (PE,B) fs cl L c S s X E):
  codeAny (model G.prog G.w) A (.call (.ref a) ⟨vs,[]⟩) (λr s'=>match r with|.ok (.ret u)=>Q u s'|.ok _=>False|.error e=>E e s') s:=by
 have X':=aj.aF.nD r.ok aj.heap
 obtain ⟨all,eC,hz⟩:=r.frames
 have hsz:s.heap.objs.size=c.h.objs.size:=congrArg (·.objs.size) aj.heap.symm
 refine codeAny_call_def (body:=body) (Nat.lt_of_le_of_lt (by lia) r.kK.1) (X' _ _ D.aj) D.fn (r.ok.lim.keeps (aj.heap▸aj.aF.bj)) (codeRec_of X' D.O.code) D.body D.bind (gn vN) (D.bd.mem (P:=λy=>fd.scope.names.lookup y=some .local) λb hb=>gU (List.all_eq_true.mp fS b hb)) (λh₀ hn hk=>?_) D.O.co D.O.gen D.O.kind
 rw [←aj.heap] at hn hk
 rw [hsz]
 have r':Aq G (A.deeper (callEnv fd c.h.objs.size a)) all (callEnv fd c.h.objs.size a) fd.scope [] c.h.objs.size n q:=⟨r.deeper eC ⟨rfl,D.O.kind,rfl,D.O.glo,D.O.blt,D.O.clo⟩ rfl,by show A.frames.map _=_; rw [eC]; rfl,rfl⟩
 exact pc eC (r.qx eC) r' (λB=>hB _ _ _ _ _ _ r' B body) aj (S':=S.enter l.reverse) rfl (aj.aF.enter (r.qx eC) D.bd hn hk) (iJ (Nat.le_of_lt hn.lt) hk) v p x _
set_option backward.match.sparseCases true in
theorem yy (r:Run G A fs env sc cl L (n+1) q){vZ:Scope→List Stmt→St→KF→KX→Prop}(hB:BodyOk G PE n q vZ){a:Addr}{o:Obj}{fd:FuncData}{body:List Stmt}{vs:List Value}{l:List (Str×AV)}{b:List (Str×Value)}(D:BB G a o fd body c s vs l b)(aj:At G fs cl L c S s)
  {cx:Str} (vN:cE fd.scope.names=[cx]) (am8:fd.scope.names.lookup cx=some .cell) (fS:(l.all λq=>lO fd.scope.names q.1||q.1==cx)=true) {K:KE} {X:KX} {Q E:Value→Shared→Prop} (v:yr (vZ fd.scope body) (S.rC cx l) S K X) (p:Ak (VR G.prog G.w) G fs cl L c S s K Q) (x:Ai G (PE,B) fs cl L c S s X E):
  codeAny (model G.prog G.w) A (.call (.ref a) ⟨vs,[]⟩) (λr s'=>match r with|.ok (.ret u)=>Q u s'|.ok _=>False|.error e=>E e s') s:=by
 have X':=aj.aF.nD r.ok aj.heap
 obtain ⟨all,eC,hz⟩:=r.frames
 have Z:=r.qx eC
 have hsz:s.heap.objs.size=c.h.objs.size:=congrArg (·.objs.size) aj.heap.symm
 have oz:s.heap.NoLimit:=r.ok.lim.keeps (aj.heap▸aj.aF.bj)
 have am9:cellsFrom (s.heap.objs.size+1) fd.scope.names []=[(cx,s.heap.objs.size+1)]:=f4 vN
 have lk1:∀{α:Type} (z:α),([(cx,z)]:List (Str×α)).lookup cx=some z:=λz=>(dS cx cx _ _).trans (if_pos rfl)
 have hl:∀b'∈b,fd.scope.names.lookup b'.1=some .local∨b'.1=cx:=D.bd.mem (P:=λy=>fd.scope.names.lookup y=some .local∨y=cx) λb hb=>(Bool.or_eq_true_iff.mp (List.all_eq_true.mp fS b hb)).imp gU eq_of_beq
 refine codeAny_call_function (Nat.lt_of_le_of_lt (by lia) r.kK.1) (X' _ _ D.aj) D.fn D.O.co D.O.gen D.body (codeRec_of X' D.O.code) (D.bind _ _ _ _ ?_)
 rw [show fd.closure=[] from D.O.clo]
 refine wpAny_newFunctionEnv_cells D.O.kind (λb hb=>(hl b hb).imp id λ(h:b.1=cx)=>⟨h.symm▸am8,by rw [am9,h,lk1]; rfl⟩) (λeR as2 s' XC=>?_)
 subst as2
 refine ⟨oz.keeps XC.toInCall.keep,codeAny_func ?_⟩
 obtain ⟨h₀,tk,es',hk⟩:=XC.done
 have hn:=XC.toInCall.ns
 have iK:=XC.cell cx (s.heap.objs.size+1) (by show (cellsFrom _ _ _).lookup cx=_; rw [am9]; exact lk1 _)
 subst es'
 have nl:(callEnvC fd s.heap.objs.size a).kindOf cx≠some .local:=λe=>nomatch (am8.symm.trans (show fd.scope.names.lookup cx=_ from e))
 have hn:h₀.Ns s.heap.objs.size (bindL (callEnvC fd s.heap.objs.size a).kindOf b λ_=>none):=hn
 have iK:h₀.IsCell (s.heap.objs.size+1) (bindC (callEnvC fd s.heap.objs.size a).kindOf b (λ_=>none) cx):=iK
 rw [yx nl,Option.or_none] at iK
 rw [show bindL (callEnvC fd s.heap.objs.size a).kindOf b (λ_=>none)=λy=>(rB cx b).reverse.lookup y from funext λy=>(yw nl hl y).trans Option.or_none] at hn
 have hk:∀b o,s.heap.get? b=some o→h₀.get? b=some o:=hk
 show wpAny _ (A.deeper (callEnvC fd s.heap.objs.size a)) (execs body (callEnvC fd s.heap.objs.size a)) _ _ {s with heap:=h₀,toks:=tk}
 rw [hsz] at hn iK ⊢
 rw [←aj.heap] at hk
 have R0:=aj.aF.enter Z (loc:=rB cx l) D.bd.filter hn hk
 have up:∀{b},b<c.h.objs.size→c.h.objs.size+1≠b:=λhb=>Nat.ne_of_gt (Nat.lt_succ_of_lt hb)
 have P:Ac G.h0 all c.h.objs.size {c with h:=h₀} (S.enter (rB cx l).reverse) (c.h.objs.size+1):=
  ⟨iK.lt,λf=>up (aj.aF.ez _ f) rfl,Option.eq_none_iff_forall_not_mem.mpr λo q=>up (Heap.lt_size (aj.aF.bj _ o q)) rfl,Nat.succ_ne_self _,λm k o h=>up (aj.aF.aP m k o (List.mem_append_right _ h)).2.2.2.2,λh=>(Z.mem _ h).elim (λh=>up (aj.aF.cW _ h).2.2.1 rfl) λh=>(aj.aF.loc).elim λ_ q=>q.elim λm1 _=>up m1.lt h⟩
 have z:=cM (m:=300) (o:=.cell (l.reverse.lookup cx)) R0.eW R0.dO
 obtain ⟨c2,R2,l2,h2,q2,n2,f2,e2,p2⟩:=R0.uf P z.2.loc z.2.ai z.2.aa z.1 z.2.eW λc' lc q1 q2 q3 q4=>by
  refine ⟨_,by rw [q1]; exact iK,?_⟩
  rcases (D.bd.rev).kJ cx (Z:=λx y=>(x=none∧y=none)∨∃a v,x=some a∧y=some v∧VR G.prog G.w c a v) (.inl ⟨rfl,rfl⟩) (λa v hv=>.inr ⟨a,v,rfl,rfl,hv⟩) with ⟨e1,e2⟩|⟨w,u,e1,e2,hv⟩
  ·rw [e1,e2]; trivial
  ·rw [e1,e2]; exact VR.aw lc (VR.aw (iJ (Nat.le_of_lt hn.lt) hk (all:=all) (S:=S) (l:=[]) (L:=0)).le hv)
 have R3:=R2.ue (cl':=[(cx,c.h.objs.size+1)]) (cel':=[(cx,300,S.aa)]) λx m k h=>by
  cases List.mem_singleton.mp h
  exact ⟨(lk1 _).trans (congrArg some q2.symm),n2.symm▸Nat.lt_succ_self _⟩
 have E2:=(e2 c _ (iJ (Nat.le_of_lt hn.lt) hk) (λm k o h=>aj.aF.kn m k o (List.mem_append_right _ h)) (Nat.le_succ _)).gT (S2:=S.enter (rB cx l).reverse) (S2':=S.rC cx l) rfl rfl
 have r':Aq G (A.deeper (callEnvC fd c.h.objs.size a)) all (callEnvC fd c.h.objs.size a) fd.scope [(cx,c.h.objs.size+1)] c.h.objs.size n q:=⟨r.deeper eC ⟨rfl,D.O.kind,rfl,D.O.glo,D.O.blt,f4 vN⟩ rfl,by show A.frames.map _=_; rw [eC]; rfl,rfl⟩
 have z:=pc eC Z r' (λB=>hB _ _ _ _ _ _ r' B body) aj (S':=S.enter (rB cx l).reverse) rfl R3 E2 v p x tk
 rw [h2] at z
 exact z
set_option backward.match.sparseCases true in
theorem yz (r:Run G A fs env sc cl L (n+1) q){vZ:Scope→List Stmt→St→KF→KX→Prop}(hB:BodyOk G PE n q vZ){a:Addr}{as:List AV}{vs:List Value}(at0:At G fs cl L c S s)(ra:Al G.prog G.w c as vs){K:KE}{X:KX}{Q E:Value→Shared→Prop}(v:am7 G vZ a as S K X)(p0:Ak (VR G.prog G.w) G fs cl L c S s K Q)(x0:Ai G (PE,B) fs cl L c S s X E):
  codeAny (model G.prog G.w) A (.call (.ref a) ⟨vs,[]⟩) (λr s'=>match r with|.ok (.ret u)=>Q u s'|.ok _=>False|.error e=>E e s') s:=by
 refine au v λo ho v=>au v λfd hf v=>au v λbody hb v=>aG v λhok v=>au v λds hds v=>f5 v ra at0.aF λc1 as1 S1 v ra1 R1 E1 h1 g1=>aG v λhbo v=>?_
 have O:=vY hok
 have aj:=at0.same R1 h1
 obtain ⟨es,rd,hde⟩:=yq r.ok R1 hds
 have D:BB G a o fd body c1 s vs _ _:=⟨ho,yt hf,yu hb,O,AR.bind (names:=fd.params.args.map (·.arg)) ra1 (Al.ofF rd),gk (s:=s) O.args ((AR.ok ra1 (Al.ofF rd)).symm.trans hbo) λM A E Q q=>hde M A s E Q aj.heap.symm q⟩
 cases vN:cE fd.scope.names with
 |nil=>
  rw [vN] at v
  exact aG v λfS v=>v0 r hB D aj vN fS v (p0.same at0 R1 E1 g1 h1) (x0.same at0 R1 E1 g1 h1)
 |cons cx rr=>
  rw [vN] at v
  exact dF (Z:=λrr=>cE fd.scope.names=cx::rr→_) v (λv vN=>aG v λfS v=>yy r hB D aj vN (yn (Bool.and_eq_true_iff.mp fS).1) (Bool.and_eq_true_iff.mp fS).2 v (p0.same at0 R1 E1 g1 h1) (x0.same at0 R1 E1 g1 h1)) vN
end
def jX (T:St→(Bool→St→Prop)→KX→Prop)(Bd:St→KF→KX→Prop):Nat→St→KF→KX→Prop
 |0,_,_,_=>False
 |n+1,S,K,X=>T S (λb S1=>match b with
  |false=>K .next S1
  |true=>Bd S1 (λf S2=>match f with
   |.next=>jX T Bd n S2 K X
   |.cont=>jX T Bd n S2 K X
   |.brk=>K .next S2
   |.ret v=>K (.ret v) S2) X) X
theorem abm (vt:Bf)(vs:Bo)(dX:Expr)(body:List Stmt)(n:Nat):jX (vt dX) (dD vs body) n=vWh vt vs dX body n:=by
 induction n with
 |zero=>rfl
 |succ n ih=>
  funext S K X
  unfold jX vWh
  rw [ih]
  all_goals rfl
abbrev BK:=(St→(Bool→St→Prop)→KX→Prop)→(St→KF→KX→Prop)→St→KF→KX→Prop
def Bk (L:BK):Prop:=∀T Bd S K X,L T Bd S K X→∃n,jX T Bd n S K X
structure Cf where
 G:Ah
 PE:Addr
 own:Addr→Nat×Nat
 i9:Pos→Nat
 gR:List Addr
 f6:Bool→Addr→Option (List AV→St→KE→KX→Prop)
 mK:Pos→AX
 jY:Pos→AI
 mL:Pos→BK
 ja:Pos→SubL
noncomputable def ae2:Expr→Option (Option Expr×Option Expr)
 |.Slice lo hi none _=>some (lo,hi)
 |_=>none
theorem yA {e:Expr}{x:Option Expr×Option Expr}(h:ae2 e=some x){Z:Expr→Prop}(z:∀p,Z (.Slice x.1 x.2 none p)):Z e:=by
 cases e with
 |Slice lo hi st p=>cases st with
  |none=>cases Option.some.inj h; exact z p
  |some=>exact nS h
 |_=>exact nS h
def onD {α:Type}(o:Option α)(f:α→Prop)(P:Prop):Prop:=match o with
 |some x=>f x
 |none=>P
theorem yB {α:Type}{o:Option α}{f:α→Prop}{P Z:Prop}(h:onD o f P)(k:∀x,o=some x→f x→Z)(k':P→Z):Z:=by
 cases o with
 |some x=>exact k x rfl h
 |none=>exact k' h
def ahE (C:Cf)(vE:VE)(value ba:Expr)(pos:Pos)(S:St)(K:KE)(X:KX):Prop:=onD (ae2 ba) (λb=>xQ vE (C.i9 pos) value b.1 b.2 S K X) (cV (d7 ba) (vE value S (λa S1=>vE ba S1 (λb S2=>C.ja pos a b S2 K) X) X))
def ama (vE:VE)(l:Expr)(wC:List CmpOp)(rs:List Expr)(S:St)(K:KE)(X:KX):Prop:=wJ wC λop=>wJ rs λr=>vOk (behindInMarks op r) (vE l S (λa S1=>vE r S1 (λb S2=>u' op a b S2 λt=>K (.fr (.bool t)) S2) X) X)
def ahF (C:Cf)(q:Bool)(vc:Au)(vE:VE)(fe:Expr)(es:List Expr)(ks:List Keyword)(pos:Pos)(S:St)(K:KE)(X:KX):Prop:=iT ks (match fe with
  |.Name x np=>vE (.Name x np) S (λf S1=>ab3 C.G vE vc (ahq C.G q) (ahr (C.i9 pos)) es f [] S1 K X) X
  |.Attribute o name kM=>xJ C.G vE vc (ahq C.G q) (ahr (C.i9 pos)) o name kM pos es S K X
  |_=>False)
noncomputable def yC:Comprehension→Option (Expr×Expr×List Expr)
 |⟨target,iter,fT,.ofNat 0⟩=>some (target,iter,fT)
 |_=>none
theorem pd {g:Comprehension}{x:Expr×Expr×List Expr}(h:yC g=some x):g=⟨x.1,x.2.1,x.2.2,0⟩:=by
 obtain ⟨t,i,f,a⟩:=g
 cases a with
 |ofNat n=>cases n with
  |zero=>cases Option.some.inj h; rfl
  |succ=>exact nS h
 |negSucc=>exact nS h
def ahG (C:Cf)(f:Bool)(sc:Scope)(vEf:Scope→VE)(vtf:Scope→Bf)(vE:VE)(dk:Expr)(gens:List Comprehension)(scope:Scope)(pos:Pos)(S:St)(K:KE)(X:KX):Prop:=cV f (wJ gens λg=>bW (yC g) λg=>lN C.G sc (C.jY pos) vEf vtf vE (C.i9 pos) dk g.1 g.2.1 g.2.2 scope S K X)
def er (C:Cf)(q:Bool)(vc:Au):Nat→Bool→Scope→VE
 |0=>λ_ _ _ _ _ _=>False
 |k+1=>λf sc e S K X=>match e with
  |.Constant c _ _=>w5 c S K
  |.Name x _=>adI C.G sc x S K
  |.BinOp l op r pos=>er C q vc k f sc l S (λa S1=>er C q vc k f sc r S1 (λb S2=>aaV (C.i9 pos) op a b S2 K) X) X
  |.UnaryOp op e _=>er C q vc k f sc e S (λa S1=>vUn op a S1 K) X
  |.BoolOp op es _=>ix (er C q vc k f sc) op es S K X
  |.Compare l wC rs _=>ama (er C q vc k f sc) l wC rs S K X
  |.Subscript value ba pos=>ahE C (er C q vc k f sc) value ba pos S K X
  |.Attribute value bY _=>cV (gM value) (er C q vc k f sc value S (λa S1=>xi C.G vc a bY S1 K) X)
  |.IfExp t b o _=>vT (er C q vc k f sc) k t S (λr S1=>match r with|true=>er C q vc k f sc b S1 K X|false=>er C q vc k f sc o S1 K X) X
  |.List es pos=>adJ (er C q vc k f sc) (C.i9 pos) es S K X
  |.Tuple es _ _=>alK (er C q vc k f sc) es S K X
  |.Dict ks vs pos=>adP (er C q vc k f sc) (C.i9 pos) ks vs S K X
  |.Call fe es ks pos=>ahF C q vc (er C q vc k f sc) fe es ks pos S K X
  |.ListComp dk gens scope pos=>ahG C f sc (λiw=>er C q vc k false iw) (λiw=>vT (er C q vc k false iw) k) (er C q vc k f sc) dk gens scope pos S K X
  |_=>False
section
variable {C:Cf} {n:Nat} {q:Bool} {vc:Au}
theorem yD (hcm:∀p,AA (C.jY p))(hsu:∀p,Aw (C.ja p))(hC:∀B,Ag C.G (C.PE,B) n q vc)(k:Nat):∀{f:Bool} {sc:Scope} {A:Around} {fs:List Env} {env:Env} {cl:List (Str×Addr)} {L:Addr},Run C.G A fs env sc cl L (n+1) q→(f=true→q=true∧A.frames=some (env::fs)∧env.frame=some L)→
  ∀(B:Nat) (e:Expr),Ae (VR C.G.prog C.G.w) C.G (C.PE,B) A fs cl L (er C q vc k f sc e) (eval e env):=by
 induction k with
 |zero=>exact λ_ _ _ _=>Ae.no λ_ _ _ v=>v
 |succ k ih=>
  intro f sc A fs env cl L r hf B e
  have hE:=ih (sc:=sc) (f:=f) r hf
  have hT:∀B j e,Ae BR C.G (C.PE,B) A fs cl L (vT (er C q vc k f sc) j e) (isTrue e env (eval e env)):=λB j e=>tI r.u2 (hE B) j e
  cases e with
  |Constant c j pos=>exact u4 c j pos
  |Name x pos=>exact w7 r x pos
  |BinOp l op rr pos=>exact xr (C.i9 pos) l rr op pos (hE B l) (hE B rr)
  |UnaryOp op e pos=>exact ab1 op e pos (hE B e)
  |BoolOp op es pos=>exact qA op pos es λe _=>hE B e
  |Compare l wC rs pos=>
   exact λc S s a K X Q E v=>dT (P:=λwC=>Ak _ C.G fs cl L c S s K Q→Ai C.G (C.PE,B) fs cl L c S s X E→wpAny (model C.G.prog C.G.w) A (eval (.Compare l wC rs pos) env) Q E s) v λop v=>dT (P:=λrs=>Ak _ C.G fs cl L c S s K Q→Ai C.G (C.PE,B) fs cl L c S s X E→wpAny (model C.G.prog C.G.w) A (eval (.Compare l [op] rs pos) env) Q E s) v λrr v=>
    xu r.u2 l rr op pos (cg v).1 (hE B l) (hE B rr) c S s a K X Q E (cg v).2
  |Subscript value ba pos=>
   exact λc S s a K X Q E v=>yB v (λb hb v=>yA (Z:=λba=>Ak _ C.G fs cl L c S s K Q→Ai C.G (C.PE,B) fs cl L c S s X E→wpAny (model C.G.prog C.G.w) A (eval (.Subscript value ba pos) env) Q E s) hb λp=>qM (C.i9 pos) value b.1 b.2 p pos (hE B value) (λe _=>hE B e) (λe _=>hE B e) c S s a K X Q E v) λv=>aG v λhn v=>
    xw (hsu pos) value ba pos hn (hE B value) (hE B ba) c S s a K X Q E v
  |Attribute value bY pos=>exact λc S s a K X Q E v=>aG v λhn v=>vf r (hC B) value bY pos hn (hE B value) c S s a K X Q E v
  |IfExp t b o pos=>exact qy t b o pos (hT B k t) (hE B b) (hE B o)
  |List es pos=>exact xe es λe _=>hE B e
  |Tuple es j pos=>exact aaT es λe _=>hE B e
  |Dict ks vs pos=>exact vA r (C.i9 pos) ks vs pos λe _=>hE B e
  |Call fe es ks pos=>
   refine λc S s a K X Q E v=>dF (Z:=λks=>Ak _ C.G fs cl L c S s K Q→Ai C.G (C.PE,B) fs cl L c S s X E→wpAny (model C.G.prog C.G.w) A (eval (.Call fe es ks pos) env) Q E s) v λv=>?_
   cases fe with
   |Name x np=>exact qB r (hC B) xN (xO _) x np pos es (hE B _) (λe _=>hE B e) c S s a K X Q E v
   |Attribute o name kM=>exact qG r (hC B) xN (xO _) o name kM pos es (hE B _) (λe _=>hE B e) c S s a K X Q E v
   |_=>exact v.elim
  |ListComp dk gens scope pos=>
   refine λc S s a K X Q E v=>aG v λhft v=>dT (P:=λgens=>Ak _ C.G fs cl L c S s K Q→Ai C.G (C.PE,B) fs cl L c S s X E→wpAny (model C.G.prog C.G.w) A (eval (.ListComp dk gens scope pos) env) Q E s) v λg v=>au v λx hx v=>?_
   obtain ⟨hq,h1,h2⟩:=hf hft
   subst hq hft
   rw [pd hx]
   exact vW (vEf:=λiw=>er C true vc k false iw) (vtf:=λiw=>vT (er C true vc k false iw) k) ⟨r,h1,h2⟩ (hcm _) hE (λA' fs' eR cl' C' r'=>
    have hE':=ih (f:=false) r' λh=>Bool.noConfusion h
    ⟨hE',λB e=>tI r'.u2 (hE' B) k e⟩) c S s a K X Q E v
  |_=>exact Ae.no λ_ _ _ v=>v
end
noncomputable def yE:Expr→Option (Expr×List Comprehension×Scope×Pos)
 |.ListComp dk gens scope pos=>some (dk,gens,scope,pos)
 |_=>none
theorem v4 {e:Expr}{x:Expr×List Comprehension×Scope×Pos}(h:yE e=some x):e=.ListComp x.1 x.2.1 x.2.2.1 x.2.2.2:=by
 cases e with
 |ListComp=>cases Option.some.inj h; rfl
 |_=>exact nS h
def ae3 (m:Sem Bool)(P:Prop):Prop:=match m with
 |.pure b=>cV b P
 |_=>False
theorem yF {m:Sem Bool}{P Z:Prop}(h:ae3 m P)(k:m=pure true→P→Z):Z:=by
 cases m with
 |pure b=>exact aG h λe=>k (e▸rfl)
 |_=>exact h.elim
def ae4 (C:Cf)(q:Bool)(sc:Scope)(vEf:Scope→VE)(vtf:Scope→Bf)(vE:VE)(t value:Expr)(pos:Pos)(S:St)(K:KF)(X:KX):Prop:=match q with
 |false=>cV (tQ t&&fJ value) (vE value S (λa S1=>qS C.G sc vE t a S1 (λS2=>K .next S2) X) X)
 |true=>match ow t value with
  |true=>mD C.G sc vE t value S (λS1=>K .next S1) X
  |false=>gm t λy py=>bW (yE value) λg=>wJ g.2.1 λu=>bW (yC u) λz=>ae3 (swapsWith (.ListComp g.1 [⟨z.1,z.2.1,z.2.2,0⟩] g.2.2.1 g.2.2.2) (some (.Name y py)) pos.line (tP sc)) (lN C.G sc (C.jY g.2.2.2) vEf vtf vE (C.i9 g.2.2.2) g.1 z.1 z.2.1 z.2.2 g.2.2.1 S (λa S1=>fi sc y a S1 λS2=>K .next S2) X)
def yG (C:Cf)(gx:Bool→Au):Nat→Bool→Scope→Bo
 |0=>λ_ _ _ _ _ _=>False
 |k+1=>λq sc st S K X=>match st with
  |.Expr e _=>cV (fJ e) (er C q (gx q) k q sc e S (λ_ S1=>K .next S1) X)
  |.Return o _=>match o with
   |some e=>er C q (gx q) k q sc e S (λa S1=>K (.ret a) S1) X
   |none=>K (.ret (.fr .none)) S
  |.Pass _=>K .next S
  |.Break _=>K .brk S
  |.If t b o _=>vT (er C q (gx q) k q sc) k t S (λr S1=>match r with
   |true=>dD (yG C gx k q sc) b S1 K X
   |false=>dD (yG C gx k q sc) o S1 K X) X
  |.Assign ts value pos=>wJ ts λt=>ae4 C q sc (λiw=>er C q (gx q) k false iw) (λiw=>vT (er C q (gx q) k false iw) k) (er C q (gx q) k q sc) t value pos S K X
  |.AugAssign t op e _=>match t with
   |.Name x _=>adR sc (er C q (gx q) k q sc) x op e S (λS1=>K .next S1) X
   |.Attribute o bY _=>adS C.G (er C q (gx q) k q sc) (gx q) o bY op e S (λS1=>K .next S1) X
   |_=>False
  |.For target iter body o pos=>cV q (iT o (adV C.G sc (C.mK pos) (er C true (gx true) k true sc) (yG C gx k true sc) target iter body (yk C.G sc (er C true (gx true) k true sc) target) S K X))
  |.While dX body o pos=>iT o (C.mL pos (vT (er C q (gx q) k q sc) k dX) (dD (yG C gx k q sc) body) S K X)
  |.Raise e o _=>cV q (ahx o (bW e λe=>ya C.PE (er C true (gx true) k true sc) e S X))
  |.Try body dQ o dJ _=>iT dJ (match dQ with
   |h0::hs=>am0 C.PE C.gR sc k (yG C gx k q sc) (er C false (gx false) k false sc) (vT (er C false (gx false) k false sc) k) (yG C gx k false sc) body (h0::hs) o S K X
   | []=>False)
  |_=>False
section
variable {C:Cf} {n:Nat} {gx:Bool→Au}
theorem v5 {env:Env}{sc:Scope}(h:env.scope=sc)(dk:Expr)(gens:List Comprehension)(scope:Scope)(mH py:Pos)(y:Str)(k:Nat):swapsWith (.ListComp dk gens scope mH) (some (.Name y py)) k env=swapsWith (.ListComp dk gens scope mH) (some (.Name y py)) k (tP sc):=by
 subst h
 rfl
theorem mM {G:Ah}{PE:Addr×Nat}{A:Around}{fs:List Env}{cl:List (Str×Addr)}{L:Addr}{env:Env}{sc:Scope}{n:Nat}{q:Bool}{vE:VE}(r:Run G A fs env sc cl L n q)(hE:∀e,Ae (VR G.prog G.w) G PE A fs cl L (vE e) (eval e env))(t value:Expr)(pos:Pos)(ht:tQ t=true)(hn:fJ value=true):
  Ae (AC G.prog G.w) G PE A fs cl L (λS K X=>vE value S (λa S1=>qS G sc vE t a S1 (λS2=>K .next S2) X) X) (exec (.Assign [t] value pos) env):=by
 intro c S s a K X Q E v p x
 have hea:(assignEach [t] env).map (·.2)=[assign t env]:=by
  cases t with
  |Name|Attribute|Subscript=>rfl
  |_=>exact Bool.noConfusion ht
 refine tT (Bool.or_eq_true_iff.mpr (.inl hn)) (hE value c S s a _ X _ E v (λc1 b S1 u aL k1 e1 R1 a8 r1=>?_) x)
 rw [lD ht]
 refine wpAny_pure ?_
 show wpAny _ A (do assignAll u ((assignEach [t] env).map (·.2)); pure .next) Q E _
 rw [hea]
 exact wpAny_bind (jl (PE:=PE) r hE t (a.ak R1 aL) r1 (λ_ S2=>K .next S2) X _ E k1 (λc2 _ S2 _ bG k2 e2 R2 cj _=>wpAny_pure ((p.ak a.aF R1 e1 a8 aL) c2 .next S2 .next bG k2 e2 R2 cj .next)) (x.ak a.aF R1 e1 a8 aL))
abbrev BV (C:Cf)(A:Around)(fs:List Env)(cl:List (Str×Addr))(L:Addr)(c:Cx)(S:St)(s:Shared)(K:KF)(X:KX)(Q:Flow→Shared→Prop)(E:Value→Shared→Prop)(B:Nat)(env:Env)(st:Stmt):Prop:=
 Ak (AC C.G.prog C.G.w) C.G fs cl L c S s K Q→Ai C.G (C.PE,B) fs cl L c S s X E→wpAny (model C.G.prog C.G.w) A (exec st env) Q E s
theorem yH (hcm:∀p,AA (C.jY p))(hsu:∀p,Aw (C.ja p))(hfo:∀p,AK (C.mK p))(hwh:∀p,Bk (C.mL p))(hC:∀q B,Ag C.G (C.PE,B) n q (gx q))(Z:Bu C.G C.PE)(Y2:BH C.G C.PE)(hN:∀a,a∈C.gR→B7 C.G C.PE a)(k:Nat):∀{q:Bool} {sc:Scope} {A:Around} {fs:List Env} {env:Env} {cl:List (Str×Addr)} {L:Addr},Aq C.G A fs env sc cl L (n+1) q→
  ∀(B:Nat) (st:Stmt),Ae (AC C.G.prog C.G.w) C.G (C.PE,B) A fs cl L (yG C gx k q sc st) (exec st env):=by
 induction k with
 |zero=>exact λ_ _ _=>Ae.no λ_ _ _ v=>v
 |succ k ih=>
  intro q sc A fs env cl L r B st
  have hE:=yD (k:=k) (f:=q) hcm hsu (hC q) r.run λh=>⟨h,r.wW,r.frm⟩
  have hT:∀B j e,Ae BR C.G (C.PE,B) A fs cl L (vT (er C q (gx q) k q sc) j e) (isTrue e env (eval e env)):=λB j e=>tI r.run.u2 (hE B) j e
  have hS:∀B l,Ae (AC C.G.prog C.G.w) C.G (C.PE,B) A fs cl L (dD (yG C gx k q sc) l) (execs l env):=λB l=>my l λst _=>ih r B st
  have hF:∀{q sc A fs env cl L},Run C.G A fs env sc cl L (n+1) q→(∀B e,Ae (VR C.G.prog C.G.w) C.G (C.PE,B) A fs cl L (er C q (gx q) k false sc e) (eval e env))∧∀B e,Ae BR C.G (C.PE,B) A fs cl L (vT (er C q (gx q) k false sc) k e) (isTrue e env (eval e env)):=λ{q _ _ _ _ _ _} r=>
   have h:=yD (k:=k) (f:=false) hcm hsu (hC q) r λh=>Bool.noConfusion h
   ⟨h,λB e=>tI r.u2 (h B) k e⟩
  cases st with
  |Expr e pos=>exact λc S s a K X Q E v=>aG v λhn v=>vh r.run e pos hn (hE B e) c S s a K X Q E v
  |Return o pos=>
   cases o with
   |some e=>exact nX e pos (hE B e)
   |none=>exact mz pos
  |Pass pos=>exact vg pos
  |Break pos=>exact qz pos
  |If t b o pos=>exact ab2 t b o pos (hT B k t) (hS B b) (hS B o)
  |Assign ts value pos=>
   refine λc S s a K X Q E v=>dT (P:=λts=>BV C A fs cl L c S s K X Q E B env (.Assign ts value pos)) v λt v=>?_
   cases q with
   |false=>exact aG v λhb v=>mM r.run (hE B) t value pos (Bool.and_eq_true_iff.mp hb).1 (Bool.and_eq_true_iff.mp hb).2 c S s a K X Q E v
   |true=>
    unfold ae4 at v
    cases hb:ow t value with
    |true=>
     rw [hb] at v
     exact mE r.run (hE B) t value pos hb c S s a K X Q E v
    |false=>
     rw [hb] at v
     refine dA (Z:=λt=>BV C A fs cl L c S s K X Q E B env (.Assign [t] value pos)) v λy py v=>au v λg hg v=>?_
     rw [v4 hg]
     obtain ⟨dk,gens,scope,mH⟩:=g
     refine dT (P:=λgens=>BV C A fs cl L c S s K X Q E B env (.Assign [.Name y py] (.ListComp dk gens scope mH) pos)) v λu v=>au v λz hz v=>yF v λhsw v=>?_
     rw [pd hz]
     exact mJ (vEf:=λiw=>er C true (gx true) k false iw) (vtf:=λiw=>vT (er C true (gx true) k false iw) k) r (hcm _) hE (λA' fs' eR cl' C' r'=>hF r') ((v5 r.run.env.gd ..).trans hsw) c S s a K X Q E v
  |AugAssign t op e pos=>
   intro c S s a K X Q E v
   cases t with
   |Name x np=>exact vH r.run _ _ pos op e (hE B e) c S s a K X Q E v
   |Attribute o bY ap=>exact vI r.run (hC q B) (hE B) _ _ _ pos op e c S s a K X Q E v
   |_=>exact v.elim
  |For target iter body o pos=>
   refine λc S s a K X Q E v=>aG v λhq v=>dF (Z:=λo=>BV C A fs cl L c S s K X Q E B env (.For target iter body o pos)) v λvv=>?_
   subst hq
   exact vS r (hfo _) target iter body pos hE (λB=>hS B body) c S s a K X Q E vv
  |While dX body o pos=>
   refine λc S s a K X Q E v=>dF (Z:=λo=>BV C A fs cl L c S s K X Q E B env (.While dX body o pos)) v λv=>?_
   obtain ⟨N,v⟩:=hwh _ _ _ _ _ _ v
   rw [abm] at v
   exact qW r dX body pos (λB=>hT B k dX) (λB=>hS B body) c S s a K X Q E ⟨N,v⟩
  |Raise e o pos=>
   refine λc S s a K X Q E v=>aG v λhq v=>tZ (Z:=λo=>BV C A fs cl L c S s K X Q E B env (.Raise e o pos)) v λv=>au v λe he vv=>?_
   subst hq he
   exact q8 r Z hE _ pos c S s a K X Q E vv
  |Try body dQ o dJ pos=>
   refine λc S s a K X Q E v=>dF (Z:=λdJ=>BV C A fs cl L c S s K X Q E B env (.Try body dQ o dJ pos)) v λv=>?_
   cases dQ with
   |nil=>exact v.elim
   |cons h0 hs=>exact yh r Z Y2 hN (λw B e=>(hF (r.mark w).run).1 B e) (λw B e=>(hF (r.mark w).run).2 B e) (λw B e p=>ih (r.mark w) B (.Expr e p)) k body _ _ o pos (λB=>hS B body) (λB=>hS B o) c S s a K X Q E v
  |_=>exact Ae.no λ_ _ _ v=>v
noncomputable abbrev gV:Nat:=60
noncomputable def amb (o:Obj):Bool:=match o.data with
 |.cls _=>true
 |_=>false
def ao (C:Cf):Nat→Bool→Au
 |0=>λq f args S K X=>qZ f λa=>bW (C.f6 q a) λT=>bU args S λas S1=>T as S1 K X
 |n+1=>λq f args S K X=>qZ f λa=>onD (C.f6 q a) (λT=>bU args S λas S1=>T as S1 K X) (bW (C.G.K.lookup a) λo=>onB (amb o) (adX C.G C.own (ao C n q) a args S K) (am7 C.G (λsc body=>dD (yG C (λq=>ao C n q) gV q sc) body) a args S K X))
def only (a:Addr)(T:List AV→St→KE→KX→Prop):Au:=λf args S K X=>qZ f λb=>a=b∧T args S K X
structure AB (C:Cf)(l:Nat):Prop where
 k:Bu C.G C.PE
 g:BH C.G C.PE
 n:∀a,a∈C.gR→B7 C.G C.PE a
 cm:∀p,AA (C.jY p)
 fo:∀p,AK (C.mK p)
 wh:∀p,Bk (C.mL p)
 su:∀p,Aw (C.ja p)
 f6:∀q a T B,C.f6 q a=some T→Ag C.G (C.PE,B) l q (only a T)
theorem Ag.up {G:Ah}{PE:Addr×Nat}{n:Nat}{q:Bool}{vc:Au}(h:Ag G PE n q vc)(m:Nat):Ag G PE (n+m) q vc:=by
 induction m with
 |zero=>exact h
 |succ m ih=>exact λA fs env sc cl L r=>ih A fs env sc cl L r.less
set_option backward.match.sparseCases true in
theorem lR {G:Ah}{PE:Addr×Nat}{l:Nat}{q:Bool}{a:Addr}{T:List AV→St→KE→KX→Prop}(h:Ag G PE l q (only a T)){A:Around}{fs:List Env}{env:Env}{sc:Scope}{cl:List (Str×Addr)}{L:Addr}(r:Run G A fs env sc cl L l q){v:Value}{args:List AV}{vs:List Value}{c:Cx}{S:St}{s:Shared}
  (aj:At G fs cl L c S s) (hf:VR G.prog G.w c (.fr (.lit (.ref a))) v) (hv:Al G.prog G.w c args vs) {K:KE} {X:KX} {Q E:Value→Shared→Prop} (k:bU args S λas S1=>T as S1 K X) (p:Ak (VR G.prog G.w) G fs cl L c S s K Q) (x:Ai G PE fs cl L c S s X E):
  codeAny (model G.prog G.w) A (.call v ⟨vs,[]⟩) (λr s'=>match r with|.ok (.ret u)=>Q u s'|.ok _=>False|.error e=>E e s') s:=
 f5 k hv aj.aF λc1 as S1 k1 r1 R1 E1 e1 g1=>h A fs env sc cl L r (.fr (.lit (.ref a))) v as vs c1 S1 s (aj.same R1 e1) (hf.aw E1.le) r1 K X Q E ⟨rfl,k1⟩ (p.same aj R1 E1 g1 e1) (x.same aj R1 E1 g1 e1)
theorem jm {f:AV}{P:Addr→Prop}(h:qZ f P){Z:AV→Prop}(z:∀a,P a→Z (.fr (.lit (.ref a)))):Z f:=
 aZ (P:=Z) h λx h=>d5 (P:=λx=>Z (.fr x)) h λv h=>jO (Z:=λv=>Z (.fr (.lit v))) h z
theorem pe {l:Nat}(Z:AB C l)(n:Nat):∀(q:Bool) (B:Nat),Ag C.G (C.PE,B) (l+2*n) q (ao C n q):=by
 induction n with
 |zero=>
  intro q B A fs env sc cl L r f v args vs c S s a hf hv K X Q E k p x
  exact jm (Z:=λf=>VR C.G.prog C.G.w c f v→_) k (λfa k hf=>au k λT hT k=>lR (Z.f6 q fa T B hT) r a hf hv k p x) hf
 |succ n ih=>
  intro q B A fs env sc cl L r f v args vs c S s a hf hv K X Q E k p x
  refine jm (Z:=λf=>VR C.G.prog C.G.w c f v→_) k (λfa k hf=>yB k (λT hT k=>lR ((Z.f6 q fa T B hT).up (2*(n+1))) r a hf hv k p x) λk=>au k λo ho k=>?_) hf
  have r2:Run C.G A fs env sc cl L (l+2*n+2) q:=r
  rw [hf.dg (P:=λv=>v=.ref fa) rfl]
  exact rp k (λk=>ym r2.less (ih q B) a hv k p x) λk=>yz (n:=l+2*n+1) r2 (λA fs env sc cl L r' B body=>my body λst _=>yH Z.cm Z.su Z.fo Z.wh (λq B=>ih q B) Z.k Z.g Z.n gV r' B st) a hv k p x
end
set_option backward.match.sparseCases true
noncomputable abbrev TP:Program:=Challenge.pw_rh0185_01
theorem Ci:Challenge.pw_rh0185_01=TP:=rfl
noncomputable def ahH:List Stmt→Nat→Stmt
 | [],_=>.Pass ⟨0,0,0,0⟩
 |x::r,n=>match n with
  |0=>x
  |n+1=>ahH r n
def aK (i:Nat):Stmt:=ahH TP.main.body i
def aE (i j:Nat):Stmt:=match aK i with
 |.ClassDef _ _ _ b _ _ _ _ _ _ _=>ahH b j
 |s=>s
noncomputable def pg (c:Value)(st:Stmt)(q:Str)(g:Nat)(dflt kw doc mod code ct:Value):Obj:=match st with
 |.FunctionDef name args b _ _ _ sc _ _ _=>⟨c,none,.func {name:=name,qualname:=q,params:=args,body:=.stmts b,scope:=sc,globals:=g,closure:=[],defaults:=dflt,kwdefaults:=kw,doc:=doc,pyModule:=mod,annotations:=none,code:=code,closureTuple:=ct,builtins:=0},⟨[]⟩⟩
 |_=>⟨c,none,.plain,⟨[]⟩⟩
noncomputable def ik (name:Str)(bases mro:List Value)(ns:Nat)(q:Str)(ja:List Value):ClassData:={name:=name,bases:=bases,mro:=mro,ns:=ns,qualname:=q,hasDict:=true,slotNames:=[],subclasses:=ja,abstract:=false,collection:=none,hasDel:=false}
noncomputable def ke (P:Params)(z:Str)(t:Nat)(v:Value):DictEntry:=⟨PyData.keyHash P z,.str z t,v⟩
noncomputable abbrev iv (n t:Nat):Value:=.int (Int.ofNat n) t
noncomputable abbrev sv (s:Str)(t:Nat):Value:=.str s t
noncomputable abbrev rv (a:Nat):Value:=.ref a
noncomputable abbrev tv (s:String):Value:=.type s
noncomputable abbrev bv (s:String):Value:=.builtin s
noncomputable abbrev nv:Value:=.none
noncomputable def zd:Nat→Nat→List Nat→List Nat
 |0,_,a=>a
 |k+1,n,a=>zd k (n / 256) (n % 256::a)
def zs (k n:Nat):Str:=⟨⟨zd k n []⟩⟩
def z0:Str:=zs 8 0x5f5f6e616d655f5f
def z1:Str:=zs 13 0x6c61775f7268303138355f3031
def z2:Str:=zs 7 0x5f5f646f635f5f
def z3:Str:=zs 11 0x5f5f7061636b6167655f5f
def z4:Str:=zs 10 0x5f5f6c6f616465725f5f
def z5:Str:=zs 8 0x5f5f737065635f5f
def z6:Str:=zs 15 0x5f5f616e6e6f746174696f6e735f5f
def z7:Str:=zs 12 0x5f5f6275696c74696e735f5f
def z8:Str:=zs 8 0x5f5f66696c655f5f
def z9:Str:=zs 13 0x2f636c61696d2f6375742e7079
def z10:Str:=zs 10 0x5f5f6361636865645f5f
def z11:Str:=zs 5 0x5f77616c6c
def z12:Str:=zs 5 0x475241494e
def kI:Str:=zs 9 0x506f73744572726f72
def uj:Str:=zs 7 0x50734572726f72
def uk:Str:=zs 4 0x51756974
def z16:Str:=zs 7 0x42616454657874
def z17:Str:=zs 9 0x6f63746574735f6f66
def z18:Str:=zs 8 0x52554e5f4f4e4c59
def z19:Str:=zs 9 0x524541445f4f4e4c59
def z20:Str:=zs 9 0x554e4c494d49544544
def z21:Str:=zs 5 0x5468696e67
def z22:Str:=zs 4 0x54657874
def z23:Str:=zs 3 0x526f77
def z24:Str:=zs 4 0x5370616e
def v6:Str:=zs 7 0x696e7465676572
def dp:Str:=zs 4 0x7265616c
def z27:Str:=zs 7 0x626f6f6c65616e
def z28:Str:=zs 4 0x6e616d65
def z29:Str:=zs 14 0x6f70657261746f725f7468696e67
def z30:Str:=zs 6 0x6f665f726f77
def z31:Str:=zs 9 0x69735f6e756d626572
def z32:Str:=zs 13 0x696e5f6d696c6c696f6e746873
def z33:Str:=zs 11 0x69735f696e5f6172726179
def z34:Str:=zs 7 0x69735f70726f63
def z35:Str:=zs 9 0x6163636573735f6f66
def z36:Str:=zs 8 0x63616e5f72656164
def z37:Str:=zs 9 0x63616e5f7772697465
def z38:Str:=zs 7 0x63616e5f72756e
def z39:Str:=zs 10 0x636865636b5f70617274
def z40:Str:=zs 7 0x706172745f6f66
def z41:Str:=zs 9 0x776974685f7370616e
def z42:Str:=zs 12 0x69735f746578745f7370616e
def z43:Str:=zs 4 0x6974656d
def z44:Str:=zs 14 0x6f63746574735f6f665f7370616e
def z45:Str:=zs 14 0x7468696e67735f6f665f7370616e
def z46:Str:=zs 12 0x7468696e675f6f6374657473
def z47:Str:=zs 6 0x6b65795f6f66
def z48:Str:=zs 11 0x4f63746574536f75726365
def z49:Str:=zs 10 0x46495253545f53454544
def iV:Str:=zs 5 0x4672616d65
def z51:Str:=zs 9 0x50726f634672616d65
def z52:Str:=zs 11 0x536f757263654672616d65
def z53:Str:=zs 10 0x5468696e674672616d65
def z54:Str:=zs 14 0x6d616368696e655f6c6f6f6b7570
def z55:Str:=zs 11 0x4d616368696e65436f7265
def ul:Str:=zs 9 0x4c6f6f704672616d65
def z57:Str:=zs 7 0x6f705f65786974
def z58:Str:=zs 9 0x4d4f53545f5245414c
def z59:Str:=zs 7 0x64697669646564
def z60:Str:=zs 12 0x636865636b65645f7265616c
def z61:Str:=zs 12 0x4d41545249585f5041525453
def z62:Str:=zs 15 0x6d61747269785f71756f7469656e74
def z63:Str:=zs 6 0x636f6e636174
def z64:Str:=zs 11 0x64657465726d696e616e74
def z65:Str:=zs 12 0x6e6565645f726567756c6172
def z66:Str:=zs 9 0x7472616e73666f726d
def z67:Str:=zs 13 0x696e76657273655f64656c7461
def z68:Str:=zs 17 0x696e76657273655f7472616e73666f726d
def z69:Str:=zs 9 0x6d61747269785f6f66
def z70:Str:=zs 9 0x524f575f4b494e4453
def z71:Str:=zs 5 0x537461636b
def z72:Str:=zs 4 0x6e656564
def z73:Str:=zs 9 0x7065656b5f6b696e64
def z74:Str:=zs 18 0x737461636b5f636865636b5f616363657373
def z75:Str:=zs 14 0x737461636b5f706f705f6b696e64
def z76:Str:=zs 15 0x706f705f7265616c5f76616c756573
def z77:Str:=zs 7 0x706f705f726f77
def z78:Str:=zs 8 0x706f705f70726f63
def z79:Str:=zs 12 0x7061696e745f706f696e7473
def z80:Str:=zs 10 0x7061696e745f74656c6c
def z81:Str:=zs 9 0x6f705f6d6f7665746f
def z82:Str:=zs 9 0x6f705f6c696e65746f
def z83:Str:=zs 10 0x6f705f6375727665746f
def z84:Str:=zs 12 0x6f705f636c6f736570617468
def z85:Str:=zs 9 0x506174684672616d65
def z86:Str:=zs 13 0x6f705f70617468666f72616c6c
def z87:Str:=zs 13 0x67735f706f705f6d6174726978
def z88:Str:=zs 8 0x67735f6168656164
def z89:Str:=zs 9 0x6f705f636f6e636174
def z90:Str:=zs 9 0x4d4f53545f524f5753
def z91:Str:=zs 4 0x50617468
def z92:Str:=zs 9 0x706174685f6d6f7265
def z93:Str:=zs 12 0x4753544154455f4d49544552
def z94:Str:=zs 6 0x475374617465
def z95:Str:=zs 9 0x4d4f53545f434f5354
def z96:Str:=zs 6 0x4c696d697473
def z97:Str:=zs 11 0x5f6c61775f677261696e73
def z98:Str:=zs 10 0x5f6c61775f776f726473
def z99:Str:=zs 9 0x5f6c61775f74616773
def rD:Str:=zs 10 0x5f6c61775f73697a6573
def rE:Str:=zs 10 0x5f6c61775f6e616d6573
def rF:Str:=zs 9 0x5f6c61775f64726177
def rG:Str:=zs 10 0x5f6c61775f7370616365
def rH:Str:=zs 9 0x5f6c61775f6e656172
def rI:Str:=zs 8 0x5f6c61775f776179
def rJ:Str:=zs 7 0x5f6c61775f6f6e
def rK:Str:=zs 9 0x5f6c61775f6261636b
def rL:Str:=zs 10 0x5f6c61775f6168656164
def rM:Str:=zs 12 0x5f6c61775f726f775f6c6564
def rN:Str:=zs 8 0x5f6c61775f707574
def rO:Str:=zs 9 0x5f6c61775f64656564
def rP:Str:=zs 15 0x5f6c61775f647261776e5f70617468
def rQ:Str:=zs 10 0x5f6c61775f6172726179
def rR:Str:=zs 9 0x5f6c61775f70726f63
def rS:Str:=zs 9 0x5f6c61775f6c696573
def rT:Str:=zs 13 0x5f6c61775f6172655f73616d65
def rU:Str:=zs 15 0x5f6c61775f69735f72656675736564
def rV:Str:=zs 17 0x5f6c61775f676f65735f7468726f756768
def rW:Str:=zs 17 0x5f6c61775f69735f6d6164655f616e6577
def v7:Str:=zs 3 0x6c6177
def amc:Str:=zs 8 0x6275696c74696e73
def as3:Str:=zs 15 0x5f5f6275696c645f636c6173735f5f
def as4:Str:=zs 10 0x5f5f696d706f72745f5f
def amd:Str:=zs 3 0x616273
def ame:Str:=zs 3 0x616c6c
def as5:Str:=zs 3 0x616e79
def as6:Str:=zs 5 0x6173636969
def as7:Str:=zs 3 0x62696e
def as8:Str:=zs 10 0x627265616b706f696e74
def as9:Str:=zs 8 0x63616c6c61626c65
def asa:Str:=zs 3 0x636872
def asb:Str:=zs 7 0x636f6d70696c65
def asc:Str:=zs 7 0x64656c61747472
def asd:Str:=zs 3 0x646972
def amf:Str:=zs 6 0x6469766d6f64
def ase:Str:=zs 4 0x6576616c
def asf:Str:=zs 4 0x65786563
def asg:Str:=zs 6 0x666f726d6174
def ash:Str:=zs 7 0x67657461747472
def abn:Str:=zs 7 0x676c6f62616c73
def asi:Str:=zs 7 0x68617361747472
def asj:Str:=zs 4 0x68617368
def asl:Str:=zs 3 0x686578
def asm:Str:=zs 2 0x6964
def asn:Str:=zs 5 0x696e707574
def amg:Str:=zs 10 0x6973696e7374616e6365
def aso:Str:=zs 10 0x6973737562636c617373
def asp:Str:=zs 4 0x69746572
def asq:Str:=zs 5 0x6169746572
def amh:Str:=zs 3 0x6c656e
def asr:Str:=zs 6 0x6c6f63616c73
def ami:Str:=zs 3 0x6d6178
def ass:Str:=zs 3 0x6d696e
def abo:Str:=zs 4 0x6e657874
def ast:Str:=zs 5 0x616e657874
def asu:Str:=zs 3 0x6f6374
def asv:Str:=zs 3 0x6f7264
def asw:Str:=zs 3 0x706f77
def asx:Str:=zs 5 0x7072696e74
def asy:Str:=zs 4 0x72657072
def asz:Str:=zs 5 0x726f756e64
def asA:Str:=zs 7 0x73657461747472
def asB:Str:=zs 6 0x736f72746564
def asC:Str:=zs 3 0x73756d
def asD:Str:=zs 4 0x76617273
def asE:Str:=zs 4 0x4e6f6e65
def asF:Str:=zs 8 0x456c6c6970736973
def asG:Str:=zs 14 0x4e6f74496d706c656d656e746564
def asH:Str:=zs 5 0x46616c7365
def asI:Str:=zs 4 0x54727565
def asJ:Str:=zs 4 0x626f6f6c
def asK:Str:=zs 10 0x6d656d6f727976696577
def asL:Str:=zs 9 0x627974656172726179
def asM:Str:=zs 5 0x6279746573
def asN:Str:=zs 11 0x636c6173736d6574686f64
def asO:Str:=zs 7 0x636f6d706c6578
def asP:Str:=zs 4 0x64696374
def asQ:Str:=zs 9 0x656e756d6572617465
def asR:Str:=zs 6 0x66696c746572
def asS:Str:=zs 5 0x666c6f6174
def asT:Str:=zs 9 0x66726f7a656e736574
def asU:Str:=zs 8 0x70726f7065727479
def amj:Str:=zs 3 0x696e74
def amk:Str:=zs 4 0x6c697374
def asV:Str:=zs 3 0x6d6170
def asW:Str:=zs 6 0x6f626a656374
def aml:Str:=zs 5 0x72616e6765
def yI:Str:=zs 8 0x7265766572736564
def asX:Str:=zs 3 0x736574
def asY:Str:=zs 5 0x736c696365
def asZ:Str:=zs 12 0x7374617469636d6574686f64
def at2:Str:=zs 3 0x737472
def at3:Str:=zs 5 0x7375706572
def amm:Str:=zs 5 0x7475706c65
def at4:Str:=zs 4 0x74797065
def amn:Str:=zs 3 0x7a6970
def at5:Str:=zs 9 0x5f5f64656275675f5f
def at6:Str:=zs 13 0x42617365457863657074696f6e
def at7:Str:=zs 18 0x42617365457863657074696f6e47726f7570
def at8:Str:=zs 9 0x457863657074696f6e
def at9:Str:=zs 13 0x47656e657261746f7245786974
def ata:Str:=zs 17 0x4b6579626f617264496e74657272757074
def atb:Str:=zs 10 0x53797374656d45786974
def atc:Str:=zs 15 0x41726974686d657469634572726f72
def atd:Str:=zs 14 0x417373657274696f6e4572726f72
def ate:Str:=zs 14 0x4174747269627574654572726f72
def atf:Str:=zs 11 0x4275666665724572726f72
def atg:Str:=zs 8 0x454f464572726f72
def ath:Str:=zs 11 0x496d706f72744572726f72
def ati:Str:=zs 11 0x4c6f6f6b75704572726f72
def atj:Str:=zs 11 0x4d656d6f72794572726f72
def atk:Str:=zs 9 0x4e616d654572726f72
def atl:Str:=zs 7 0x4f534572726f72
def atm:Str:=zs 14 0x5265666572656e63654572726f72
def atn:Str:=zs 12 0x52756e74696d654572726f72
def ato:Str:=zs 18 0x53746f704173796e63497465726174696f6e
def atp:Str:=zs 13 0x53746f70497465726174696f6e
def atq:Str:=zs 11 0x53796e7461784572726f72
def atr:Str:=zs 11 0x53797374656d4572726f72
def ats:Str:=zs 9 0x547970654572726f72
def atu:Str:=zs 10 0x56616c75654572726f72
def atv:Str:=zs 7 0x5761726e696e67
def atw:Str:=zs 18 0x466c6f6174696e67506f696e744572726f72
def atx:Str:=zs 13 0x4f766572666c6f774572726f72
def aty:Str:=zs 17 0x5a65726f4469766973696f6e4572726f72
def atz:Str:=zs 12 0x42797465735761726e696e67
def atA:Str:=zs 18 0x4465707265636174696f6e5761726e696e67
def atB:Str:=zs 15 0x456e636f64696e675761726e696e67
def atC:Str:=zs 13 0x4675747572655761726e696e67
def atD:Str:=zs 13 0x496d706f72745761726e696e67
def atE:Str:=zs 25 0x50656e64696e674465707265636174696f6e5761726e696e67
def atF:Str:=zs 15 0x5265736f757263655761726e696e67
def atG:Str:=zs 14 0x52756e74696d655761726e696e67
def atH:Str:=zs 13 0x53796e7461785761726e696e67
def atI:Str:=zs 14 0x556e69636f64655761726e696e67
def atJ:Str:=zs 11 0x557365725761726e696e67
def atK:Str:=zs 15 0x426c6f636b696e67494f4572726f72
def atL:Str:=zs 17 0x4368696c6450726f636573734572726f72
def atM:Str:=zs 15 0x436f6e6e656374696f6e4572726f72
def atN:Str:=zs 15 0x46696c654578697374734572726f72
def atO:Str:=zs 17 0x46696c654e6f74466f756e644572726f72
def atP:Str:=zs 16 0x496e7465727275707465644572726f72
def atQ:Str:=zs 17 0x4973414469726563746f72794572726f72
def atR:Str:=zs 18 0x4e6f74414469726563746f72794572726f72
def atS:Str:=zs 15 0x5065726d697373696f6e4572726f72
def atT:Str:=zs 18 0x50726f636573734c6f6f6b75704572726f72
def atU:Str:=zs 12 0x54696d656f75744572726f72
def atV:Str:=zs 16 0x496e64656e746174696f6e4572726f72
def atW:Str:=zs 21 0x5f496e636f6d706c657465496e7075744572726f72
def atX:Str:=zs 10 0x496e6465784572726f72
def atY:Str:=zs 8 0x4b65794572726f72
def atZ:Str:=zs 19 0x4d6f64756c654e6f74466f756e644572726f72
def au0:Str:=zs 19 0x4e6f74496d706c656d656e7465644572726f72
def au1:Str:=zs 23 0x507974686f6e46696e616c697a6174696f6e4572726f72
def au2:Str:=zs 14 0x526563757273696f6e4572726f72
def au3:Str:=zs 17 0x556e626f756e644c6f63616c4572726f72
def au4:Str:=zs 12 0x556e69636f64654572726f72
def au5:Str:=zs 15 0x42726f6b656e506970654572726f72
def au6:Str:=zs 22 0x436f6e6e656374696f6e41626f727465644572726f72
def au7:Str:=zs 22 0x436f6e6e656374696f6e526566757365644572726f72
def au8:Str:=zs 20 0x436f6e6e656374696f6e52657365744572726f72
def au9:Str:=zs 8 0x5461624572726f72
def aua:Str:=zs 18 0x556e69636f64654465636f64654572726f72
def aub:Str:=zs 18 0x556e69636f6465456e636f64654572726f72
def auc:Str:=zs 21 0x556e69636f64655472616e736c6174654572726f72
def aud:Str:=zs 14 0x457863657074696f6e47726f7570
def aue:Str:=zs 16 0x456e7669726f6e6d656e744572726f72
def auf:Str:=zs 7 0x494f4572726f72
def aug:Str:=zs 4 0x6f70656e
def auh:Str:=zs 4 0x71756974
def aui:Str:=zs 4 0x65786974
def auj:Str:=zs 9 0x636f70797269676874
def auk:Str:=zs 7 0x63726564697473
def aul:Str:=zs 7 0x6c6963656e7365
def aum:Str:=zs 4 0x68656c70
def yJ:Str:=zs 8 0x5f5f6d61696e5f5f
def abp:Str:=zs 8 0x3c6d6f64756c653e
def aun:Str:=zs 31 0x747970652e5f5f737562636c61737365735f5f2e457863657074696f6e2e30
def auo:Str:=zs 31 0x747970652e5f5f737562636c61737365735f5f2e457863657074696f6e2e6e
def ft:Str:=zs 13 0x706f7374636f72652e62617365
def aup:Str:=zs 1 0x6b
def bH:Str:=zs 10 0x5f5f6d6f64756c655f5f
def ef:Str:=zs 12 0x5f5f7175616c6e616d655f5f
def bI:Str:=zs 15 0x5f5f66697273746c696e656e6f5f5f
def bh:Str:=zs 8 0x5f5f696e69745f5f
def bJ:Str:=zs 21 0x5f5f7374617469635f617474726962757465735f5f
def aB:Str:=zs 4 0x73656c66
def v8:Str:=zs 4 0x746f6c64
def ahI:Str:=zs 18 0x506f73744572726f722e5f5f696e69745f5f
def dq:Str:=zs 11 0x5f5f7765616b7265665f5f
def br:Str:=zs 16 0x706f7374636f72652e6f626a65637473
def rX:Str:=zs 4 0x6b696e64
def ph:Str:=zs 5 0x76616c7565
def kT:Str:=zs 7 0x69735f65786563
def mN:Str:=zs 6 0x616363657373
def ahJ:Str:=zs 14 0x5468696e672e5f5f696e69745f5f
def dK:Str:=zs 8 0x5f5f646963745f5f
def cQ:Str:=zs 6 0x6e756d626572
def mO:Str:=zs 6 0x6f6374657473
def fU:Str:=zs 9 0x69735f676c6f62616c
def jZ:Str:=zs 5 0x6c6576656c
def ahK:Str:=zs 13 0x546578742e5f5f696e69745f5f
def bK:Str:=zs 6 0x7468696e6773
def ahL:Str:=zs 12 0x526f772e5f5f696e69745f5f
def mP:Str:=zs 4 0x626f6479
def j1:Str:=zs 5 0x7374617274
def cR:Str:=zs 4 0x6d616e79
def ahM:Str:=zs 13 0x5370616e2e5f5f696e69745f5f
def amo:Str:=zs 10 0x6d696c6c696f6e746873
def auq:Str:=zs 5 0x7472757468
def dM:Str:=zs 3 0x726f77
def bi:Str:=zs 5 0x7468696e67
def mQ:Str:=zs 4 0x7370616e
def eG:Str:=zs 2 0x6174
def pi:Str:=zs 16 0x706f7374636f72652e7363616e6e6572
def aN:Str:=zs 16 0x706f7374636f72652e6d616368696e65
def v9:Str:=zs 5 0x706c616365
def ahN:Str:=zs 4 0x6261636b
def ahO:Str:=zs 20 0x4f63746574536f757263652e5f5f696e69745f5f
def ahP:Str:=zs 17 0x4f63746574536f757263652e706c616365
def ahQ:Str:=zs 16 0x4f63746574536f757263652e6e657874
def ahR:Str:=zs 16 0x4f63746574536f757263652e6261636b
def aur:Str:=zs 7 0x69735f746f6c64
def dY:Str:=zs 4 0x73746570
def yK:Str:=zs 4 0x6c656674
def eg:Str:=zs 4 0x776f7264
def ahS:Str:=zs 14 0x4672616d652e5f5f696e69745f5f
def b7:Str:=zs 7 0x6d616368696e65
def ahT:Str:=zs 10 0x4672616d652e73746570
def ahU:Str:=zs 10 0x4672616d652e6c656674
def ahV:Str:=zs 11 0x4672616d652e7468696e67
def ahW:Str:=zs 12 0x4672616d652e7468696e6773
def kU:Str:=zs 4 0x70726f63
def ahX:Str:=zs 18 0x50726f634672616d652e5f5f696e69745f5f
def amp:Str:=zs 4 0x68657265
def ahY:Str:=zs 14 0x50726f634672616d652e73746570
def ahZ:Str:=zs 15 0x50726f634672616d652e7468696e67
def ai0:Str:=zs 16 0x50726f634672616d652e7468696e6773
def ai1:Str:=zs 6 0x736f75726365
def amq:Str:=zs 4 0x66696c65
def wa:Str:=zs 4 0x74657874
def ai2:Str:=zs 20 0x536f757263654672616d652e5f5f696e69745f5f
def ai3:Str:=zs 16 0x536f757263654672616d652e73746570
def ai4:Str:=zs 17 0x536f757263654672616d652e7468696e67
def ai5:Str:=zs 18 0x536f757263654672616d652e7468696e6773
def amr:Str:=zs 4 0x68656c64
def ai6:Str:=zs 19 0x5468696e674672616d652e5f5f696e69745f5f
def ai7:Str:=zs 15 0x5468696e674672616d652e73746570
def ai8:Str:=zs 16 0x5468696e674672616d652e7468696e67
def ai9:Str:=zs 17 0x5468696e674672616d652e7468696e6773
def pj:Str:=zs 5 0x666f756e64
def abq:Str:=zs 5 0x626567696e
def abr:Str:=zs 10 0x707573685f6672616d65
def abt:Str:=zs 4 0x64726f70
def abu:Str:=zs 10 0x6375745f6672616d6573
def abv:Str:=zs 8 0x6375745f66726f6d
def abw:Str:=zs 10 0x6672616d65735f726f77
def abx:Str:=zs 14 0x706c6163655f6f665f6672616d65
def aby:Str:=zs 4 0x73746f70
def abz:Str:=zs 5 0x7472616365
def abA:Str:=zs 12 0x707573685f6f706572616e64
def abB:Str:=zs 3 0x6d6574
def abC:Str:=zs 7 0x65786563757465
def abD:Str:=zs 8 0x72756e5f70726f63
def abE:Str:=zs 10 0x72756e5f736f75726365
def abF:Str:=zs 6 0x6c6f6f6b7570
def abG:Str:=zs 8 0x76616c75655f6f66
def abH:Str:=zs 8 0x72756e5f6e616d65
def abI:Str:=zs 4 0x63616c6c
def abJ:Str:=zs 7 0x7363616e6e6564
def abK:Str:=zs 4 0x74656c6c
def abL:Str:=zs 6 0x6661696c6564
def pk:Str:=zs 5 0x676f5f6f6e
def abM:Str:=zs 3 0x72756e
def mR:Str:=zs 5 0x626567756e
def abN:Str:=zs 8 0x72756e5f646f776e
def abO:Str:=zs 9 0x72756e5f7468696e67
def abP:Str:=zs 7 0x696e7374616c6c
def pn:Str:=zs 6 0x6d656d6f7279
def jb:Str:=zs 8 0x6f706572616e6473
def mS:Str:=zs 5 0x6469637473
def yL:Str:=zs 7 0x7363616e6e6572
def wb:Str:=zs 6 0x6c696d697473
def yM:Str:=zs 4 0x6469736b
def aia:Str:=zs 20 0x4d616368696e65436f72652e5f5f696e69745f5f
def aib:Str:=zs 17 0x4d616368696e65436f72652e626567696e
def yN:Str:=zs 5 0x6672616d65
def aic:Str:=zs 22 0x4d616368696e65436f72652e707573685f6672616d65
def aid:Str:=zs 16 0x4d616368696e65436f72652e64726f70
def aie:Str:=zs 22 0x4d616368696e65436f72652e6375745f6672616d6573
def aif:Str:=zs 20 0x4d616368696e65436f72652e6375745f66726f6d
def aig:Str:=zs 22 0x4d616368696e65436f72652e6672616d65735f726f77
def aus:Str:=zs 5 0x776f726473
def aut:Str:=zs 8 0x6261727269657273
def aih:Str:=zs 26 0x4d616368696e65436f72652e706c6163655f6f665f6672616d65
def aii:Str:=zs 16 0x4d616368696e65436f72652e73746f70
def aij:Str:=zs 17 0x4d616368696e65436f72652e7472616365
def aik:Str:=zs 24 0x4d616368696e65436f72652e707573685f6f706572616e64
def ail:Str:=zs 15 0x4d616368696e65436f72652e6d6574
def aim:Str:=zs 19 0x4d616368696e65436f72652e65786563757465
def ain:Str:=zs 20 0x4d616368696e65436f72652e72756e5f70726f63
def aio:Str:=zs 22 0x4d616368696e65436f72652e72756e5f736f75726365
def aip:Str:=zs 18 0x4d616368696e65436f72652e6c6f6f6b7570
def aiq:Str:=zs 20 0x4d616368696e65436f72652e76616c75655f6f66
def air:Str:=zs 20 0x4d616368696e65436f72652e72756e5f6e616d65
def ams:Str:=zs 3 0x616374
def pq:Str:=zs 4 0x6b657074
def ais:Str:=zs 5 0x6572726f72
def ait:Str:=zs 16 0x4d616368696e65436f72652e63616c6c
def aiu:Str:=zs 19 0x4d616368696e65436f72652e7363616e6e6564
def aiv:Str:=zs 16 0x4d616368696e65436f72652e74656c6c
def aiw:Str:=zs 18 0x4d616368696e65436f72652e6661696c6564
def aix:Str:=zs 16 0x4d616368696e65436f72652e73746570
def yO:Str:=zs 10 0x6d6f73745f7374657073
def yP:Str:=zs 5 0x6465707468
def abQ:Str:=zs 4 0x6c617374
def aiy:Str:=zs 17 0x4d616368696e65436f72652e676f5f6f6e
def aiz:Str:=zs 15 0x4d616368696e65436f72652e72756e
def aiA:Str:=zs 17 0x4d616368696e65436f72652e626567756e
def aiB:Str:=zs 20 0x4d616368696e65436f72652e72756e5f646f776e
def aiC:Str:=zs 21 0x4d616368696e65436f72652e72756e5f7468696e67
def auu:Str:=zs 6 0x7461626c6573
def aiD:Str:=zs 19 0x4d616368696e65436f72652e696e7374616c6c
def rY:Str:=zs 7 0x63757272656e74
def aiE:Str:=zs 6 0x646576696365
def aiF:Str:=zs 6 0x6572726f7273
def aiG:Str:=zs 5 0x6661756c74
def rZ:Str:=zs 5 0x66696c6573
def aiH:Str:=zs 5 0x666f6e7473
def se:Str:=zs 6 0x6672616d6573
def aiI:Str:=zs 2 0x6773
def aiJ:Str:=zs 6 0x67737461636b
def aiK:Str:=zs 10 0x69735f7061636b696e67
def aiL:Str:=zs 10 0x69735f73746f70706564
def aiM:Str:=zs 3 0x6f7574
def aiN:Str:=zs 6 0x72616e646f6d
def aiO:Str:=zs 9 0x7265736f7572636573
def abR:Str:=zs 5 0x7374657073
def sf:Str:=zs 6 0x73797374656d
def aiP:Str:=zs 5 0x7461626c65
def aiQ:Str:=zs 6 0x747261636572
def aiR:Str:=zs 4 0x75736572
def aiS:Str:=zs 16 0x706f7374636f72652e6e756d62657273
def mT:Str:=zs 19 0x706f7374636f72652e636f6e74726f6c6f7073
def si:Str:=zs 8 0x6861735f6d6f7265
def sj:Str:=zs 11 0x626567696e5f726f756e64
def aiT:Str:=zs 18 0x4c6f6f704672616d652e5f5f696e69745f5f
def aiU:Str:=zs 18 0x4c6f6f704672616d652e6861735f6d6f7265
def aiV:Str:=zs 21 0x4c6f6f704672616d652e626567696e5f726f756e64
def aiW:Str:=zs 16 0x4c6f6f704672616d652e7468696e6773
def aiX:Str:=zs 14 0x4c6f6f704672616d652e73746570
def cX:Str:=zs 15 0x706f7374636f72652e737461636b73
def wc:Str:=zs 2 0x6279
def amt:Str:=zs 4 0x73697a65
def auv:Str:=zs 5 0x7061727473
def pu:Str:=zs 17 0x706f7374636f72652e6d61747269636573
def aW:Str:=zs 1 0x6d
def auw:Str:=zs 1 0x6e
def mU:Str:=zs 1 0x78
def mV:Str:=zs 1 0x79
def gW:Str:=zs 5 0x6172726179
def aiY:Str:=zs 6 0x7061636b6564
def abS:Str:=zs 4 0x70757368
def abT:Str:=zs 8 0x707573685f616c6c
def abU:Str:=zs 3 0x706f70
def abV:Str:=zs 3 0x746f70
def pw:Str:=zs 4 0x74616b65
def abW:Str:=zs 3 0x637574
def abX:Str:=zs 6 0x726f6c6c6564
def abY:Str:=zs 7 0x746f5f6d61726b
def yQ:Str:=zs 8 0x736e617073686f74
def abZ:Str:=zs 8 0x7075745f6261636b
def gp:Str:=zs 4 0x6d6f7374
def aiZ:Str:=zs 14 0x537461636b2e5f5f696e69745f5f
def aj0:Str:=zs 10 0x537461636b2e6d616e79
def aj1:Str:=zs 10 0x537461636b2e70757368
def aj2:Str:=zs 14 0x537461636b2e707573685f616c6c
def aj3:Str:=zs 9 0x537461636b2e706f70
def aj4:Str:=zs 8 0x537461636b2e6174
def aj5:Str:=zs 9 0x537461636b2e746f70
def aj6:Str:=zs 10 0x537461636b2e74616b65
def aj7:Str:=zs 9 0x537461636b2e637574
def aj8:Str:=zs 12 0x537461636b2e726f6c6c6564
def aj9:Str:=zs 13 0x537461636b2e746f5f6d61726b
def aja:Str:=zs 14 0x537461636b2e736e617073686f74
def ajb:Str:=zs 14 0x537461636b2e7075745f6261636b
def gq:Str:=zs 16 0x706f7374636f72652e706174686f7073
def ac0:Str:=zs 3 0x776179
def aux:Str:=zs 6 0x69735f6c6574
def auy:Str:=zs 5 0x6b696e6473
def auz:Str:=zs 4 0x72656164
def gs:Str:=zs 7 0x6e756d62657273
def mW:Str:=zs 5 0x706f696e74
def mX:Str:=zs 3 0x6f6e65
def auA:Str:=zs 3 0x74776f
def ac1:Str:=zs 14 0x706f7374636f72652e67736f7073
def jc:Str:=zs 4 0x726f7773
def px:Str:=zs 5 0x70726f6373
def ajc:Str:=zs 18 0x506174684672616d652e5f5f696e69745f5f
def ajd:Str:=zs 16 0x506174684672616d652e7468696e6773
def aje:Str:=zs 18 0x506174684672616d652e6861735f6d6f7265
def ajf:Str:=zs 21 0x506174684672616d652e626567696e5f726f756e64
def yR:Str:=zs 5 0x636c6f7365
def yS:Str:=zs 5 0x6375727665
def yT:Str:=zs 4 0x6c696e65
def yU:Str:=zs 4 0x6d6f7665
def dG:Str:=zs 14 0x706f7374636f72652e7061746873
def ac2:Str:=zs 8 0x69735f656d707479
def pA:Str:=zs 4 0x636f7079
def ac3:Str:=zs 5 0x636c656172
def ac4:Str:=zs 9 0x6e6565645f726f6f6d
def ac5:Str:=zs 8 0x7075745f726f7773
def ac6:Str:=zs 6 0x626f756e6473
def ac7:Str:=zs 9 0x666c617474656e6564
def ac8:Str:=zs 11 0x7472616e73666f726d6564
def ajg:Str:=zs 13 0x506174682e5f5f696e69745f5f
def ajh:Str:=zs 9 0x506174682e726f7773
def aji:Str:=zs 13 0x506174682e69735f656d707479
def ajj:Str:=zs 12 0x506174682e63757272656e74
def ajk:Str:=zs 9 0x506174682e636f7079
def ajl:Str:=zs 10 0x506174682e636c656172
def ajm:Str:=zs 14 0x506174682e6e6565645f726f6f6d
def ajn:Str:=zs 9 0x506174682e6d6f7665
def ajo:Str:=zs 10 0x506174682e676f5f6f6e
def ajp:Str:=zs 9 0x506174682e6c696e65
def auB:Str:=zs 2 0x7831
def auC:Str:=zs 2 0x7931
def auD:Str:=zs 2 0x7832
def auE:Str:=zs 2 0x7932
def auF:Str:=zs 2 0x7833
def auG:Str:=zs 2 0x7933
def ajq:Str:=zs 10 0x506174682e6375727665
def ajr:Str:=zs 10 0x506174682e636c6f7365
def ajs:Str:=zs 13 0x506174682e7075745f726f7773
def ajt:Str:=zs 11 0x506174682e626f756e6473
def ac9:Str:=zs 8 0x666c61746e657373
def aju:Str:=zs 14 0x506174682e666c617474656e6564
def ajv:Str:=zs 13 0x506174682e7265766572736564
def we:Str:=zs 6 0x6d6174726978
def ajw:Str:=zs 16 0x506174682e7472616e73666f726d6564
def gX:Str:=zs 16 0x706f7374636f72652e67737461746573
def aca:Str:=zs 5 0x7265736574
def acb:Str:=zs 5 0x626f726e65
def acd:Str:=zs 3 0x70656e
def ace:Str:=zs 8 0x6e65775f70617468
def acf:Str:=zs 6 0x6e6172726f77
def acg:Str:=zs 5 0x776964656e
def yV:Str:=zs 6 0x636f6c6f7572
def ajx:Str:=zs 15 0x4753746174652e5f5f696e69745f5f
def kW:Str:=zs 5 0x6f74686572
def ajy:Str:=zs 11 0x4753746174652e636f7079
def ajz:Str:=zs 11 0x4753746174652e74616b65
def ajA:Str:=zs 12 0x4753746174652e7265736574
def ajB:Str:=zs 12 0x4753746174652e626f726e65
def ajC:Str:=zs 10 0x4753746174652e70656e
def ajD:Str:=zs 15 0x4753746174652e6e65775f70617468
def auH:Str:=zs 4 0x72756c65
def ajE:Str:=zs 13 0x4753746174652e6e6172726f77
def ajF:Str:=zs 12 0x4753746174652e776964656e
def ajG:Str:=zs 3 0x636170
def ajH:Str:=zs 4 0x636c6970
def sk:Str:=zs 4 0x64617368
def ajI:Str:=zs 11 0x646173685f6f6666736574
def ajJ:Str:=zs 4 0x666f6e74
def ajK:Str:=zs 11 0x69735f61646a7573746564
def ajL:Str:=zs 12 0x69735f6f7665727072696e74
def ajM:Str:=zs 4 0x6a6f696e
def ajN:Str:=zs 5 0x6d69746572
def so:Str:=zs 4 0x70617468
def ajO:Str:=zs 5 0x7769647468
def ach:Str:=zs 15 0x706f7374636f72652e6d656d6f7279
def aci:Str:=zs 5 0x7361766573
def acj:Str:=zs 7 0x67737461746573
def ack:Str:=zs 7 0x656e7472696573
def acl:Str:=zs 2 0x766d
def ajP:Str:=zs 15 0x4c696d6974732e5f5f696e69745f5f
def bM:Str:=zs 1 0x6c
def bN:Str:=zs 1 0x63
def bk:Str:=zs 1 0x7a
def yW:Str:=zs 4 0x74617065
def auI:Str:=zs 5 0x6469676974
def amu:Str:=zs 4 0x72657374
def auJ:Str:=zs 5 0x77686f6c65
def jd:Str:=zs 5 0x7370616365
def auK:Str:=zs 6 0x6163726f7373
def auL:Str:=zs 2 0x7570
def amv:Str:=zs 5 0x6168656164
def auM:Str:=zs 4 0x6c656164
def sq (l:List Value):Obj:=⟨(tv SL.s2766695959194262286x5),none,.seq ⟨l⟩ 0,⟨[]⟩⟩
def eT:Obj:=sq []
def eF:Obj:=⟨nv,none,.fields ⟨[]⟩,⟨[]⟩⟩
noncomputable def svs:Nat→List Str→List Value
 |_,[]=>[]
 |k,z::r=>sv z k::svs (k+1) r
def sn (k:Nat)(l:List Str):Obj:=sq (svs k l)
noncomputable abbrev S.t0:String:=SL.s17162191345867700912x4
noncomputable abbrev S.t1:String:=SL.s14018661285674007319x4
noncomputable abbrev S.t2:String:=SL.s2742458400755230247x6
noncomputable abbrev S.t3:String:=SL.s5856160107412720595x4
noncomputable abbrev S.t4:String:=SL.s11030030927630378310x26
noncomputable abbrev S.t5:String:=SL.s14755015743595814543x17
noncomputable abbrev S.t6:String:=SL.s658472552662922059x5
noncomputable abbrev S.t7:String:=SL.s4290257624100764138x5
noncomputable abbrev S.t8:String:=SL.s11443829558043349243x14
noncomputable abbrev S.t9:String:=SL.s10062305145149207511x16
noncomputable abbrev S.lS:String:=SL.s4860613602091757760x24
noncomputable abbrev S.pC:String:=SL.s7174869446012820540x8
noncomputable abbrev S.wf:String:=SL.s5946037652744460706x9
noncomputable abbrev S.wE:String:=SL.s10220274742760427390x26
noncomputable abbrev S.yX:String:=SL.s6511155373996960695x17
noncomputable abbrev S.yY:String:=SL.s12411053484034534018x21
noncomputable abbrev S.t16:String:=SL.s4278001404047624695x13
noncomputable abbrev S.t17:String:=SL.s5160863994218179198x17
def cP (a b:Str)(t l n r u:Nat):Obj:=⟨(tv S.t3),none,.fields ⟨[(sv a t),(sv b (t+1)),(sv z9 (t+2)),(iv l 0),(iv n 0),(iv 0 0),(iv 0 0),(iv 3 0),(rv r),(.bool true),(iv 181 0),(rv (r+1)),nv,(rv (r+2)),(rv (r+3)),(rv (r+4)),(iv u 0),(iv l 0),(sv z9 (u+1))]⟩,⟨[]⟩⟩
def fN (s:Stmt)(z:Str)(g:Nat):Obj:=pg nv s z g nv nv nv nv nv nv
def fF (s:Stmt)(z:Str)(g:Nat)(m:Str)(t r:Nat):Obj:=pg (tv S.pC) s z g nv nv nv (sv m t) (rv r) nv
noncomputable def cb:BT→Nat→List Obj→BT
 |T,_,[]=>T
 |T,a,o::r=>cb (T.ins a o) (a+1) r
noncomputable def gY:BT→List (Nat×Obj)→BT
 |T,[]=>T
 |T,x::r=>gY (T.set x.1 λ_=>x.2) r
section
variable (P:Params)
def yZ:List DictEntry:=[ke P z2 166 nv,
ke P z3 167 nv,
ke P z4 168 (bv SL.s7097527257260152453x26),
ke P z5 169 nv,
ke P z6 170 (rv 6),
ke P z7 171 (rv 4),
ke P z8 173 (sv z9 172),
ke P z10 174 nv,
ke P z11 193 (rv 21),
ke P z12 197 (iv 1000000 196),
ke P kI 226 (rv 39),
ke P uj 242 (rv 52),
ke P uk 258 (rv 64),
ke P z16 274 (rv 76),
ke P z17 280 (rv 83),
ke P z18 284 (iv 1 283),
ke P z19 286 (iv 2 285),
ke P z20 288 (iv 3 287),
ke P z21 323 (rv 101),
ke P z22 358 (rv 122),
ke P z23 393 (rv 143),
ke P z24 426 (rv 164),
ke P v6 433 (rv 175),
ke P dp 440 (rv 182),
ke P z27 447 (rv 189),
ke P z28 455 (rv 197),
ke P z29 462 (rv 204),
ke P z30 471 (rv 212),
ke P z31 478 (rv 219),
ke P z32 485 (rv 226),
ke P z33 492 (rv 233),
ke P z34 499 (rv 240),
ke P z35 506 (rv 247),
ke P z36 513 (rv 254),
ke P z37 520 (rv 261),
ke P z38 527 (rv 268),
ke P z39 536 (rv 275),
ke P z40 545 (rv 282),
ke P z41 553 (rv 289),
ke P z42 560 (rv 296),
ke P z43 568 (rv 303),
ke P z44 575 (rv 310),
ke P z45 582 (rv 317),
ke P z46 589 (rv 324),
ke P z47 596 (rv 331),
ke P z48 653 (rv 371),
ke P z49 657 (iv 1 656),
ke P iV 716 (rv 420),
ke P z51 768 (rv 462),
ke P z52 820 (rv 501),
ke P z53 868 (rv 541),
ke P z54 877 (rv 550),
ke P z55 1188 (rv 766),
ke P ul 1246 (rv 815),
ke P z57 1254 (rv 824),
ke P z58 1261 (iv 1000000000000000000000 1260),
ke P z59 1272 (rv 831),
ke P z60 1279 (rv 838),
ke P z61 1283 (iv 6 1282),
ke P z62 1291 (rv 845),
ke P z63 1299 (rv 852),
ke P z64 1306 (rv 859),
ke P z65 1314 (rv 866),
ke P z66 1323 (rv 873),
ke P z67 1333 (rv 880),
ke P z68 1342 (rv 887),
ke P z69 1348 (rv 892),
ke P z70 1353 (rv 893),
ke P z71 1478 (rv 995),
ke P z72 1486 (rv 1006),
ke P z73 1494 (rv 1013),
ke P z74 1503 (rv 1020),
ke P z75 1513 (rv 1028),
ke P z76 1519 (rv 1033),
ke P z77 1528 (rv 1041),
ke P z78 1536 (rv 1048),
ke P z79 1551 (rv 1055),
ke P z80 1557 (rv 1060),
ke P z81 1565 (rv 1067),
ke P z82 1573 (rv 1074),
ke P z83 1583 (rv 1081),
ke P z84 1590 (rv 1088),
ke P z85 1644 (rv 1124),
ke P z86 1656 (rv 1133),
ke P z87 1664 (rv 1138),
ke P z88 1670 (rv 1143),
ke P z89 1677 (rv 1150),
ke P z90 1681 (iv 1500 1680),
ke P z91 1843 (rv 1280),
ke P z92 1854 (rv 1291),
ke P z93 1859 (iv 10000000 1858),
ke P z94 1974 (rv 1366),
ke P z95 1980 (iv 16777216 1979),
ke P z96 2048 (rv 1388),
ke P z97 2054 (rv 1393),
ke P z98 2059 (rv 1394),
ke P z99 2065 (rv 1401),
ke P rD 2071 (rv 1408),
ke P rE 2077 (rv 1415),
ke P rF 2087 (rv 1422),
ke P rG 2093 (rv 1427),
ke P rH 2104 (rv 1434),
ke P rI 2113 (rv 1441),
ke P rJ 2124 (rv 1448),
ke P rK 2134 (rv 1455),
ke P rL 2142 (rv 1462),
ke P rM 2154 (rv 1469),
ke P rN 2160 (rv 1474),
ke P rO 2166 (rv 1479),
ke P rP 2172 (rv 1484),
ke P rQ 2182 (rv 1492),
ke P rR 2188 (rv 1497),
ke P rS 2194 (rv 1502),
ke P rT 2200 (rv 1507),
ke P rU 2206 (rv 1512),
ke P rV 2212 (rv 1517),
ke P rW 2218 (rv 1522),
ke P v7 2224 (rv 1527)]
def bw (P:Params)(e:DictEntry)(m n:Nat):Obj:=⟨(tv S.t1),none,.dict ⟨e::(yZ P).take m⟩ n,⟨[]⟩⟩
def ajQ:List Value:=[(iv 1 0),(iv 0 0),(rv 20),(iv 6 0),(iv 0 0),(rv 27),(iv 10 0),(iv 0 0),(rv 48),(iv 12 0),(iv 0 0),(rv 60),(iv 14 0),(iv 0 0),(rv 72),(iv 16 0),(iv 0 0),(rv 82),(iv 26 0),(iv 0 0),(rv 89),(iv 33 0),(iv 0 0),(rv 111),(iv 40 0),(iv 0 0),(rv 132),(iv 47 0),(iv 0 0),(rv 153),(iv 53 0),(iv 0 0),(rv 174),(iv 55 0),(iv 0 0),(rv 181),(iv 57 0),(iv 0 0),(rv 188),(iv 59 0),(iv 0 0),(rv 196),(iv 61 0),(iv 0 0),(rv 203),(iv 63 0),(iv 0 0),(rv 211),(iv 65 0),(iv 0 0),(rv 218),(iv 67 0),(iv 0 0),(rv 225),(iv 73 0),(iv 0 0),(rv 232),(iv 75 0),(iv 0 0),(rv 239),(iv 77 0),(iv 0 0),(rv 246),(iv 79 0),(iv 0 0),(rv 253),(iv 81 0),(iv 0 0),(rv 260),(iv 83 0),(iv 0 0),(rv 267),(iv 85 0),(iv 0 0),(rv 274),(iv 88 0),(iv 0 0),(rv 281),(iv 91 0),(iv 0 0),(rv 288),(iv 93 0),(iv 0 0),(rv 295),(iv 95 0),(iv 0 0),(rv 302),(iv 100 0),(iv 0 0),(rv 309),(iv 102 0),(iv 0 0),(rv 316),(iv 104 0),(iv 0 0),(rv 323),(iv 112 0),(iv 0 0),(rv 330),(iv 127 0),(iv 0 0),(rv 337),(iv 151 0),(iv 0 0),(rv 381),(iv 167 0),(iv 0 0),(rv 430),(iv 188 0),(iv 0 0),(rv 470),(iv 212 0),(iv 0 0),(rv 509),(iv 227 0),(iv 0 0),(rv 549),(iv 232 0),(iv 0 0),(rv 556),(iv 450 0),(iv 0 0),(rv 776),(iv 471 0),(iv 0 0),(rv 823),(iv 478 0),(iv 0 0),(rv 830),(iv 482 0),(iv 0 0),(rv 837),(iv 488 0),(iv 0 0),(rv 844),(iv 490 0),(iv 0 0),(rv 851),(iv 492 0),(iv 0 0),(rv 858),(iv 494 0),(iv 0 0),(rv 865),(iv 499 0),(iv 0 0),(rv 872),(iv 501 0),(iv 0 0),(rv 879),(iv 504 0),(iv 0 0),(rv 886),(iv 506 0),(iv 0 0),(rv 891),(iv 512 0),(iv 0 0),(rv 899),(iv 570 0),(iv 0 0),(rv 1005),(iv 573 0),(iv 0 0),(rv 1012),(iv 575 0),(iv 0 0),(rv 1019),(iv 585 0),(iv 0 0),(rv 1027),(iv 591 0),(iv 0 0),(rv 1032),(iv 595 0),(iv 0 0),(rv 1040),(iv 599 0),(iv 0 0),(rv 1047),(iv 606 0),(iv 0 0),(rv 1054),(iv 614 0),(iv 0 0),(rv 1059),(iv 616 0),(iv 0 0),(rv 1066),(iv 619 0),(iv 0 0),(rv 1073),(iv 622 0),(iv 0 0),(rv 1080),(iv 625 0),(iv 0 0),(rv 1087),(iv 627 0),(iv 0 0),(rv 1094),(iv 649 0),(iv 0 0),(rv 1132),(iv 656 0),(iv 0 0),(rv 1137),(iv 661 0),(iv 0 0),(rv 1142),(iv 663 0),(iv 0 0),(rv 1149),(iv 668 0),(iv 0 0),(rv 1156),(iv 745 0),(iv 0 0),(rv 1290),(iv 759 0),(iv 0 0),(rv 1297),(iv 821 0),(iv 0 0),(rv 1376),(iv 841 0),(iv 0 0),(rv 1400),(iv 843 0),(iv 0 0),(rv 1407),(iv 845 0),(iv 0 0),(rv 1414),(iv 847 0),(iv 0 0),(rv 1421),(iv 854 0),(iv 0 0),(rv 1426),(iv 860 0),(iv 0 0),(rv 1433),(iv 864 0),(iv 0 0),(rv 1440),(iv 866 0),(iv 0 0),(rv 1447),(iv 869 0),(iv 0 0),(rv 1454),(iv 875 0),(iv 0 0),(rv 1461),(iv 877 0),(iv 0 0),(rv 1468),(iv 885 0),(iv 0 0),(rv 1473),(iv 894 0),(iv 0 0),(rv 1478),(iv 897 0),(iv 0 0),(rv 1483),(iv 905 0),(iv 0 0),(rv 1491),(iv 907 0),(iv 0 0),(rv 1496),(iv 917 0),(iv 0 0),(rv 1501),(iv 919 0),(iv 0 0),(rv 1506),(iv 921 0),(iv 0 0),(rv 1511),(iv 941 0),(iv 0 0),(rv 1516),(iv 966 0),(iv 0 0),(rv 1521),(iv 984 0),(iv 0 0),(rv 1526)]
def bx (m:Nat):Obj:=⟨.none,none,.fields ⟨ajQ.take m⟩,⟨[]⟩⟩
def o0:Obj:=⟨(tv S.t1),none,.dict ⟨[ke P z0 1 (sv amc 160),ke P z2 2 (.builtin "builtins.__doc__:str#opaque"),ke P z3 3 (.builtin "builtins.__package__:str#opaque"),ke P z4 4 (.builtin "builtins.__loader__:shared#opaque"),ke P z5 5 (bv SL.s11665532747177232413x24),ke P as3 6 (bv SL.s15183661809925369436x15),ke P as4 7 (bv SL.s13915890719876406383x10),ke P amd 8 (bv SL.s13459172003223722735x3),ke P ame 9 (bv SL.s10557405761357834076x3),ke P as5 10 (bv SL.s4233737765568776869x3),ke P as6 11 (bv SL.s2508922471967985374x5),ke P as7 12 (bv SL.s15574269061696679450x3),ke P as8 13 (bv SL.s6016482663378992977x10),ke P as9 14 (bv SL.s5596568736180474577x8),ke P asa 15 (bv SL.s2839554839881490554x3),ke P asb 16 (bv SL.s725004073602090463x7),ke P asc 17 (bv SL.s9436932552931045734x7),ke P asd 18 (bv SL.s2754603736356183583x3),ke P amf 19 (bv SL.s15185746759980889043x6),ke P ase 20 (bv SL.s8192189862530294059x4),ke P asf 21 (bv SL.s7038307821325472102x4),ke P asg 22 (bv SL.s5662562618415449548x6),ke P ash 23 (bv SL.s15281542589158584767x7),ke P abn 24 (bv SL.s17651547275483570877x7),ke P asi 25 (bv SL.s4036449017235975746x7),ke P asj 26 (bv SL.s8879979712987360175x4),ke P asl 27 (bv SL.s1801250619170735830x3),ke P asm 28 (bv SL.s17659931425627118568x2),ke P asn 29 (bv SL.s6063217899685152688x5),ke P amg 30 (bv SL.s8008927332132565319x10),ke P aso 31 (bv SL.s3544116645089599534x10),ke P asp 32 (bv SL.s13761710972054866084x4),ke P asq 33 (bv SL.s12896375587409280029x5),ke P amh 34 (bv SL.s13014049009108672802x3),ke P asr 35 (bv SL.s13935586738268321596x6),ke P ami 36 (bv SL.s8200498257699607233x3),ke P ass 37 (bv SL.s14114244577727609259x3),ke P abo 38 (bv SL.s1499430450269397089x4),ke P ast 39 (bv SL.s8755793994789770505x5),ke P asu 40 (bv SL.s15725212667919936108x3),ke P asv 41 (bv SL.s15791221867095933363x3),ke P asw 42 (bv SL.s81309575031448614x3),ke P asx 43 (bv SL.s8069831620301644142x5),ke P asy 44 (bv SL.s10061844253413749634x4),ke P asz 45 (bv SL.s9496514870978017513x5),ke P asA 46 (bv SL.s8899691144933366716x7),ke P asB 47 (bv SL.s15201008993051130160x6),ke P asC 48 (bv SL.s741896355592496720x3),ke P asD 49 (bv SL.s17925004256654032244x4),ke P asE 50 nv,ke P asF 51 Value.ellipsis,ke P asG 52 Value.notImplemented,ke P asH 53 (.bool false),ke P asI 54 (.bool true),ke P asJ 55 (tv SL.s11695548795398191787x4),ke P asK 56 (tv SL.s4156966113859768872x10),ke P asL 57 (tv SL.s9501651726347032510x9),ke P asM 58 (tv SL.s15722918466584999320x5),ke P asN 59 (tv SL.s591115383303110208x11),ke P asO 60 (tv SL.s15721156781594690315x7),ke P asP 61 (tv S.t1),ke P asQ 62 (tv SL.s14340494229221121180x9),ke P asR 63 (tv SL.s13429844117177748173x6),ke P asS 64 (tv SL.s16463266125957815391x5),ke P asT 65 (tv SL.s4922535414793169389x9),ke P asU 66 (tv SL.s8101838861749082086x8),ke P amj 67 (tv SL.s7066276694103001551x3),ke P amk 68 (tv SL.s9222952809800978799x4),ke P asV 69 (tv SL.s462964344163437139x3),ke P asW 70 (tv S.t2),ke P aml 71 (tv SL.s1438033511350832697x5),ke P yI 72 (tv SL.s14365286008749172514x8),ke P asX 73 (tv SL.s3642769012341782148x3),ke P asY 74 (tv SL.s4674234679698826739x5),ke P asZ 75 (tv SL.s16656946322747308186x12),ke P at2 76 (tv SL.s10796804682411823810x3),ke P at3 77 (tv S.t7),ke P amm 78 (tv SL.s2766695959194262286x5),ke P at4 79 (tv S.t0),ke P amn 80 (tv SL.s14339709457334898076x3),ke P at5 81 (.bool true),ke P at6 82 (tv S.t16),ke P at7 83 (tv SL.s6585700554429387442x18),ke P at8 84 (tv S.wf),ke P at9 85 (tv SL.s7410770068591931388x13),ke P ata 86 (tv SL.s11817881795495490833x17),ke P atb 87 (tv SL.s15679963881808890155x10),ke P atc 88 (tv SL.s3871700062485845797x15),ke P atd 89 (tv SL.s7689518266570723881x14),ke P ate 90 (tv SL.s9001593270443806431x14),ke P atf 91 (tv SL.s6882542574934516792x11),ke P atg 92 (tv SL.s14403400214490484960x8),ke P ath 93 (tv SL.s14457978657717015782x11),ke P ati 94 (tv SL.s1753610191782819921x11),ke P atj 95 (tv SL.s14119380538032626715x11),ke P atk 96 (tv SL.s11437920000406562045x9),ke P atl 97 (tv SL.s10852414792293593619x7),ke P atm 98 (tv SL.s14816307405966870543x14),ke P atn 99 (tv SL.s8682627914449686677x12),ke P ato 100 (tv SL.s4428170145600203450x18),ke P atp 101 (tv SL.s5991306692159431302x13),ke P atq 102 (tv SL.s16067994140765818257x11),ke P atr 103 (tv SL.s2327743974964600596x11),ke P ats 104 (tv SL.s2804747833354056582x9),ke P atu 105 (tv SL.s6070975301684473832x10),ke P atv 106 (tv SL.s14270485950484850486x7),ke P atw 107 (tv SL.s12041534306414923332x18),ke P atx 108 (tv SL.s2531307568338490285x13),ke P aty 109 (tv SL.s631175304937289666x17),ke P atz 110 (tv SL.s5144983644357021410x12),ke P atA 111 (tv SL.s18039099521571816885x18),ke P atB 112 (tv SL.s6011586214260557989x15),ke P atC 113 (tv SL.s5430567037509283100x13),ke P atD 114 (tv SL.s8117915138073963741x13),ke P atE 115 (tv SL.s3423317712779056401x25),ke P atF 116 (tv SL.s2007317383269046180x15),ke P atG 117 (tv SL.s17481586968713580700x14),ke P atH 118 (tv SL.s2450899226349176912x13),ke P atI 119 (tv SL.s16626165730633575011x14),ke P atJ 120 (tv SL.s14288496050688921416x11),ke P atK 121 (tv SL.s5735081916595925998x15),ke P atL 122 (tv SL.s3865607918536308442x17),ke P atM 123 (tv SL.s13337502604062700212x15),ke P atN 124 (tv SL.s13114017843053701147x15),ke P atO 125 (tv SL.s17467278006356818441x17),ke P atP 126 (tv SL.s17722149559621369488x16),ke P atQ 127 (tv SL.s7855274175708717672x17),ke P atR 128 (tv SL.s13351283678309829046x18),ke P atS 129 (tv SL.s6668348653404991179x15),ke P atT 130 (tv SL.s12913350958174193794x18),ke P atU 131 (tv SL.s16115879512475548326x12),ke P atV 132 (tv SL.s15920661018069861047x16),ke P atW 133 (tv SL.s10779130036587390575x21),ke P atX 134 (tv SL.s7801419657504700863x10),ke P atY 135 (tv SL.s1688129525768580628x8),ke P atZ 136 (tv SL.s1031832959479892071x19),ke P au0 137 (tv SL.s8991790508128307865x19),ke P au1 138 (tv SL.s14539662485746970245x23),ke P au2 139 (tv SL.s11643622729373238714x14),ke P au3 140 (tv SL.s3386828779285465597x17),ke P au4 141 (tv SL.s13042696260734638735x12),ke P au5 142 (tv SL.s18239426817015966623x15),ke P au6 143 (tv SL.s1270395311379034370x22),ke P au7 144 (tv SL.s10696252587037064777x22),ke P au8 145 (tv SL.s7852717498200857586x20),ke P au9 146 (tv SL.s6377248116197321094x8),ke P aua 147 (tv SL.s3834378056692298002x18),ke P aub 148 (tv SL.s17586630440231065808x18),ke P auc 149 (tv SL.s15234114252648025395x21),ke P aud 150 (tv SL.s8496462677383758984x14),ke P aue 151 (tv SL.s10852414792293593619x7),ke P auf 152 (tv SL.s10852414792293593619x7),ke P aug 153 (bv SL.s16789243406116112673x4),ke P auh 154 (bv SL.s14400166428656793546x20),ke P aui 155 (bv SL.s5857708277339239366x20),ke P auj 156 (.builtin "builtins.copyright#opaque"),ke P auk 157 (.builtin "builtins.credits#opaque"),ke P aul 158 (.builtin "builtins.license#opaque"),ke P aum 159 (bv SL.s7804999707787243718x20)]⟩ 159,⟨[]⟩⟩
def o4:Obj:=⟨(tv SL.s6658869562736209489x6),(some 0),.plain,⟨[]⟩⟩
def T0:BT:=(cb BT.nil 0 [o0 P,⟨(tv S.t1),none,.dict ⟨[ke P amc 162 (rv 4),ke P yJ 163 (rv 5)]⟩ 2,⟨[]⟩⟩,⟨nv,none,.dict ⟨[]⟩ 0,⟨[]⟩⟩,bw P (ke P z0 165 (sv yJ 164)) 8 9,o4,⟨(tv SL.s6658869562736209489x6),(some 3),.plain,⟨[]⟩⟩,⟨(tv S.t1),none,.dict ⟨[]⟩ 0,⟨[]⟩⟩,eT,eF,⟨(tv S.t3),none,.fields ⟨[(sv abp 176),(sv abp 177),(sv z9 178),(iv 1 0),(iv 0 0),(iv 0 0),(iv 0 0),(iv 0 0),(rv 7),(.bool false),(iv 175 0),(rv 8),nv,nv,nv,nv,(iv 179 0),(iv 1 0),(sv z9 180)]⟩,⟨[]⟩⟩,⟨(tv S.t6),none,.plain,⟨[(some (rv 9)),(some (rv 3)),(some (rv 3)),none,(some (sv yJ 164)),none,(some (rv 0))]⟩⟩,eT,bx 0,⟨(tv S.t3),none,.fields ⟨[(sv abp 182),(sv abp 183),(sv z9 184),(iv 1 0),(iv 0 0),(iv 0 0),(iv 0 0),(iv 0 0),(rv 11),(.bool false),(iv 181 0),(rv 12),nv,nv,nv,nv,(iv 185 0),(iv 1 0),(sv z9 186)]⟩,⟨[]⟩⟩,⟨(tv S.t6),none,.plain,⟨[(some (rv 13)),(some (rv 3)),(some (rv 3)),none,(some (sv yJ 164)),none,(some (rv 0))]⟩⟩])
def o29:Obj:=sq [nv]
def o35:Obj:=cP bh ahI 210 8 2 30 215
def o36:Obj:=pg (tv S.pC) (aE 3 0) ahI 3 (rv 29) nv nv (sv ft 194) (rv 35) nv
def o38:Obj:=⟨(tv S.t1),none,.dict ⟨[ke P bH 205 (sv ft 194),ke P bI 209 (iv 6 208),ke P bh 217 (rv 36),ke P bJ 219 (rv 37),ke P dq 221 (rv 40),ke P z2 222 nv]⟩ 3,⟨[]⟩⟩
def T1:BT:=(cb (gY (T0 P) [(2,⟨nv,none,.dict ⟨[ke P aun 223 (iv 39 0),ke P auo 224 (iv 1 0)]⟩ 2,⟨[]⟩⟩),(3,bw P (ke P z0 165 (sv ft 194)) 11 12),(12,bx 6)]) 15 [eT,eF,sn 190 [aup],eT,fN (aK 0) z11 0,cP z11 z11 187 1 1 15 191,fF (aK 0) z11 3 yJ 164 20,sq [(tv S.wf)],⟨(tv S.t4),none,.fields ⟨[(bv S.t9),(tv S.t0)]⟩,⟨[]⟩⟩,⟨(tv S.t1),none,.dict ⟨[ke P bH 205 (sv ft 194),ke P ef 207 (sv kI 206),ke P bI 209 (iv 6 208),ke P bh 217 (rv 36),ke P bJ 219 (rv 37)]⟩ 5,⟨[]⟩⟩,eT,⟨nv,none,.fields ⟨[(iv 8 0),(iv 4 0),(rv 35)]⟩,⟨[]⟩⟩,⟨(tv S.t3),none,.fields ⟨[(sv kI 200),(sv kI 201),(sv z9 202),(iv 6 0),(iv 0 0),(iv 0 0),(iv 0 0),(iv 0 0),(rv 25),(.bool false),(iv 181 0),(rv 26),nv,nv,nv,nv,(iv 203 0),(iv 6 0),(sv z9 204)]⟩,⟨[]⟩⟩,⟨(tv S.t6),none,.plain,⟨[(some (rv 27)),(some (rv 3)),(some (rv 24)),none,(some (sv ft 194)),none,(some (rv 0))]⟩⟩,o29,eT,eF,sn 213 [aB,v8],eT,fN (aE 3 0) ahI 0,o35,o36,sn 218 [v8],o38 P,⟨(tv S.t0),none,.cls (ik kI [(tv S.wf)] [(rv 39),(tv S.wf),(tv S.t16),(tv S.t2)] 38 kI []),⟨[(some (rv 22)),none,(some (sv kI 198)),(some (sv kI 206)),(some (bv S.t17)),(some (.bool true))]⟩⟩,⟨(tv S.t5),none,.fields ⟨[(sv dq 220),(rv 39),(bv S.wE),nv]⟩,⟨[]⟩⟩,⟨(tv S.t7),none,.fields ⟨[(rv 39),(rv 39),(rv 39)]⟩,⟨[]⟩⟩,⟨(tv S.t4),none,.fields ⟨[(bv S.lS),(rv 39)]⟩,⟨[]⟩⟩])
def o51:Obj:=⟨(tv S.t1),none,.dict ⟨[ke P bH 234 (sv ft 194),ke P bI 238 (iv 10 237),ke P bJ 239 (rv 50),ke P z2 240 nv]⟩ 2,⟨[]⟩⟩
def o52:Obj:=⟨(tv S.t0),none,.cls (ik uj [(rv 39)] [(rv 52),(rv 39),(tv S.wf),(tv S.t16),(tv S.t2)] 51 uj []),⟨[(some (rv 43)),none,(some (sv uj 227)),(some (sv uj 235)),(some (bv S.t17)),(some (.bool true))]⟩⟩
def T2:BT:=(cb (gY (T1 P) [(3,bw P (ke P z0 165 (sv ft 194)) 12 13),(12,bx 9),(39,⟨(tv S.t0),none,.cls (ik kI [(tv S.wf)] [(rv 39),(tv S.wf),(tv S.t16),(tv S.t2)] 38 kI [(rv 52)]),⟨[(some (rv 22)),none,(some (sv kI 198)),(some (sv kI 206)),(some (bv S.t17)),(some (.bool true))]⟩⟩)]) 43 [sq [(rv 39)],⟨(tv S.t4),none,.fields ⟨[(bv S.t9),(tv S.t0)]⟩,⟨[]⟩⟩,⟨(tv S.t1),none,.dict ⟨[ke P bH 234 (sv ft 194),ke P ef 236 (sv uj 235),ke P bI 238 (iv 10 237),ke P bJ 239 (rv 50)]⟩ 4,⟨[]⟩⟩,eT,eF,⟨(tv S.t3),none,.fields ⟨[(sv uj 229),(sv uj 230),(sv z9 231),(iv 10 0),(iv 0 0),(iv 0 0),(iv 0 0),(iv 0 0),(rv 46),(.bool false),(iv 181 0),(rv 47),nv,nv,nv,nv,(iv 232 0),(iv 10 0),(sv z9 233)]⟩,⟨[]⟩⟩,⟨(tv S.t6),none,.plain,⟨[(some (rv 48)),(some (rv 3)),(some (rv 45)),none,(some (sv ft 194)),none,(some (rv 0))]⟩⟩,eT,o51 P,o52,⟨(tv S.t7),none,.fields ⟨[(rv 52),(rv 52),(rv 52)]⟩,⟨[]⟩⟩,⟨(tv S.t4),none,.fields ⟨[(bv S.lS),(rv 52)]⟩,⟨[]⟩⟩])
def o63:Obj:=⟨(tv S.t1),none,.dict ⟨[ke P bH 250 (sv ft 194),ke P bI 254 (iv 12 253),ke P bJ 255 (rv 62),ke P z2 256 nv]⟩ 2,⟨[]⟩⟩
def o64:Obj:=⟨(tv S.t0),none,.cls (ik uk [(rv 39)] [(rv 64),(rv 39),(tv S.wf),(tv S.t16),(tv S.t2)] 63 uk []),⟨[(some (rv 55)),none,(some (sv uk 243)),(some (sv uk 251)),(some (bv S.t17)),(some (.bool true))]⟩⟩
def T3:BT:=(cb (gY (T2 P) [(3,bw P (ke P z0 165 (sv ft 194)) 13 14),(12,bx 12),(39,⟨(tv S.t0),none,.cls (ik kI [(tv S.wf)] [(rv 39),(tv S.wf),(tv S.t16),(tv S.t2)] 38 kI [(rv 52),(rv 64)]),⟨[(some (rv 22)),none,(some (sv kI 198)),(some (sv kI 206)),(some (bv S.t17)),(some (.bool true))]⟩⟩)]) 55 [sq [(rv 39)],⟨(tv S.t4),none,.fields ⟨[(bv S.t9),(tv S.t0)]⟩,⟨[]⟩⟩,⟨(tv S.t1),none,.dict ⟨[ke P bH 250 (sv ft 194),ke P ef 252 (sv uk 251),ke P bI 254 (iv 12 253),ke P bJ 255 (rv 62)]⟩ 4,⟨[]⟩⟩,eT,eF,⟨(tv S.t3),none,.fields ⟨[(sv uk 245),(sv uk 246),(sv z9 247),(iv 12 0),(iv 0 0),(iv 0 0),(iv 0 0),(iv 0 0),(rv 58),(.bool false),(iv 181 0),(rv 59),nv,nv,nv,nv,(iv 248 0),(iv 12 0),(sv z9 249)]⟩,⟨[]⟩⟩,⟨(tv S.t6),none,.plain,⟨[(some (rv 60)),(some (rv 3)),(some (rv 57)),none,(some (sv ft 194)),none,(some (rv 0))]⟩⟩,eT,o63 P,o64,⟨(tv S.t7),none,.fields ⟨[(rv 64),(rv 64),(rv 64)]⟩,⟨[]⟩⟩,⟨(tv S.t4),none,.fields ⟨[(bv S.lS),(rv 64)]⟩,⟨[]⟩⟩])
def ae5:Obj:=⟨(tv S.t0),none,.cls (ik kI [(tv S.wf)] [(rv 39),(tv S.wf),(tv S.t16),(tv S.t2)] 38 kI [(rv 52),(rv 64),(rv 76)]),⟨[(some (rv 22)),none,(some (sv kI 198)),(some (sv kI 206)),(some (bv S.t17)),(some (.bool true))]⟩⟩
def T4:BT:=(cb (gY (T3 P) [(3,bw P (ke P z0 165 (sv br 281)) 18 19),(12,bx 18),(39,ae5)]) 67 [sq [(rv 39)],⟨(tv S.t4),none,.fields ⟨[(bv S.t9),(tv S.t0)]⟩,⟨[]⟩⟩,⟨(tv S.t1),none,.dict ⟨[ke P bH 266 (sv ft 194),ke P ef 268 (sv z16 267),ke P bI 270 (iv 14 269),ke P bJ 271 (rv 74)]⟩ 4,⟨[]⟩⟩,eT,eF,⟨(tv S.t3),none,.fields ⟨[(sv z16 261),(sv z16 262),(sv z9 263),(iv 14 0),(iv 0 0),(iv 0 0),(iv 0 0),(iv 0 0),(rv 70),(.bool false),(iv 181 0),(rv 71),nv,nv,nv,nv,(iv 264 0),(iv 14 0),(sv z9 265)]⟩,⟨[]⟩⟩,⟨(tv S.t6),none,.plain,⟨[(some (rv 72)),(some (rv 3)),(some (rv 69)),none,(some (sv ft 194)),none,(some (rv 0))]⟩⟩,eT,⟨(tv S.t1),none,.dict ⟨[ke P bH 266 (sv ft 194),ke P bI 270 (iv 14 269),ke P bJ 271 (rv 74),ke P z2 272 nv]⟩ 2,⟨[]⟩⟩,⟨(tv S.t0),none,.cls (ik z16 [(rv 39)] [(rv 76),(rv 39),(tv S.wf),(tv S.t16),(tv S.t2)] 75 z16 []),⟨[(some (rv 67)),none,(some (sv z16 259)),(some (sv z16 267)),(some (bv S.t17)),(some (.bool true))]⟩⟩,⟨(tv S.t7),none,.fields ⟨[(rv 76),(rv 76),(rv 76)]⟩,⟨[]⟩⟩,⟨(tv S.t4),none,.fields ⟨[(bv S.lS),(rv 76)]⟩,⟨[]⟩⟩,eT,eF,fN (aK 7) z17 0,⟨(tv S.t3),none,.fields ⟨[(sv z17 275),(sv z17 276),(sv z9 277),(iv 16 0),(iv 1 0),(iv 0 0),(iv 0 0),(iv 3 0),(rv 79),(.bool true),(iv 181 0),(rv 80),nv,nv,nv,(rv 81),(iv 278 0),(iv 16 0),(sv z9 279)]⟩,⟨[]⟩⟩,fF (aK 7) z17 3 ft 194 82])
def o91:Obj:=sq [(.bool false),(iv 3 287)]
def o97:Obj:=cP bh ahJ 301 28 5 92 309
def o98:Obj:=pg (tv S.pC) (aE 12 0) ahJ 3 (rv 91) nv nv (sv br 281) (rv 97) nv
def amw:Obj:=⟨(tv S.t1),none,.dict ⟨[ke P bH 296 (sv br 281),ke P bI 300 (iv 26 299),ke P bh 311 (rv 98),ke P bJ 316 (rv 99),ke P dK 318 (rv 102),ke P dq 320 (rv 103),ke P z2 321 nv]⟩ 4,⟨[]⟩⟩
def amx:Obj:=⟨(tv S.t0),none,.cls (ik z21 [(tv S.t2)] [(rv 101),(tv S.t2)] 100 z21 []),⟨[none,none,(some (sv z21 289)),(some (sv z21 297)),(some (bv S.t8)),(some (.bool true))]⟩⟩
def T5:BT:=(cb (gY (T4 P) [(3,bw P (ke P z0 165 (sv br 281)) 19 20),(12,bx 21)]) 84 [eT,⟨(tv S.t4),none,.fields ⟨[(bv S.t9),(tv S.t0)]⟩,⟨[]⟩⟩,⟨(tv S.t1),none,.dict ⟨[ke P bH 296 (sv br 281),ke P ef 298 (sv z21 297),ke P bI 300 (iv 26 299),ke P bh 311 (rv 98),ke P bJ 316 (rv 99)]⟩ 5,⟨[]⟩⟩,eT,⟨nv,none,.fields ⟨[(iv 28 0),(iv 4 0),(rv 97)]⟩,⟨[]⟩⟩,⟨(tv S.t3),none,.fields ⟨[(sv z21 291),(sv z21 292),(sv z9 293),(iv 26 0),(iv 0 0),(iv 0 0),(iv 0 0),(iv 0 0),(rv 87),(.bool false),(iv 181 0),(rv 88),nv,nv,nv,nv,(iv 294 0),(iv 26 0),(sv z9 295)]⟩,⟨[]⟩⟩,⟨(tv S.t6),none,.plain,⟨[(some (rv 89)),(some (rv 3)),(some (rv 86)),none,(some (sv br 281)),none,(some (rv 0))]⟩⟩,o91,eT,eF,sn 304 [aB,rX,ph,kT,mN],eT,fN (aE 12 0) ahJ 0,o97,o98,sn 312 [mN,kT,rX,ph],amw P,amx,⟨(tv S.t5),none,.fields ⟨[(sv dK 317),(rv 101),(bv S.yX),(bv S.yY)]⟩,⟨[]⟩⟩,⟨(tv S.t5),none,.fields ⟨[(sv dq 319),(rv 101),(bv S.wE),nv]⟩,⟨[]⟩⟩,⟨(tv S.t7),none,.fields ⟨[(rv 101),(rv 101),(rv 101)]⟩,⟨[]⟩⟩,⟨(tv S.t4),none,.fields ⟨[(bv S.lS),(rv 101)]⟩,⟨[]⟩⟩])
def amy:Obj:=cP bh ahK 336 35 5 113 344
def amz:Obj:=fF (aE 13 0) ahK 3 br 281 118
def amA:Obj:=⟨(tv S.t1),none,.dict ⟨[ke P bH 331 (sv br 281),ke P bI 335 (iv 33 334),ke P bh 346 (rv 119),ke P bJ 351 (rv 120),ke P dK 353 (rv 123),ke P dq 355 (rv 124),ke P z2 356 nv]⟩ 4,⟨[]⟩⟩
def amB:Obj:=⟨(tv S.t0),none,.cls (ik z22 [(tv S.t2)] [(rv 122),(tv S.t2)] 121 z22 []),⟨[none,none,(some (sv z22 324)),(some (sv z22 332)),(some (bv S.t8)),(some (.bool true))]⟩⟩
def T6:BT:=(cb (gY (T5 P) [(3,bw P (ke P z0 165 (sv br 281)) 20 21),(12,bx 24)]) 106 [eT,⟨(tv S.t4),none,.fields ⟨[(bv S.t9),(tv S.t0)]⟩,⟨[]⟩⟩,⟨(tv S.t1),none,.dict ⟨[ke P bH 331 (sv br 281),ke P ef 333 (sv z22 332),ke P bI 335 (iv 33 334),ke P bh 346 (rv 119),ke P bJ 351 (rv 120)]⟩ 5,⟨[]⟩⟩,eT,⟨nv,none,.fields ⟨[(iv 35 0),(iv 4 0),(rv 118)]⟩,⟨[]⟩⟩,⟨(tv S.t3),none,.fields ⟨[(sv z22 326),(sv z22 327),(sv z9 328),(iv 33 0),(iv 0 0),(iv 0 0),(iv 0 0),(iv 0 0),(rv 109),(.bool false),(iv 181 0),(rv 110),nv,nv,nv,nv,(iv 329 0),(iv 33 0),(sv z9 330)]⟩,⟨[]⟩⟩,⟨(tv S.t6),none,.plain,⟨[(some (rv 111)),(some (rv 3)),(some (rv 108)),none,(some (sv br 281)),none,(some (rv 0))]⟩⟩,eT,eF,sn 339 [aB,cQ,mO,fU,jZ],eT,fN (aE 13 0) ahK 0,amy,amz,sn 347 [fU,jZ,cQ,mO],amA P,amB,⟨(tv S.t5),none,.fields ⟨[(sv dK 352),(rv 122),(bv S.yX),(bv S.yY)]⟩,⟨[]⟩⟩,⟨(tv S.t5),none,.fields ⟨[(sv dq 354),(rv 122),(bv S.wE),nv]⟩,⟨[]⟩⟩,⟨(tv S.t7),none,.fields ⟨[(rv 122),(rv 122),(rv 122)]⟩,⟨[]⟩⟩,⟨(tv S.t4),none,.fields ⟨[(bv S.lS),(rv 122)]⟩,⟨[]⟩⟩])
def amC:Obj:=cP bh ahL 371 42 5 134 379
def amD:Obj:=fF (aE 14 0) ahL 3 br 281 139
def amE:Obj:=⟨(tv S.t1),none,.dict ⟨[ke P bH 366 (sv br 281),ke P bI 370 (iv 40 369),ke P bh 381 (rv 140),ke P bJ 386 (rv 141),ke P dK 388 (rv 144),ke P dq 390 (rv 145),ke P z2 391 nv]⟩ 4,⟨[]⟩⟩
def amF:Obj:=⟨(tv S.t0),none,.cls (ik z23 [(tv S.t2)] [(rv 143),(tv S.t2)] 142 z23 []),⟨[none,none,(some (sv z23 359)),(some (sv z23 367)),(some (bv S.t8)),(some (.bool true))]⟩⟩
def T7:BT:=(cb (gY (T6 P) [(3,bw P (ke P z0 165 (sv br 281)) 21 22),(12,bx 27)]) 127 [eT,⟨(tv S.t4),none,.fields ⟨[(bv S.t9),(tv S.t0)]⟩,⟨[]⟩⟩,⟨(tv S.t1),none,.dict ⟨[ke P bH 366 (sv br 281),ke P ef 368 (sv z23 367),ke P bI 370 (iv 40 369),ke P bh 381 (rv 140),ke P bJ 386 (rv 141)]⟩ 5,⟨[]⟩⟩,eT,⟨nv,none,.fields ⟨[(iv 42 0),(iv 4 0),(rv 139)]⟩,⟨[]⟩⟩,⟨(tv S.t3),none,.fields ⟨[(sv z23 361),(sv z23 362),(sv z9 363),(iv 40 0),(iv 0 0),(iv 0 0),(iv 0 0),(iv 0 0),(rv 130),(.bool false),(iv 181 0),(rv 131),nv,nv,nv,nv,(iv 364 0),(iv 40 0),(sv z9 365)]⟩,⟨[]⟩⟩,⟨(tv S.t6),none,.plain,⟨[(some (rv 132)),(some (rv 3)),(some (rv 129)),none,(some (sv br 281)),none,(some (rv 0))]⟩⟩,eT,eF,sn 374 [aB,cQ,bK,fU,jZ],eT,fN (aE 14 0) ahL 0,amC,amD,sn 382 [fU,jZ,cQ,bK],amE P,amF,⟨(tv S.t5),none,.fields ⟨[(sv dK 387),(rv 143),(bv S.yX),(bv S.yY)]⟩,⟨[]⟩⟩,⟨(tv S.t5),none,.fields ⟨[(sv dq 389),(rv 143),(bv S.wE),nv]⟩,⟨[]⟩⟩,⟨(tv S.t7),none,.fields ⟨[(rv 143),(rv 143),(rv 143)]⟩,⟨[]⟩⟩,⟨(tv S.t4),none,.fields ⟨[(bv S.lS),(rv 143)]⟩,⟨[]⟩⟩])
def amG:Obj:=cP bh ahM 406 49 4 155 413
def amH:Obj:=fF (aE 15 0) ahM 3 br 281 160
def amI:Obj:=⟨(tv S.t1),none,.dict ⟨[ke P bH 401 (sv br 281),ke P bI 405 (iv 47 404),ke P bh 415 (rv 161),ke P bJ 419 (rv 162),ke P dK 421 (rv 165),ke P dq 423 (rv 166),ke P z2 424 nv]⟩ 4,⟨[]⟩⟩
def amJ:Obj:=⟨(tv S.t0),none,.cls (ik z24 [(tv S.t2)] [(rv 164),(tv S.t2)] 163 z24 []),⟨[none,none,(some (sv z24 394)),(some (sv z24 402)),(some (bv S.t8)),(some (.bool true))]⟩⟩
def amK:Obj:=cP v6 v6 427 53 1 169 431
def amL:Obj:=fF (aK 16) v6 3 br 281 174
def amM:Obj:=cP dp dp 434 55 1 176 438
def amN:Obj:=fF (aK 17) dp 3 br 281 181
def amO:Obj:=cP z27 z27 441 57 1 183 445
def amP:Obj:=fF (aK 18) z27 3 br 281 188
def amQ:Obj:=sq [(.bool false)]
def amR:Obj:=cP z28 z28 448 59 2 191 453
def amS:Obj:=pg (tv S.pC) (aK 19) z28 3 (rv 190) nv nv (sv br 281) (rv 196) nv
def amT:Obj:=cP z29 z29 456 61 1 198 460
def amU:Obj:=fF (aK 20) z29 3 br 281 203
def amV:Obj:=sq [(.bool false),(iv 3 287)]
def amW:Obj:=cP z30 z30 463 63 3 206 469
def amX:Obj:=pg (tv S.pC) (aK 21) z30 3 (rv 205) nv nv (sv br 281) (rv 211) nv
def T8:BT:=(cb (gY (T7 P) [(3,bw P (ke P z0 165 (sv br 281)) 28 29),(12,bx 48)]) 148 [eT,⟨(tv S.t4),none,.fields ⟨[(bv S.t9),(tv S.t0)]⟩,⟨[]⟩⟩,⟨(tv S.t1),none,.dict ⟨[ke P bH 401 (sv br 281),ke P ef 403 (sv z24 402),ke P bI 405 (iv 47 404),ke P bh 415 (rv 161),ke P bJ 419 (rv 162)]⟩ 5,⟨[]⟩⟩,eT,⟨nv,none,.fields ⟨[(iv 49 0),(iv 4 0),(rv 160)]⟩,⟨[]⟩⟩,⟨(tv S.t3),none,.fields ⟨[(sv z24 396),(sv z24 397),(sv z9 398),(iv 47 0),(iv 0 0),(iv 0 0),(iv 0 0),(iv 0 0),(rv 151),(.bool false),(iv 181 0),(rv 152),nv,nv,nv,nv,(iv 399 0),(iv 47 0),(sv z9 400)]⟩,⟨[]⟩⟩,⟨(tv S.t6),none,.plain,⟨[(some (rv 153)),(some (rv 3)),(some (rv 150)),none,(some (sv br 281)),none,(some (rv 0))]⟩⟩,eT,eF,sn 409 [aB,mP,j1,cR],eT,fN (aE 15 0) ahM 0,amG,amH,sn 416 [mP,cR,j1],amI P,amJ,⟨(tv S.t5),none,.fields ⟨[(sv dK 420),(rv 164),(bv S.yX),(bv S.yY)]⟩,⟨[]⟩⟩,⟨(tv S.t5),none,.fields ⟨[(sv dq 422),(rv 164),(bv S.wE),nv]⟩,⟨[]⟩⟩,⟨(tv S.t7),none,.fields ⟨[(rv 164),(rv 164),(rv 164)]⟩,⟨[]⟩⟩,⟨(tv S.t4),none,.fields ⟨[(bv S.lS),(rv 164)]⟩,⟨[]⟩⟩,eT,eF,sn 430 [cQ],eT,fN (aK 16) v6 0,amK,amL,eT,eF,sn 437 [amo],eT,fN (aK 17) dp 0,amM,amN,eT,eF,sn 444 [auq],eT,fN (aK 18) z27 0,amO,amP,amQ,eT,eF,sn 451 [mO,kT],eT,fN (aK 19) z28 0,amR,amS,eT,eF,sn 459 [mO],eT,fN (aK 20) z29 0,amT,amU,amV,eT,eF,sn 466 [dM,kT,mN],eT,fN (aK 21) z30 0,amW,amX])
def amY:Obj:=cP z31 z31 472 65 1 213 476
def amZ:Obj:=fF (aK 22) z31 3 br 281 218
def an0:Obj:=cP z32 z32 479 67 1 220 483
def an1:Obj:=fF (aK 23) z32 3 br 281 225
def an2:Obj:=cP z33 z33 486 73 1 227 490
def an3:Obj:=fF (aK 24) z33 3 br 281 232
def an4:Obj:=cP z34 z34 493 75 1 234 497
def an5:Obj:=fF (aK 25) z34 3 br 281 239
def an6:Obj:=cP z35 z35 500 77 1 241 504
def an7:Obj:=fF (aK 26) z35 3 br 281 246
def an8:Obj:=cP z36 z36 507 79 1 248 511
def an9:Obj:=fF (aK 27) z36 3 br 281 253
def ana:Obj:=cP z37 z37 514 81 1 255 518
def anb:Obj:=fF (aK 28) z37 3 br 281 260
def anc:Obj:=cP z38 z38 521 83 1 262 525
def and:Obj:=fF (aK 29) z38 3 br 281 267
def ane:Obj:=cP z39 z39 528 85 3 269 534
def anf:Obj:=fF (aK 30) z39 3 br 281 274
def ang:Obj:=cP z40 z40 537 88 3 276 543
def anh:Obj:=fF (aK 31) z40 3 br 281 281
def ani:Obj:=cP z41 z41 546 91 2 283 551
def anj:Obj:=fF (aK 32) z41 3 br 281 288
def ank:Obj:=cP z42 z42 554 93 1 290 558
def anl:Obj:=fF (aK 33) z42 3 br 281 295
def anm:Obj:=cP z43 z43 561 95 2 297 566
def ano:Obj:=fF (aK 34) z43 3 br 281 302
def anp:Obj:=cP z44 z44 569 100 1 304 573
def anq:Obj:=fF (aK 35) z44 3 br 281 309
def T9:BT:=(cb (gY (T8 P) [(3,bw P (ke P z0 165 (sv br 281)) 42 43),(12,bx 90)]) 213 [eT,eF,sn 475 [bi],eT,fN (aK 22) z31 0,amY,amZ,eT,eF,sn 482 [bi],eT,fN (aK 23) z32 0,an0,an1,eT,eF,sn 489 [bi],eT,fN (aK 24) z33 0,an2,an3,eT,eF,sn 496 [bi],eT,fN (aK 25) z34 0,an4,an5,eT,eF,sn 503 [bi],eT,fN (aK 26) z35 0,an6,an7,eT,eF,sn 510 [bi],eT,fN (aK 27) z36 0,an8,an9,eT,eF,sn 517 [bi],eT,fN (aK 28) z37 0,ana,anb,eT,eF,sn 524 [bi],eT,fN (aK 29) z38 0,anc,and,eT,eF,sn 531 [mQ,j1,cR],eT,fN (aK 30) z39 0,ane,anf,eT,eF,sn 540 [mQ,j1,cR],eT,fN (aK 31) z40 0,ang,anh,eT,eF,sn 549 [bi,mQ],eT,fN (aK 32) z41 0,ani,anj,eT,eF,sn 557 [mQ],eT,fN (aK 33) z42 0,ank,anl,eT,eF,sn 564 [mQ,eG],eT,fN (aK 34) z43 0,anm,ano,eT,eF,sn 572 [mQ],eT,fN (aK 35) z44 0,anp,anq])
def anr:Obj:=cP z45 z45 576 102 1 311 580
def ans:Obj:=fF (aK 36) z45 3 br 281 316
def ant:Obj:=cP z46 z46 583 104 1 318 587
def anu:Obj:=fF (aK 37) z46 3 br 281 323
def anv:Obj:=cP z47 z47 590 112 1 325 594
def anw:Obj:=fF (aK 38) z47 3 br 281 330
def CD:BT:=(cb (gY (T9 P) [(3,bw P (ke P z0 165 (sv pi 597)) 45 46),(12,bx 99)]) 311 [eT,eF,sn 579 [mQ],eT,fN (aK 36) z45 0,anr,ans,eT,eF,sn 586 [bi],eT,fN (aK 37) z46 0,ant,anu,eT,eF,sn 593 [bi],eT,fN (aK 38) z47 0,anv,anw])
def CE:BT:=(cb (gY (CD P) [(3,bw P (ke P z0 165 (sv aN 654)) 47 48),(12,bx 102)]) 332 [eT,⟨(tv S.t4),none,.fields ⟨[(bv S.t9),(tv S.t0)]⟩,⟨[]⟩⟩,⟨(tv S.t1),none,.dict ⟨[ke P bH 606 (sv pi 597),ke P ef 608 (sv z48 607),ke P bI 610 (iv 127 609),ke P bh 620 (rv 346),ke P v9 628 (rv 354),ke P abo 635 (rv 361),ke P ahN 642 (rv 368),ke P bJ 646 (rv 369)]⟩ 8,⟨[]⟩⟩,eT,⟨nv,none,.fields ⟨[(iv 129 0),(iv 4 0),(rv 345),(iv 135 0),(iv 4 0),(rv 352),(iv 138 0),(iv 4 0),(rv 360),(iv 145 0),(iv 4 0),(rv 367)]⟩,⟨[]⟩⟩,⟨(tv S.t3),none,.fields ⟨[(sv z48 601),(sv z48 602),(sv z9 603),(iv 127 0),(iv 0 0),(iv 0 0),(iv 0 0),(iv 0 0),(rv 335),(.bool false),(iv 181 0),(rv 336),nv,nv,nv,nv,(iv 604 0),(iv 127 0),(sv z9 605)]⟩,⟨[]⟩⟩,⟨(tv S.t6),none,.plain,⟨[(some (rv 337)),(some (rv 3)),(some (rv 334)),none,(some (sv pi 597)),none,(some (rv 0))]⟩⟩,sq [(iv 0 611)],eT,eF,sn 615 [aB,mO,eG],eT,fN (aE 40 0) ahO 0,cP bh ahO 612 129 3 340 618,pg (tv S.pC) (aE 40 0) ahO 3 (rv 339) nv nv (sv pi 597) (rv 345) nv,eT,eF,sn 624 [aB],eT,fN (aE 40 1) ahP 0,cP v9 ahP 621 134 1 347 625,fF (aE 40 1) ahP 3 pi 597 352,⟨(tv SL.s8101838861749082086x8),none,.fields ⟨[(rv 353),nv,nv,nv,(sv v9 628),(.bool false)]⟩,⟨[]⟩⟩,eT,eF,sn 632 [aB],eT,fN (aE 40 2) ahQ 0,cP abo ahQ 629 138 1 355 633,fF (aE 40 2) ahQ 3 pi 597 360,eT,eF,sn 639 [aB],eT,fN (aE 40 3) ahR 0,cP ahN ahR 636 145 1 362 640,fF (aE 40 3) ahR 3 pi 597 367,sn 643 [eG,aur,mO],⟨(tv S.t1),none,.dict ⟨[ke P bH 606 (sv pi 597),ke P bI 610 (iv 127 609),ke P bh 620 (rv 346),ke P v9 628 (rv 354),ke P abo 635 (rv 361),ke P ahN 642 (rv 368),ke P bJ 646 (rv 369),ke P dK 648 (rv 372),ke P dq 650 (rv 373),ke P z2 651 nv]⟩ 4,⟨[]⟩⟩,⟨(tv S.t0),none,.cls (ik z48 [(tv S.t2)] [(rv 371),(tv S.t2)] 370 z48 []),⟨[none,none,(some (sv z48 599)),(some (sv z48 607)),(some (bv S.t8)),(some (.bool true))]⟩⟩,⟨(tv S.t5),none,.fields ⟨[(sv dK 647),(rv 371),(bv S.yX),(bv S.yY)]⟩,⟨[]⟩⟩,⟨(tv S.t5),none,.fields ⟨[(sv dq 649),(rv 371),(bv S.wE),nv]⟩,⟨[]⟩⟩,⟨(tv S.t7),none,.fields ⟨[(rv 371),(rv 371),(rv 371)]⟩,⟨[]⟩⟩,⟨(tv S.t4),none,.fields ⟨[(bv S.lS),(rv 371)]⟩,⟨[]⟩⟩])
def anx:Obj:=cP bh ahS 670 153 2 383 675
def anz:Obj:=fF (aE 43 0) ahS 3 aN 654 388
def anA:Obj:=cP dY ahT 678 156 2 390 683
def anB:Obj:=fF (aE 43 1) ahT 3 aN 654 395
def anF:Obj:=cP yK ahU 686 159 2 397 691
def anG:Obj:=fF (aE 43 2) ahU 3 aN 654 402
def anH:Obj:=cP bi ahV 694 162 1 404 698
def anI:Obj:=fF (aE 43 3) ahV 3 aN 654 409
def anJ:Obj:=cP bK ahW 701 165 1 411 705
def anK:Obj:=fF (aE 43 4) ahW 3 aN 654 416
def anM:Obj:=⟨(tv S.t1),none,.dict ⟨[ke P bH 665 (sv aN 654),ke P bI 669 (iv 151 668),ke P bh 677 (rv 389),ke P dY 685 (rv 396),ke P yK 693 (rv 403),ke P bi 700 (rv 410),ke P bK 707 (rv 417),ke P bJ 709 (rv 418),ke P dK 711 (rv 421),ke P dq 713 (rv 422),ke P z2 714 nv]⟩ 4,⟨[]⟩⟩
def CF:BT:=(cb (gY (CE P) [(3,bw P (ke P z0 165 (sv aN 654)) 48 49),(12,bx 105)]) 376 [eT,⟨(tv S.t4),none,.fields ⟨[(bv S.t9),(tv S.t0)]⟩,⟨[]⟩⟩,⟨(tv S.t1),none,.dict ⟨[ke P bH 665 (sv aN 654),ke P ef 667 (sv iV 666),ke P bI 669 (iv 151 668),ke P bh 677 (rv 389),ke P dY 685 (rv 396),ke P yK 693 (rv 403),ke P bi 700 (rv 410),ke P bK 707 (rv 417),ke P bJ 709 (rv 418)]⟩ 9,⟨[]⟩⟩,eT,⟨nv,none,.fields ⟨[(iv 153 0),(iv 4 0),(rv 388),(iv 156 0),(iv 4 0),(rv 395),(iv 159 0),(iv 4 0),(rv 402),(iv 162 0),(iv 4 0),(rv 409),(iv 165 0),(iv 4 0),(rv 416)]⟩,⟨[]⟩⟩,⟨(tv S.t3),none,.fields ⟨[(sv iV 660),(sv iV 661),(sv z9 662),(iv 151 0),(iv 0 0),(iv 0 0),(iv 0 0),(iv 0 0),(rv 379),(.bool false),(iv 181 0),(rv 380),nv,nv,nv,nv,(iv 663 0),(iv 151 0),(sv z9 664)]⟩,⟨[]⟩⟩,⟨(tv S.t6),none,.plain,⟨[(some (rv 381)),(some (rv 3)),(some (rv 378)),none,(some (sv aN 654)),none,(some (rv 0))]⟩⟩,eT,eF,sn 673 [aB,eg],eT,fN (aE 43 0) ahS 0,anx,anz,eT,eF,sn 681 [aB,b7],eT,fN (aE 43 1) ahT 0,anA,anB,eT,eF,sn 689 [aB,b7],eT,fN (aE 43 2) ahU 0,anF,anG,eT,eF,sn 697 [aB],eT,fN (aE 43 3) ahV 0,anH,anI,eT,eF,sn 704 [aB],eT,fN (aE 43 4) ahW 0,anJ,anK,sn 708 [eg],anM P,⟨(tv S.t0),none,.cls (ik iV [(tv S.t2)] [(rv 420),(tv S.t2)] 419 iV []),⟨[none,none,(some (sv iV 658)),(some (sv iV 666)),(some (bv S.t8)),(some (.bool true))]⟩⟩,⟨(tv S.t5),none,.fields ⟨[(sv dK 710),(rv 420),(bv S.yX),(bv S.yY)]⟩,⟨[]⟩⟩,⟨(tv S.t5),none,.fields ⟨[(sv dq 712),(rv 420),(bv S.wE),nv]⟩,⟨[]⟩⟩,⟨(tv S.t7),none,.fields ⟨[(rv 420),(rv 420),(rv 420)]⟩,⟨[]⟩⟩,⟨(tv S.t4),none,.fields ⟨[(bv S.lS),(rv 420)]⟩,⟨[]⟩⟩])
def anN:Obj:=cP bh ahX 729 169 2 432 734
def anP:Obj:=fF (aE 44 0) ahX 3 aN 654 437
def anQ:Obj:=cP dY ahY 737 174 2 439 744
def anR:Obj:=fF (aE 44 1) ahY 3 aN 654 444
def anT:Obj:=cP bi ahZ 747 182 1 446 752
def anU:Obj:=fF (aE 44 2) ahZ 3 aN 654 451
def anV:Obj:=cP bK ai0 755 186 1 453 759
def anW:Obj:=fF (aE 44 3) ai0 3 aN 654 458
def anX:Obj:=⟨(tv S.t1),none,.dict ⟨[ke P bH 724 (sv aN 654),ke P bI 728 (iv 167 727),ke P bh 736 (rv 438),ke P dY 746 (rv 445),ke P bi 754 (rv 452),ke P bK 761 (rv 459),ke P bJ 765 (rv 460),ke P z2 766 nv]⟩ 2,⟨[]⟩⟩
def anY:Obj:=⟨(tv S.t0),none,.cls (ik z51 [(rv 420)] [(rv 462),(rv 420),(tv S.t2)] 461 z51 []),⟨[(some (rv 425)),none,(some (sv z51 717)),(some (sv z51 725)),(some (bv S.t8)),(some (.bool true))]⟩⟩
def CG:BT:=(cb (gY (CF P) [(3,bw P (ke P z0 165 (sv aN 654)) 49 50),(12,bx 108),(420,⟨(tv S.t0),none,.cls (ik iV [(tv S.t2)] [(rv 420),(tv S.t2)] 419 iV [(rv 462)]),⟨[none,none,(some (sv iV 658)),(some (sv iV 666)),(some (bv S.t8)),(some (.bool true))]⟩⟩)]) 425 [sq [(rv 420)],⟨(tv S.t4),none,.fields ⟨[(bv S.t9),(tv S.t0)]⟩,⟨[]⟩⟩,⟨(tv S.t1),none,.dict ⟨[ke P bH 724 (sv aN 654),ke P ef 726 (sv z51 725),ke P bI 728 (iv 167 727),ke P bh 736 (rv 438),ke P dY 746 (rv 445),ke P bi 754 (rv 452),ke P bK 761 (rv 459),ke P bJ 765 (rv 460)]⟩ 8,⟨[]⟩⟩,eT,⟨nv,none,.fields ⟨[(iv 169 0),(iv 4 0),(rv 437),(iv 174 0),(iv 4 0),(rv 444),(iv 182 0),(iv 4 0),(rv 451),(iv 186 0),(iv 4 0),(rv 458)]⟩,⟨[]⟩⟩,⟨(tv S.t3),none,.fields ⟨[(sv z51 719),(sv z51 720),(sv z9 721),(iv 167 0),(iv 0 0),(iv 0 0),(iv 0 0),(iv 0 0),(rv 428),(.bool false),(iv 181 0),(rv 429),nv,nv,nv,nv,(iv 722 0),(iv 167 0),(sv z9 723)]⟩,⟨[]⟩⟩,⟨(tv S.t6),none,.plain,⟨[(some (rv 430)),(some (rv 3)),(some (rv 427)),none,(some (sv aN 654)),none,(some (rv 0))]⟩⟩,eT,eF,sn 732 [aB,kU],eT,fN (aE 44 0) ahX 0,anN,anP,eT,eF,sn 740 [aB,b7,mQ,amp],eT,fN (aE 44 1) ahY 0,anQ,anR,eT,eF,sn 750 [aB,mQ],eT,fN (aE 44 2) ahZ 0,anT,anU,eT,eF,sn 758 [aB],eT,fN (aE 44 3) ai0 0,anV,anW,sn 762 [eG,kU,eg],anX P,anY,⟨(tv S.t7),none,.fields ⟨[(rv 462),(rv 462),(rv 462)]⟩,⟨[]⟩⟩,⟨(tv S.t4),none,.fields ⟨[(bv S.lS),(rv 462)]⟩,⟨[]⟩⟩])
def CH:BT:=(cb (gY (CG P) [(3,bw P (ke P z0 165 (sv aN 654)) 50 51),(12,bx 111),(420,⟨(tv S.t0),none,.cls (ik iV [(tv S.t2)] [(rv 420),(tv S.t2)] 419 iV [(rv 462),(rv 501)]),⟨[none,none,(some (sv iV 658)),(some (sv iV 666)),(some (bv S.t8)),(some (.bool true))]⟩⟩)]) 465 [sq [(rv 420)],⟨(tv S.t4),none,.fields ⟨[(bv S.t9),(tv S.t0)]⟩,⟨[]⟩⟩,⟨(tv S.t1),none,.dict ⟨[ke P bH 776 (sv aN 654),ke P ef 778 (sv z52 777),ke P bI 780 (iv 188 779),ke P bh 790 (rv 479),ke P dY 799 (rv 486),ke P bi 806 (rv 493),ke P bK 812 (rv 498),ke P bJ 817 (rv 499)]⟩ 8,⟨[]⟩⟩,eT,⟨nv,none,.fields ⟨[(iv 190 0),(iv 4 0),(rv 478),(iv 196 0),(iv 4 0),(rv 485),(iv 205 0),(iv 4 0),(rv 492),(iv 210 0),(iv 4 0),(rv 497)]⟩,⟨[]⟩⟩,⟨(tv S.t3),none,.fields ⟨[(sv z52 771),(sv z52 772),(sv z9 773),(iv 188 0),(iv 0 0),(iv 0 0),(iv 0 0),(iv 0 0),(rv 468),(.bool false),(iv 181 0),(rv 469),nv,nv,nv,nv,(iv 774 0),(iv 188 0),(sv z9 775)]⟩,⟨[]⟩⟩,⟨(tv S.t6),none,.plain,⟨[(some (rv 470)),(some (rv 3)),(some (rv 467)),none,(some (sv aN 654)),none,(some (rv 0))]⟩⟩,sq [nv,nv],eT,eF,sn 784 [aB,ai1,amq,wa],eT,fN (aE 45 0) ai2 0,cP bh ai2 781 190 4 473 788,pg (tv S.pC) (aE 45 0) ai2 3 (rv 472) nv nv (sv aN 654) (rv 478) nv,eT,eF,sn 794 [aB,b7,amp],eT,fN (aE 45 1) ai3 0,cP dY ai3 791 196 2 480 797,fF (aE 45 1) ai3 3 aN 654 485,eT,eF,sn 803 [aB],eT,fN (aE 45 2) ai4 0,cP bi ai4 800 205 1 487 804,fF (aE 45 2) ai4 3 aN 654 492,eT,eF,fN (aE 45 3) ai5 0,⟨(tv S.t3),none,.fields ⟨[(sv bK 807),(sv ai5 808),(sv z9 809),(iv 210 0),(iv 1 0),(iv 0 0),(iv 0 0),(iv 3 0),(rv 494),(.bool true),(iv 181 0),(rv 495),nv,nv,nv,(rv 496),(iv 810 0),(iv 210 0),(sv z9 811)]⟩,⟨[]⟩⟩,fF (aE 45 3) ai5 3 aN 654 497,sn 813 [amq,ai1,wa,eg],⟨(tv S.t1),none,.dict ⟨[ke P bH 776 (sv aN 654),ke P bI 780 (iv 188 779),ke P bh 790 (rv 479),ke P dY 799 (rv 486),ke P bi 806 (rv 493),ke P bK 812 (rv 498),ke P bJ 817 (rv 499),ke P z2 818 nv]⟩ 2,⟨[]⟩⟩,⟨(tv S.t0),none,.cls (ik z52 [(rv 420)] [(rv 501),(rv 420),(tv S.t2)] 500 z52 []),⟨[(some (rv 465)),none,(some (sv z52 769)),(some (sv z52 777)),(some (bv S.t8)),(some (.bool true))]⟩⟩,⟨(tv S.t7),none,.fields ⟨[(rv 501),(rv 501),(rv 501)]⟩,⟨[]⟩⟩,⟨(tv S.t4),none,.fields ⟨[(bv S.lS),(rv 501)]⟩,⟨[]⟩⟩])
def CJ:BT:=(cb (gY (CH P) [(3,bw P (ke P z0 165 (sv aN 654)) 52 53),(12,bx 117),(420,⟨(tv S.t0),none,.cls (ik iV [(tv S.t2)] [(rv 420),(tv S.t2)] 419 iV [(rv 462),(rv 501),(rv 541)]),⟨[none,none,(some (sv iV 658)),(some (sv iV 666)),(some (bv S.t8)),(some (.bool true))]⟩⟩)]) 504 [sq [(rv 420)],⟨(tv S.t4),none,.fields ⟨[(bv S.t9),(tv S.t0)]⟩,⟨[]⟩⟩,⟨(tv S.t1),none,.dict ⟨[ke P bH 828 (sv aN 654),ke P ef 830 (sv z53 829),ke P bI 832 (iv 212 831),ke P bh 840 (rv 517),ke P dY 848 (rv 524),ke P bi 855 (rv 531),ke P bK 862 (rv 538),ke P bJ 865 (rv 539)]⟩ 8,⟨[]⟩⟩,eT,⟨nv,none,.fields ⟨[(iv 214 0),(iv 4 0),(rv 516),(iv 218 0),(iv 4 0),(rv 523),(iv 222 0),(iv 4 0),(rv 530),(iv 225 0),(iv 4 0),(rv 537)]⟩,⟨[]⟩⟩,⟨(tv S.t3),none,.fields ⟨[(sv z53 823),(sv z53 824),(sv z9 825),(iv 212 0),(iv 0 0),(iv 0 0),(iv 0 0),(iv 0 0),(rv 507),(.bool false),(iv 181 0),(rv 508),nv,nv,nv,nv,(iv 826 0),(iv 212 0),(sv z9 827)]⟩,⟨[]⟩⟩,⟨(tv S.t6),none,.plain,⟨[(some (rv 509)),(some (rv 3)),(some (rv 506)),none,(some (sv aN 654)),none,(some (rv 0))]⟩⟩,eT,eF,sn 836 [aB,amr],eT,fN (aE 46 0) ai6 0,cP bh ai6 833 214 2 511 838,fF (aE 46 0) ai6 3 aN 654 516,eT,eF,sn 844 [aB,b7],eT,fN (aE 46 1) ai7 0,cP dY ai7 841 218 2 518 846,fF (aE 46 1) ai7 3 aN 654 523,eT,eF,sn 852 [aB],eT,fN (aE 46 2) ai8 0,cP bi ai8 849 222 1 525 853,fF (aE 46 2) ai8 3 aN 654 530,eT,eF,sn 859 [aB],eT,fN (aE 46 3) ai9 0,cP bK ai9 856 225 1 532 860,fF (aE 46 3) ai9 3 aN 654 537,sn 863 [amr,eg],⟨(tv S.t1),none,.dict ⟨[ke P bH 828 (sv aN 654),ke P bI 832 (iv 212 831),ke P bh 840 (rv 517),ke P dY 848 (rv 524),ke P bi 855 (rv 531),ke P bK 862 (rv 538),ke P bJ 865 (rv 539),ke P z2 866 nv]⟩ 2,⟨[]⟩⟩,⟨(tv S.t0),none,.cls (ik z53 [(rv 420)] [(rv 541),(rv 420),(tv S.t2)] 540 z53 []),⟨[(some (rv 504)),none,(some (sv z53 821)),(some (sv z53 829)),(some (bv S.t8)),(some (.bool true))]⟩⟩,⟨(tv S.t7),none,.fields ⟨[(rv 541),(rv 541),(rv 541)]⟩,⟨[]⟩⟩,⟨(tv S.t4),none,.fields ⟨[(bv S.lS),(rv 541)]⟩,⟨[]⟩⟩,eT,eF,sn 872 [b7,pj],sn 874 [b7],fN (aK 47) z54 0,cP z54 z54 869 227 1 544 875,fF (aK 47) z54 3 aN 654 549])
def anZ:Obj:=cP bh aia 890 234 7 558 900
def ao0:Obj:=fF (aE 48 0) aia 3 aN 654 563
def ao1:Obj:=cP abq aib 903 237 7 565 913
def ao2:Obj:=fF (aE 48 1) aib 3 aN 654 570
def ao3:Obj:=cP abr aic 916 265 2 572 921
def ao4:Obj:=fF (aE 48 2) aic 3 aN 654 577
def ao5:Obj:=cP abt aid 924 270 2 579 930
def ao6:Obj:=fF (aE 48 3) aid 3 aN 654 584
def ao7:Obj:=cP abu aie 933 276 2 586 939
def ao8:Obj:=fF (aE 48 4) aie 3 aN 654 591
def ao9:Obj:=cP abv aif 942 281 2 593 948
def aoa:Obj:=fF (aE 48 5) aif 3 aN 654 598
def aob:Obj:=cP abw aig 951 287 1 600 955
def aoc:Obj:=fF (aE 48 6) aig 3 aN 654 605
def aod:Obj:=eT
def aoe:Obj:=sq [(rv 607)]
def aof:Obj:=cP abx aih 958 290 3 609 965
def aog:Obj:=pg (tv S.pC) (aE 48 7) aih 3 (rv 608) nv nv (sv aN 654) (rv 614) nv
def aoh:Obj:=cP aby aii 968 298 1 616 973
def aoi:Obj:=fF (aE 48 8) aii 3 aN 654 621
def aoj:Obj:=cP abz aij 976 309 3 623 982
def aok:Obj:=fF (aE 48 9) aij 3 aN 654 628
def aol:Obj:=cP abA aik 985 313 2 630 990
def aom:Obj:=fF (aE 48 10) aik 3 aN 654 635
def aon:Obj:=cP abB ail 993 317 2 637 998
def aoo:Obj:=fF (aE 48 11) ail 3 aN 654 642
def aop:Obj:=cP abC aim 1001 329 2 644 1006
def aoq:Obj:=fF (aE 48 12) aim 3 aN 654 649
def aor:Obj:=cP abD ain 1009 335 2 651 1014
def aos:Obj:=fF (aE 48 13) ain 3 aN 654 656
def aot:Obj:=cP abE aio 1017 341 2 658 1022
def aou:Obj:=fF (aE 48 14) aio 3 aN 654 663
def aov:Obj:=cP abF aip 1025 349 2 665 1030
def aow:Obj:=fF (aE 48 15) aip 3 aN 654 670
def aox:Obj:=cP abG aiq 1033 352 2 672 1039
def aoy:Obj:=fF (aE 48 16) aiq 3 aN 654 677
def aoz:Obj:=cP abH air 1042 358 2 679 1048
def aoA:Obj:=fF (aE 48 17) air 3 aN 654 684
def aoB:Obj:=cP abI ait 1051 367 2 686 1060
def aoC:Obj:=fF (aE 48 18) ait 3 aN 654 691
def aoD:Obj:=cP abJ aiu 1063 383 2 693 1068
def aoE:Obj:=fF (aE 48 19) aiu 3 aN 654 698
def aoF:Obj:=cP abK aiv 1071 386 2 700 1076
def aoG:Obj:=fF (aE 48 20) aiv 3 aN 654 705
def aoH:Obj:=cP abL aiw 1079 390 3 707 1086
def aoI:Obj:=fF (aE 48 21) aiw 3 aN 654 712
def aoJ:Obj:=cP dY aix 1089 400 1 714 1096
def aoK:Obj:=fF (aE 48 22) aix 3 aN 654 719
def aoL:Obj:=sq [(iv 0 1099)]
def aoM:Obj:=cP pk aiy 1100 414 3 722 1107
def aoN:Obj:=pg (tv S.pC) (aE 48 23) aiy 3 (rv 721) nv nv (sv aN 654) (rv 727) nv
def aoO:Obj:=cP abM aiz 1110 427 3 729 1116
def aoP:Obj:=fF (aE 48 24) aiz 3 aN 654 734
def aoQ:Obj:=cP mR aiA 1119 431 2 736 1125
def aoR:Obj:=fF (aE 48 25) aiA 3 aN 654 741
def aoS:Obj:=cP abN aiB 1128 441 4 743 1135
def aoT:Obj:=fF (aE 48 26) aiB 3 aN 654 748
def aoU:Obj:=cP abO aiC 1138 444 3 750 1144
def aoV:Obj:=fF (aE 48 27) aiC 3 aN 654 755
def aoW:Obj:=cP abP aiD 1147 447 2 757 1152
def aoX:Obj:=fF (aE 48 28) aiD 3 aN 654 762
def aoY:Obj:=⟨(tv S.t1),none,.dict ⟨[ke P bH 885 (sv aN 654),ke P bI 889 (iv 232 888),ke P bh 902 (rv 564),ke P abq 915 (rv 571),ke P abr 923 (rv 578),ke P abt 932 (rv 585),ke P abu 941 (rv 592),ke P abv 950 (rv 599),ke P abw 957 (rv 606),ke P abx 967 (rv 615),ke P aby 975 (rv 622),ke P abz 984 (rv 629),ke P abA 992 (rv 636),ke P abB 1000 (rv 643),ke P abC 1008 (rv 650),ke P abD 1016 (rv 657),ke P abE 1024 (rv 664),ke P abF 1032 (rv 671),ke P abG 1041 (rv 678),ke P abH 1050 (rv 685),ke P abI 1062 (rv 692),ke P abJ 1070 (rv 699),ke P abK 1078 (rv 706),ke P abL 1088 (rv 713),ke P dY 1098 (rv 720),ke P pk 1109 (rv 728),ke P abM 1118 (rv 735),ke P mR 1127 (rv 742),ke P abN 1137 (rv 749),ke P abO 1146 (rv 756),ke P abP 1154 (rv 763),ke P bJ 1181 (rv 764),ke P dK 1183 (rv 767),ke P dq 1185 (rv 768),ke P z2 1186 nv]⟩ 4,⟨[]⟩⟩
def aoZ:Obj:=⟨(tv S.t0),none,.cls (ik z55 [(tv S.t2)] [(rv 766),(tv S.t2)] 765 z55 []),⟨[none,none,(some (sv z55 878)),(some (sv z55 886)),(some (bv S.t8)),(some (.bool true))]⟩⟩
def CK:BT:=(cb (gY (CJ P) [(3,bw P (ke P z0 165 (sv aN 654)) 53 54),(12,bx 120)]) 551 [eT,⟨(tv S.t4),none,.fields ⟨[(bv S.t9),(tv S.t0)]⟩,⟨[]⟩⟩,⟨(tv S.t1),none,.dict ⟨[ke P bH 885 (sv aN 654),ke P ef 887 (sv z55 886),ke P bI 889 (iv 232 888),ke P bh 902 (rv 564),ke P abq 915 (rv 571),ke P abr 923 (rv 578),ke P abt 932 (rv 585),ke P abu 941 (rv 592),ke P abv 950 (rv 599),ke P abw 957 (rv 606),ke P abx 967 (rv 615),ke P aby 975 (rv 622),ke P abz 984 (rv 629),ke P abA 992 (rv 636),ke P abB 1000 (rv 643),ke P abC 1008 (rv 650),ke P abD 1016 (rv 657),ke P abE 1024 (rv 664),ke P abF 1032 (rv 671),ke P abG 1041 (rv 678),ke P abH 1050 (rv 685),ke P abI 1062 (rv 692),ke P abJ 1070 (rv 699),ke P abK 1078 (rv 706),ke P abL 1088 (rv 713),ke P dY 1098 (rv 720),ke P pk 1109 (rv 728),ke P abM 1118 (rv 735),ke P mR 1127 (rv 742),ke P abN 1137 (rv 749),ke P abO 1146 (rv 756),ke P abP 1154 (rv 763),ke P bJ 1181 (rv 764)]⟩ 33,⟨[]⟩⟩,eT,⟨nv,none,.fields ⟨[(iv 234 0),(iv 4 0),(rv 563),(iv 237 0),(iv 4 0),(rv 570),(iv 265 0),(iv 4 0),(rv 577),(iv 270 0),(iv 4 0),(rv 584),(iv 276 0),(iv 4 0),(rv 591),(iv 281 0),(iv 4 0),(rv 598),(iv 287 0),(iv 4 0),(rv 605),(iv 290 0),(iv 4 0),(rv 614),(iv 298 0),(iv 4 0),(rv 621),(iv 309 0),(iv 4 0),(rv 628),(iv 313 0),(iv 4 0),(rv 635),(iv 317 0),(iv 4 0),(rv 642),(iv 329 0),(iv 4 0),(rv 649),(iv 335 0),(iv 4 0),(rv 656),(iv 341 0),(iv 4 0),(rv 663),(iv 349 0),(iv 4 0),(rv 670),(iv 352 0),(iv 4 0),(rv 677),(iv 358 0),(iv 4 0),(rv 684),(iv 367 0),(iv 4 0),(rv 691),(iv 383 0),(iv 4 0),(rv 698),(iv 386 0),(iv 4 0),(rv 705),(iv 390 0),(iv 4 0),(rv 712),(iv 400 0),(iv 4 0),(rv 719),(iv 414 0),(iv 4 0),(rv 727),(iv 427 0),(iv 4 0),(rv 734),(iv 431 0),(iv 4 0),(rv 741),(iv 441 0),(iv 4 0),(rv 748),(iv 444 0),(iv 4 0),(rv 755),(iv 447 0),(iv 4 0),(rv 762)]⟩,⟨[]⟩⟩,⟨(tv S.t3),none,.fields ⟨[(sv z55 880),(sv z55 881),(sv z9 882),(iv 232 0),(iv 0 0),(iv 0 0),(iv 0 0),(iv 0 0),(rv 554),(.bool false),(iv 181 0),(rv 555),nv,nv,nv,nv,(iv 883 0),(iv 232 0),(sv z9 884)]⟩,⟨[]⟩⟩,⟨(tv S.t6),none,.plain,⟨[(some (rv 556)),(some (rv 3)),(some (rv 553)),none,(some (sv aN 654)),none,(some (rv 0))]⟩⟩,eT,eF,sn 893 [aB,pn,jb,mS,yL,wb,yM],eT,fN (aE 48 0) aia 0,anZ,ao0,eT,eF,sn 906 [aB,pn,jb,mS,yL,wb,yM],eT,fN (aE 48 1) aib 0,ao1,ao2,eT,eF,sn 919 [aB,yN],eT,fN (aE 48 2) aic 0,ao3,ao4,eT,eF,sn 927 [aB,yN,eG],eT,fN (aE 48 3) aid 0,ao5,ao6,eT,eF,sn 936 [aB,cR,yN],eT,fN (aE 48 4) aie 0,ao7,ao8,eT,eF,sn 945 [aB,yN,eG],eT,fN (aE 48 5) aif 0,ao9,aoa,eT,eF,sn 954 [aB],eT,fN (aE 48 6) aig 0,aob,aoc,aod,aoe,eT,eF,sn 961 [aB,aus,aut,eG],eT,fN (aE 48 7) aih 0,aof,aog,eT,eF,sn 971 [aB,eG],eT,fN (aE 48 8) aii 0,aoh,aoi,eT,eF,sn 979 [aB,eg,bi],eT,fN (aE 48 9) aij 0,aoj,aok,eT,eF,sn 988 [aB,bi],eT,fN (aE 48 10) aik 0,aol,aom,eT,eF,sn 996 [aB,bi],eT,fN (aE 48 11) ail 0,aon,aoo,eT,eF,sn 1004 [aB,bi],eT,fN (aE 48 12) aim 0,aop,aoq,eT,eF,sn 1012 [aB,bi],eT,fN (aE 48 13) ain 0,aor,aos,eT,eF,sn 1020 [aB,bi],eT,fN (aE 48 14) aio 0,aot,aou,eT,eF,sn 1028 [aB,mO],eT,fN (aE 48 15) aip 0,aov,aow,eT,eF,sn 1036 [aB,bi,pj],eT,fN (aE 48 16) aiq 0,aox,aoy,eT,eF,sn 1045 [aB,bi,ph],eT,fN (aE 48 17) air 0,aoz,aoA,eT,eF,sn 1054 [aB,bi,ams,pq,cR,ais],eT,fN (aE 48 18) ait 0,aoB,aoC,eT,eF,sn 1066 [aB,ai1],eT,fN (aE 48 19) aiu 0,aoD,aoE,eT,eF,sn 1074 [aB,mO],eT,fN (aE 48 20) aiv 0,aoF,aoG,eT,eF,sn 1082 [aB,v8,bi,ams],eT,fN (aE 48 21) aiw 0,aoH,aoI,eT,eF,sn 1092 [aB,yN,ais,bi],eT,fN (aE 48 22) aix 0,aoJ,aoK,aoL,eT,eF,sn 1103 [aB,yO,yP,abQ],eT,fN (aE 48 23) aiy 0,aoM,aoN,eT,eF,sn 1113 [aB,mO,yO],eT,fN (aE 48 24) aiz 0,aoO,aoP,eT,eF,sn 1122 [aB,bi,ais],eT,fN (aE 48 25) aiA 0,aoQ,aoR,eT,eF,sn 1131 [aB,bi,yO,yP],eT,fN (aE 48 26) aiB 0,aoS,aoT,eT,eF,sn 1141 [aB,bi,yO],eT,fN (aE 48 27) aiC 0,aoU,aoV,eT,eF,sn 1150 [aB,auu],eT,fN (aE 48 28) aiD 0,aoW,aoX,sn 1155 [rY,aiE,mS,yM,aiF,aiG,rZ,aiH,se,abn,aiI,aiJ,aiK,aiL,wb,pn,jb,aiM,aiN,aiO,yL,abR,sf,aiP,aiQ,aiR],aoY P,aoZ,⟨(tv S.t5),none,.fields ⟨[(sv dK 1182),(rv 766),(bv S.yX),(bv S.yY)]⟩,⟨[]⟩⟩,⟨(tv S.t5),none,.fields ⟨[(sv dq 1184),(rv 766),(bv S.wE),nv]⟩,⟨[]⟩⟩,⟨(tv S.t7),none,.fields ⟨[(rv 766),(rv 766),(rv 766)]⟩,⟨[]⟩⟩,⟨(tv S.t4),none,.fields ⟨[(bv S.lS),(rv 766)]⟩,⟨[]⟩⟩])
def um:Obj:=⟨(tv S.t0),none,.cls (ik iV [(tv S.t2)] [(rv 420),(tv S.t2)] 419 iV [(rv 462),(rv 501),(rv 541),(rv 815)]),⟨[none,none,(some (sv iV 658)),(some (sv iV 666)),(some (bv S.t8)),(some (.bool true))]⟩⟩
def ap0:Obj:=cP bh aiT 1203 452 2 778 1208
def ap1:Obj:=fF (aE 50 0) aiT 3 mT 1189 783
def ap2:Obj:=cP si aiU 1211 456 1 785 1215
def ap3:Obj:=fF (aE 50 1) aiU 3 mT 1189 790
def ap4:Obj:=cP sj aiV 1218 459 2 792 1223
def ap5:Obj:=fF (aE 50 2) aiV 3 mT 1189 797
def ap6:Obj:=cP bK aiW 1226 462 1 799 1230
def ap7:Obj:=fF (aE 50 3) aiW 3 mT 1189 804
def ap8:Obj:=cP dY aiX 1233 465 2 806 1238
def ap9:Obj:=fF (aE 50 4) aiX 3 mT 1189 811
def apa:Obj:=⟨(tv S.t1),none,.dict ⟨[ke P bH 1198 (sv mT 1189),ke P bI 1202 (iv 450 1201),ke P bh 1210 (rv 784),ke P si 1217 (rv 791),ke P sj 1225 (rv 798),ke P bK 1232 (rv 805),ke P dY 1240 (rv 812),ke P bJ 1243 (rv 813),ke P z2 1244 nv]⟩ 2,⟨[]⟩⟩
def apb:Obj:=cP z57 z57 1247 471 1 818 1252
def apc:Obj:=fF (aK 51) z57 3 mT 1189 823
def CL:BT:=(cb (gY (CK P) [(3,bw P (ke P z0 165 (sv aiS 1255)) 55 56),(12,bx 126),(420,um)]) 771 [sq [(rv 420)],⟨(tv S.t4),none,.fields ⟨[(bv S.t9),(tv S.t0)]⟩,⟨[]⟩⟩,⟨(tv S.t1),none,.dict ⟨[ke P bH 1198 (sv mT 1189),ke P ef 1200 (sv ul 1199),ke P bI 1202 (iv 450 1201),ke P bh 1210 (rv 784),ke P si 1217 (rv 791),ke P sj 1225 (rv 798),ke P bK 1232 (rv 805),ke P dY 1240 (rv 812),ke P bJ 1243 (rv 813)]⟩ 9,⟨[]⟩⟩,eT,⟨nv,none,.fields ⟨[(iv 452 0),(iv 4 0),(rv 783),(iv 456 0),(iv 4 0),(rv 790),(iv 459 0),(iv 4 0),(rv 797),(iv 462 0),(iv 4 0),(rv 804),(iv 465 0),(iv 4 0),(rv 811)]⟩,⟨[]⟩⟩,⟨(tv S.t3),none,.fields ⟨[(sv ul 1193),(sv ul 1194),(sv z9 1195),(iv 450 0),(iv 0 0),(iv 0 0),(iv 0 0),(iv 0 0),(rv 774),(.bool false),(iv 181 0),(rv 775),nv,nv,nv,nv,(iv 1196 0),(iv 450 0),(sv z9 1197)]⟩,⟨[]⟩⟩,⟨(tv S.t6),none,.plain,⟨[(some (rv 776)),(some (rv 3)),(some (rv 773)),none,(some (sv mT 1189)),none,(some (rv 0))]⟩⟩,eT,eF,sn 1206 [aB,kU],eT,fN (aE 50 0) aiT 0,ap0,ap1,eT,eF,sn 1214 [aB],eT,fN (aE 50 1) aiU 0,ap2,ap3,eT,eF,sn 1221 [aB,b7],eT,fN (aE 50 2) aiV 0,ap4,ap5,eT,eF,sn 1229 [aB],eT,fN (aE 50 3) aiW 0,ap6,ap7,eT,eF,sn 1236 [aB,b7],eT,fN (aE 50 4) aiX 0,ap8,ap9,sn 1241 [kU,eg],apa P,⟨(tv S.t0),none,.cls (ik ul [(rv 420)] [(rv 815),(rv 420),(tv S.t2)] 814 ul []),⟨[(some (rv 771)),none,(some (sv ul 1191)),(some (sv ul 1199)),(some (bv S.t8)),(some (.bool true))]⟩⟩,⟨(tv S.t7),none,.fields ⟨[(rv 815),(rv 815),(rv 815)]⟩,⟨[]⟩⟩,⟨(tv S.t4),none,.fields ⟨[(bv S.lS),(rv 815)]⟩,⟨[]⟩⟩,eT,eF,sn 1250 [b7,v9],eT,fN (aK 51) z57 0,apb,apc])
def apd:Obj:=cP z59 z59 1262 478 2 825 1270
def ape:Obj:=fF (aK 54) z59 3 aiS 1255 830
def apf:Obj:=cP z60 z60 1273 482 1 832 1277
def apg:Obj:=fF (aK 55) z60 3 aiS 1255 837
def aph:Obj:=cP z62 z62 1284 488 2 839 1289
def api:Obj:=fF (aK 58) z62 3 pu 1280 844
def apj:Obj:=cP z63 z63 1292 490 2 846 1297
def apk:Obj:=fF (aK 59) z63 3 pu 1280 851
def apl:Obj:=cP z64 z64 1300 492 1 853 1304
def apm:Obj:=fF (aK 60) z64 3 pu 1280 858
def apn:Obj:=cP z65 z65 1307 494 1 860 1312
def apo:Obj:=fF (aK 61) z65 3 pu 1280 865
def app:Obj:=cP z66 z66 1315 499 3 867 1321
def apq:Obj:=fF (aK 62) z66 3 pu 1280 872
def apr:Obj:=cP z67 z67 1324 501 3 874 1331
def aps:Obj:=fF (aK 63) z67 3 pu 1280 879
def apt:Obj:=cP z68 z68 1334 504 3 881 1340
def apu:Obj:=fF (aK 64) z68 3 pu 1280 886
def apv:Obj:=⟨(tv S.t3),none,.fields ⟨[(sv z69 1343),(sv z69 1344),(sv z9 1345),(iv 506 0),(iv 1 0),(iv 0 0),(iv 0 0),(iv 3 0),(rv 888),(.bool true),(iv 181 0),(rv 889),nv,nv,nv,(rv 890),(iv 1346 0),(iv 506 0),(sv z9 1347)]⟩,⟨[]⟩⟩
def apw:Obj:=fF (aK 65) z69 3 pu 1280 891
def apx:Obj:=sn 1351 [gW,aiY]
def CM:BT:=(cb (gY (CL P) [(3,bw P (ke P z0 165 (sv cX 1349)) 68 69),(12,bx 156)]) 825 [eT,eF,sn 1265 [cQ,wc,amt,auv,pj],eT,fN (aK 54) z59 0,apd,ape,eT,eF,sn 1276 [amo],eT,fN (aK 55) z60 0,apf,apg,eT,eF,sn 1287 [cQ,wc],eT,fN (aK 58) z62 0,aph,api,eT,eF,sn 1295 [aW,auw],eT,fN (aK 59) z63 0,apj,apk,eT,eF,sn 1303 [aW],eT,fN (aK 60) z64 0,apl,apm,eT,eF,sn 1310 [aW,pj],eT,fN (aK 61) z65 0,apn,apo,eT,eF,sn 1318 [aW,mU,mV],eT,fN (aK 62) z66 0,app,apq,eT,eF,sn 1327 [aW,mU,mV,wc],eT,fN (aK 63) z67 0,apr,aps,eT,eF,sn 1337 [aW,mU,mV],eT,fN (aK 64) z68 0,apt,apu,eT,eF,fN (aK 65) z69 0,apv,apw,apx])
def apy:Obj:=cP bh aiZ 1366 514 2 901 1371
def apz:Obj:=fF (aE 68 0) aiZ 3 cX 1349 906
def apA:Obj:=cP cR aj0 1374 518 1 908 1378
def apB:Obj:=fF (aE 68 1) aj0 3 cX 1349 913
def apC:Obj:=⟨(tv SL.s8101838861749082086x8),none,.fields ⟨[(rv 914),nv,nv,nv,(sv cR 1381),(.bool false)]⟩,⟨[]⟩⟩
def apD:Obj:=cP abS aj1 1382 522 2 916 1387
def apE:Obj:=fF (aE 68 2) aj1 3 cX 1349 921
def apF:Obj:=cP abT aj2 1390 527 2 923 1395
def apG:Obj:=fF (aE 68 3) aj2 3 cX 1349 928
def apH:Obj:=cP abU aj3 1398 532 1 930 1402
def apI:Obj:=fF (aE 68 4) aj3 3 cX 1349 935
def apJ:Obj:=cP eG aj4 1405 537 2 937 1410
def apK:Obj:=fF (aE 68 5) aj4 3 cX 1349 942
def apL:Obj:=cP abV aj5 1413 544 2 944 1418
def apM:Obj:=fF (aE 68 6) aj5 3 cX 1349 949
def apN:Obj:=cP pw aj6 1421 551 2 951 1427
def apO:Obj:=fF (aE 68 7) aj6 3 cX 1349 956
def apP:Obj:=cP abW aj7 1430 556 2 958 1435
def apQ:Obj:=fF (aE 68 8) aj7 3 cX 1349 963
def apR:Obj:=cP abX aj8 1438 559 3 965 1444
def apS:Obj:=fF (aE 68 9) aj8 3 cX 1349 970
def apT:Obj:=cP abY aj9 1447 562 1 972 1451
def apU:Obj:=fF (aE 68 10) aj9 3 cX 1349 977
def apV:Obj:=cP yQ aja 1454 565 1 979 1458
def apW:Obj:=fF (aE 68 11) aja 3 cX 1349 984
def apX:Obj:=cP abZ ajb 1461 568 2 986 1466
def apY:Obj:=fF (aE 68 12) ajb 3 cX 1349 991
def apZ:Obj:=⟨(tv S.t1),none,.dict ⟨[ke P bH 1361 (sv cX 1349),ke P bI 1365 (iv 512 1364),ke P bh 1373 (rv 907),ke P cR 1381 (rv 915),ke P abS 1389 (rv 922),ke P abT 1397 (rv 929),ke P abU 1404 (rv 936),ke P eG 1412 (rv 943),ke P abV 1420 (rv 950),ke P pw 1429 (rv 957),ke P abW 1437 (rv 964),ke P abX 1446 (rv 971),ke P abY 1453 (rv 978),ke P yQ 1460 (rv 985),ke P abZ 1468 (rv 992),ke P bJ 1471 (rv 993),ke P dK 1473 (rv 996),ke P dq 1475 (rv 997),ke P z2 1476 nv]⟩ 4,⟨[]⟩⟩
def aq0:Obj:=⟨(tv S.t0),none,.cls (ik z71 [(tv S.t2)] [(rv 995),(tv S.t2)] 994 z71 []),⟨[none,none,(some (sv z71 1354)),(some (sv z71 1362)),(some (bv S.t8)),(some (.bool true))]⟩⟩
def CN:BT:=(cb (gY (CM P) [(3,bw P (ke P z0 165 (sv cX 1349)) 69 70),(12,bx 159)]) 894 [eT,⟨(tv S.t4),none,.fields ⟨[(bv S.t9),(tv S.t0)]⟩,⟨[]⟩⟩,⟨(tv S.t1),none,.dict ⟨[ke P bH 1361 (sv cX 1349),ke P ef 1363 (sv z71 1362),ke P bI 1365 (iv 512 1364),ke P bh 1373 (rv 907),ke P cR 1381 (rv 915),ke P abS 1389 (rv 922),ke P abT 1397 (rv 929),ke P abU 1404 (rv 936),ke P eG 1412 (rv 943),ke P abV 1420 (rv 950),ke P pw 1429 (rv 957),ke P abW 1437 (rv 964),ke P abX 1446 (rv 971),ke P abY 1453 (rv 978),ke P yQ 1460 (rv 985),ke P abZ 1468 (rv 992),ke P bJ 1471 (rv 993)]⟩ 17,⟨[]⟩⟩,eT,⟨nv,none,.fields ⟨[(iv 514 0),(iv 4 0),(rv 906),(iv 519 0),(iv 4 0),(rv 913),(iv 522 0),(iv 4 0),(rv 921),(iv 527 0),(iv 4 0),(rv 928),(iv 532 0),(iv 4 0),(rv 935),(iv 537 0),(iv 4 0),(rv 942),(iv 544 0),(iv 4 0),(rv 949),(iv 551 0),(iv 4 0),(rv 956),(iv 556 0),(iv 4 0),(rv 963),(iv 559 0),(iv 4 0),(rv 970),(iv 562 0),(iv 4 0),(rv 977),(iv 565 0),(iv 4 0),(rv 984),(iv 568 0),(iv 4 0),(rv 991)]⟩,⟨[]⟩⟩,⟨(tv S.t3),none,.fields ⟨[(sv z71 1356),(sv z71 1357),(sv z9 1358),(iv 512 0),(iv 0 0),(iv 0 0),(iv 0 0),(iv 0 0),(rv 897),(.bool false),(iv 181 0),(rv 898),nv,nv,nv,nv,(iv 1359 0),(iv 512 0),(sv z9 1360)]⟩,⟨[]⟩⟩,⟨(tv S.t6),none,.plain,⟨[(some (rv 899)),(some (rv 3)),(some (rv 896)),none,(some (sv cX 1349)),none,(some (rv 0))]⟩⟩,eT,eF,sn 1369 [aB,gp],eT,fN (aE 68 0) aiZ 0,apy,apz,eT,eF,sn 1377 [aB],eT,fN (aE 68 1) aj0 0,apA,apB,apC,eT,eF,sn 1385 [aB,bi],eT,fN (aE 68 2) aj1 0,apD,apE,eT,eF,sn 1393 [aB,bK],eT,fN (aE 68 3) aj2 0,apF,apG,eT,eF,sn 1401 [aB],eT,fN (aE 68 4) aj3 0,apH,apI,eT,eF,sn 1408 [aB,yP],eT,fN (aE 68 5) aj4 0,apJ,apK,eT,eF,sn 1416 [aB,cR],eT,fN (aE 68 6) aj5 0,apL,apM,eT,eF,sn 1424 [aB,cR,pj],eT,fN (aE 68 7) aj6 0,apN,apO,eT,eF,sn 1433 [aB,cR],eT,fN (aE 68 8) aj7 0,apP,apQ,eT,eF,sn 1441 [aB,cR,wc],eT,fN (aE 68 9) aj8 0,apR,apS,eT,eF,sn 1450 [aB],eT,fN (aE 68 10) aj9 0,apT,apU,eT,eF,sn 1457 [aB],eT,fN (aE 68 11) aja 0,apV,apW,eT,eF,sn 1464 [aB,yQ],eT,fN (aE 68 12) ajb 0,apX,apY,sn 1469 [gp,bK],apZ P,aq0,⟨(tv S.t5),none,.fields ⟨[(sv dK 1472),(rv 995),(bv S.yX),(bv S.yY)]⟩,⟨[]⟩⟩,⟨(tv S.t5),none,.fields ⟨[(sv dq 1474),(rv 995),(bv S.wE),nv]⟩,⟨[]⟩⟩,⟨(tv S.t7),none,.fields ⟨[(rv 995),(rv 995),(rv 995)]⟩,⟨[]⟩⟩,⟨(tv S.t4),none,.fields ⟨[(bv S.lS),(rv 995)]⟩,⟨[]⟩⟩])
def ae6:Obj:=cP z72 z72 1479 570 2 1000 1484
def ae7:Obj:=fF (aK 69) z72 3 cX 1349 1005
def ae8:Obj:=cP z73 z73 1487 573 2 1007 1492
def ae9:Obj:=fF (aK 70) z73 3 cX 1349 1012
def aea:Obj:=cP z74 z74 1495 575 2 1014 1501
def aeb:Obj:=fF (aK 71) z74 3 cX 1349 1019
def aec:Obj:=sq [nv]
def aed:Obj:=cP z75 z75 1504 585 3 1022 1511
def aee:Obj:=pg (tv S.pC) (aK 72) z75 3 (rv 1021) nv nv (sv cX 1349) (rv 1027) nv
def aef:Obj:=⟨(tv S.t3),none,.fields ⟨[(sv z76 1514),(sv z76 1515),(sv z9 1516),(iv 591 0),(iv 2 0),(iv 0 0),(iv 0 0),(iv 3 0),(rv 1029),(.bool true),(iv 181 0),(rv 1030),nv,nv,nv,(rv 1031),(iv 1517 0),(iv 591 0),(sv z9 1518)]⟩,⟨[]⟩⟩
def aeg:Obj:=fF (aK 73) z76 3 cX 1349 1032
def aeh:Obj:=sn 1520 [auz]
def aei:Obj:=cP z77 z77 1521 595 2 1035 1526
def aej:Obj:=pg (tv S.pC) (aK 74) z77 3 (rv 1034) nv nv (sv cX 1349) (rv 1040) nv
def aek:Obj:=cP z78 z78 1529 599 1 1042 1534
def ael:Obj:=fF (aK 75) z78 3 cX 1349 1047
def aem:Obj:=cP z79 z79 1539 606 2 1049 1549
def aen:Obj:=fF (aK 77) z79 3 gq 1537 1054
def aeo:Obj:=⟨(tv S.t3),none,.fields ⟨[(sv z80 1552),(sv z80 1553),(sv z9 1554),(iv 614 0),(iv 2 0),(iv 0 0),(iv 0 0),(iv 3 0),(rv 1056),(.bool true),(iv 181 0),(rv 1057),nv,nv,nv,(rv 1058),(iv 1555 0),(iv 614 0),(sv z9 1556)]⟩,⟨[]⟩⟩
def aep:Obj:=fF (aK 78) z80 3 gq 1537 1059
def aeq:Obj:=cP z81 z81 1558 616 1 1061 1563
def aer:Obj:=fF (aK 79) z81 3 gq 1537 1066
def aes:Obj:=cP z82 z82 1566 619 1 1068 1571
def aet:Obj:=fF (aK 80) z82 3 gq 1537 1073
def aeu:Obj:=cP z83 z83 1574 622 1 1075 1581
def aev:Obj:=fF (aK 81) z83 3 gq 1537 1080
def aew:Obj:=cP z84 z84 1584 625 1 1082 1588
def aex:Obj:=fF (aK 82) z84 3 gq 1537 1087
def CO:BT:=(cb (gY (CN P) [(3,bw P (ke P z0 165 (sv gq 1537)) 82 83),(12,bx 198)]) 1000 [eT,eF,sn 1482 [b7,cR],eT,fN (aK 69) z72 0,ae6,ae7,eT,eF,sn 1490 [b7,yP],eT,fN (aK 70) z73 0,ae8,ae9,eT,eF,sn 1498 [bi,ac0,aux],eT,fN (aK 71) z74 0,aea,aeb,aec,eT,eF,sn 1507 [b7,auy,ac0,bi],eT,fN (aK 72) z75 0,aed,aee,eT,eF,fN (aK 73) z76 0,aef,aeg,aeh,eT,eF,sn 1524 [b7,ac0],eT,fN (aK 74) z77 0,aei,aej,eT,eF,sn 1532 [b7,bi],eT,fN (aK 75) z78 0,aek,ael,eT,eF,sn 1542 [b7,cR,gs,pj,eG,mU,mV],eT,fN (aK 77) z79 0,aem,aen,eT,eF,fN (aK 78) z80 0,aeo,aep,eT,eF,sn 1561 [b7,mW],eT,fN (aK 79) z81 0,aeq,aer,eT,eF,sn 1569 [b7,mW],eT,fN (aK 80) z82 0,aes,aet,eT,eF,sn 1577 [b7,mX,auA,abQ],eT,fN (aK 81) z83 0,aeu,aev,eT,eF,sn 1587 [b7],eT,fN (aK 82) z84 0,aew,aex])
def un:Obj:=⟨(tv S.t0),none,.cls (ik ul [(rv 420)] [(rv 815),(rv 420),(tv S.t2)] 814 ul [(rv 1124)]),⟨[(some (rv 771)),none,(some (sv ul 1191)),(some (sv ul 1199)),(some (bv S.t8)),(some (.bool true))]⟩⟩
def aey:Obj:=cP bh ajc 1603 629 3 1096 1609
def aez:Obj:=fF (aE 83 0) ajc 3 gq 1537 1101
def aeA:Obj:=⟨(tv S.t3),none,.fields ⟨[(sv bK 1612),(sv ajd 1613),(sv z9 1614),(iv 636 0),(iv 1 0),(iv 0 0),(iv 0 0),(iv 3 0),(rv 1103),(.bool true),(iv 181 0),(rv 1104),nv,nv,nv,(rv 1105),(iv 1615 0),(iv 636 0),(sv z9 1616)]⟩,⟨[]⟩⟩
def aeB:Obj:=fF (aE 83 1) ajd 3 gq 1537 1106
def aeC:Obj:=cP si aje 1618 639 1 1108 1622
def aeD:Obj:=fF (aE 83 2) aje 3 gq 1537 1113
def aeE:Obj:=cP sj ajf 1625 642 2 1115 1633
def aeF:Obj:=fF (aE 83 3) ajf 3 gq 1537 1120
def aeG:Obj:=⟨(tv S.t1),none,.dict ⟨[ke P bH 1598 (sv gq 1537),ke P bI 1602 (iv 627 1601),ke P bh 1611 (rv 1102),ke P bK 1617 (rv 1107),ke P si 1624 (rv 1114),ke P sj 1635 (rv 1121),ke P bJ 1641 (rv 1122),ke P z2 1642 nv]⟩ 2,⟨[]⟩⟩
def aeH:Obj:=⟨(tv S.t0),none,.cls (ik z85 [(rv 815)] [(rv 1124),(rv 815),(rv 420),(tv S.t2)] 1123 z85 []),⟨[(some (rv 1089)),none,(some (sv z85 1591)),(some (sv z85 1599)),(some (bv S.t8)),(some (.bool true))]⟩⟩
def aeI:Obj:=cP z86 z86 1645 649 1 1127 1654
def aeJ:Obj:=fF (aK 84) z86 3 gq 1537 1132
def CP:BT:=(cb (gY (CO P) [(3,bw P (ke P z0 165 (sv ac1 1657)) 84 85),(12,bx 204),(815,un)]) 1089 [sq [(rv 815)],⟨(tv S.t4),none,.fields ⟨[(bv S.t9),(tv S.t0)]⟩,⟨[]⟩⟩,⟨(tv S.t1),none,.dict ⟨[ke P bH 1598 (sv gq 1537),ke P ef 1600 (sv z85 1599),ke P bI 1602 (iv 627 1601),ke P bh 1611 (rv 1102),ke P bK 1617 (rv 1107),ke P si 1624 (rv 1114),ke P sj 1635 (rv 1121),ke P bJ 1641 (rv 1122)]⟩ 8,⟨[]⟩⟩,eT,⟨nv,none,.fields ⟨[(iv 629 0),(iv 4 0),(rv 1101),(iv 636 0),(iv 4 0),(rv 1106),(iv 639 0),(iv 4 0),(rv 1113),(iv 642 0),(iv 4 0),(rv 1120)]⟩,⟨[]⟩⟩,⟨(tv S.t3),none,.fields ⟨[(sv z85 1593),(sv z85 1594),(sv z9 1595),(iv 627 0),(iv 0 0),(iv 0 0),(iv 0 0),(iv 0 0),(rv 1092),(.bool false),(iv 181 0),(rv 1093),nv,nv,nv,nv,(iv 1596 0),(iv 627 0),(sv z9 1597)]⟩,⟨[]⟩⟩,⟨(tv S.t6),none,.plain,⟨[(some (rv 1094)),(some (rv 3)),(some (rv 1091)),none,(some (sv gq 1537)),none,(some (rv 0))]⟩⟩,eT,eF,sn 1606 [aB,jc,px],eT,fN (aE 83 0) ajc 0,aey,aez,eT,eF,fN (aE 83 1) ajd 0,aeA,aeB,eT,eF,sn 1621 [aB],eT,fN (aE 83 2) aje 0,aeC,aeD,eT,eF,sn 1628 [aB,b7,dM,gs,v9],eT,fN (aE 83 3) ajf 0,aeE,aeF,sn 1636 [eG,kU,px,jc,eg],aeG P,aeH,⟨(tv S.t7),none,.fields ⟨[(rv 1124),(rv 1124),(rv 1124)]⟩,⟨[]⟩⟩,⟨(tv S.t4),none,.fields ⟨[(bv S.lS),(rv 1124)]⟩,⟨[]⟩⟩,eT,eF,sn 1648 [b7,yR,yS,yT,yU,px],eT,fN (aK 84) z86 0,aeI,aeJ])
def aeK:Obj:=⟨(tv S.t3),none,.fields ⟨[(sv z87 1659),(sv z87 1660),(sv z9 1661),(iv 656 0),(iv 1 0),(iv 0 0),(iv 0 0),(iv 3 0),(rv 1134),(.bool true),(iv 181 0),(rv 1135),nv,nv,nv,(rv 1136),(iv 1662 0),(iv 656 0),(sv z9 1663)]⟩,⟨[]⟩⟩
def aeL:Obj:=fF (aK 86) z87 3 ac1 1657 1137
def aeM:Obj:=⟨(tv S.t3),none,.fields ⟨[(sv z88 1665),(sv z88 1666),(sv z9 1667),(iv 661 0),(iv 2 0),(iv 0 0),(iv 0 0),(iv 3 0),(rv 1139),(.bool true),(iv 181 0),(rv 1140),nv,nv,nv,(rv 1141),(iv 1668 0),(iv 661 0),(sv z9 1669)]⟩,⟨[]⟩⟩
def aeN:Obj:=fF (aK 87) z88 3 ac1 1657 1142
def aeO:Obj:=cP z89 z89 1671 663 1 1144 1675
def aeP:Obj:=fF (aK 88) z89 3 ac1 1657 1149
def CQ:BT:=(cb (gY (CP P) [(3,bw P (ke P z0 165 (sv dG 1678)) 88 89),(12,bx 213)]) 1134 [eT,eF,fN (aK 86) z87 0,aeK,aeL,eT,eF,fN (aK 87) z88 0,aeM,aeN,eT,eF,sn 1674 [b7],eT,fN (aK 88) z89 0,aeO,aeP])
def aeQ:Obj:=sq [(iv 1500 1680)]
def aeR:Obj:=cP bh ajg 1694 670 2 1159 1699
def aeS:Obj:=pg (tv S.pC) (aE 91 0) ajg 3 (rv 1158) nv nv (sv dG 1678) (rv 1164) nv
def aeT:Obj:=cP jc ajh 1702 676 1 1166 1706
def aeU:Obj:=fF (aE 91 1) ajh 3 dG 1678 1171
def aeV:Obj:=cP ac2 aji 1709 679 1 1173 1713
def aeW:Obj:=fF (aE 91 2) aji 3 dG 1678 1178
def aeX:Obj:=cP rY ajj 1716 682 1 1180 1720
def aeY:Obj:=fF (aE 91 3) ajj 3 dG 1678 1185
def aeZ:Obj:=cP pA ajk 1723 687 1 1187 1728
def af0:Obj:=fF (aE 91 4) ajk 3 dG 1678 1192
def af1:Obj:=cP ac3 ajl 1731 694 1 1194 1735
def af2:Obj:=fF (aE 91 5) ajl 3 dG 1678 1199
def af3:Obj:=cP ac4 ajm 1738 697 2 1201 1743
def af4:Obj:=fF (aE 91 6) ajm 3 dG 1678 1206
def af5:Obj:=cP yU ajn 1746 701 3 1208 1753
def af6:Obj:=fF (aE 91 7) ajn 3 dG 1678 1213
def af7:Obj:=cP pk ajo 1756 710 3 1215 1762
def af8:Obj:=fF (aE 91 8) ajo 3 dG 1678 1220
def af9:Obj:=cP yT ajp 1765 718 3 1222 1771
def afa:Obj:=fF (aE 91 9) ajp 3 dG 1678 1227
def afb:Obj:=cP yS ajq 1774 721 7 1229 1784
def afc:Obj:=fF (aE 91 10) ajq 3 dG 1678 1234
def afd:Obj:=cP yR ajr 1787 724 1 1236 1791
def afe:Obj:=fF (aE 91 11) ajr 3 dG 1678 1241
def aff:Obj:=cP ac5 ajs 1794 731 2 1243 1799
def afg:Obj:=fF (aE 91 12) ajs 3 dG 1678 1248
def afh:Obj:=cP ac6 ajt 1802 734 1 1250 1806
def afi:Obj:=fF (aE 91 13) ajt 3 dG 1678 1255
def afj:Obj:=cP ac7 aju 1809 737 2 1257 1814
def afk:Obj:=fF (aE 91 14) aju 3 dG 1678 1262
def afl:Obj:=cP yI ajv 1817 740 1 1264 1821
def afm:Obj:=fF (aE 91 15) ajv 3 dG 1678 1269
def afn:Obj:=cP ac8 ajw 1824 743 2 1271 1829
def afo:Obj:=fF (aE 91 16) ajw 3 dG 1678 1276
def afp:Obj:=⟨(tv S.t1),none,.dict ⟨[ke P bH 1689 (sv dG 1678),ke P bI 1693 (iv 668 1692),ke P bh 1701 (rv 1165),ke P jc 1708 (rv 1172),ke P ac2 1715 (rv 1179),ke P rY 1722 (rv 1186),ke P pA 1730 (rv 1193),ke P ac3 1737 (rv 1200),ke P ac4 1745 (rv 1207),ke P yU 1755 (rv 1214),ke P pk 1764 (rv 1221),ke P yT 1773 (rv 1228),ke P yS 1786 (rv 1235),ke P yR 1793 (rv 1242),ke P ac5 1801 (rv 1249),ke P ac6 1808 (rv 1256),ke P ac7 1816 (rv 1263),ke P yI 1823 (rv 1270),ke P ac8 1831 (rv 1277),ke P bJ 1836 (rv 1278),ke P dK 1838 (rv 1281),ke P dq 1840 (rv 1282),ke P z2 1841 nv]⟩ 4,⟨[]⟩⟩
def afq:Obj:=⟨(tv S.t0),none,.cls (ik z91 [(tv S.t2)] [(rv 1280),(tv S.t2)] 1279 z91 []),⟨[none,none,(some (sv z91 1682)),(some (sv z91 1690)),(some (bv S.t8)),(some (.bool true))]⟩⟩
def CR:BT:=(cb (gY (CQ P) [(3,bw P (ke P z0 165 (sv dG 1678)) 89 90),(12,bx 216)]) 1151 [eT,⟨(tv S.t4),none,.fields ⟨[(bv S.t9),(tv S.t0)]⟩,⟨[]⟩⟩,⟨(tv S.t1),none,.dict ⟨[ke P bH 1689 (sv dG 1678),ke P ef 1691 (sv z91 1690),ke P bI 1693 (iv 668 1692),ke P bh 1701 (rv 1165),ke P jc 1708 (rv 1172),ke P ac2 1715 (rv 1179),ke P rY 1722 (rv 1186),ke P pA 1730 (rv 1193),ke P ac3 1737 (rv 1200),ke P ac4 1745 (rv 1207),ke P yU 1755 (rv 1214),ke P pk 1764 (rv 1221),ke P yT 1773 (rv 1228),ke P yS 1786 (rv 1235),ke P yR 1793 (rv 1242),ke P ac5 1801 (rv 1249),ke P ac6 1808 (rv 1256),ke P ac7 1816 (rv 1263),ke P yI 1823 (rv 1270),ke P ac8 1831 (rv 1277),ke P bJ 1836 (rv 1278)]⟩ 21,⟨[]⟩⟩,eT,⟨nv,none,.fields ⟨[(iv 670 0),(iv 4 0),(rv 1164),(iv 676 0),(iv 4 0),(rv 1171),(iv 679 0),(iv 4 0),(rv 1178),(iv 682 0),(iv 4 0),(rv 1185),(iv 687 0),(iv 4 0),(rv 1192),(iv 694 0),(iv 4 0),(rv 1199),(iv 697 0),(iv 4 0),(rv 1206),(iv 701 0),(iv 4 0),(rv 1213),(iv 710 0),(iv 4 0),(rv 1220),(iv 718 0),(iv 4 0),(rv 1227),(iv 721 0),(iv 4 0),(rv 1234),(iv 724 0),(iv 4 0),(rv 1241),(iv 731 0),(iv 4 0),(rv 1248),(iv 734 0),(iv 4 0),(rv 1255),(iv 737 0),(iv 4 0),(rv 1262),(iv 740 0),(iv 4 0),(rv 1269),(iv 743 0),(iv 4 0),(rv 1276)]⟩,⟨[]⟩⟩,⟨(tv S.t3),none,.fields ⟨[(sv z91 1684),(sv z91 1685),(sv z9 1686),(iv 668 0),(iv 0 0),(iv 0 0),(iv 0 0),(iv 0 0),(rv 1154),(.bool false),(iv 181 0),(rv 1155),nv,nv,nv,nv,(iv 1687 0),(iv 668 0),(sv z9 1688)]⟩,⟨[]⟩⟩,⟨(tv S.t6),none,.plain,⟨[(some (rv 1156)),(some (rv 3)),(some (rv 1153)),none,(some (sv dG 1678)),none,(some (rv 0))]⟩⟩,aeQ,eT,eF,sn 1697 [aB,gp],eT,fN (aE 91 0) ajg 0,aeR,aeS,eT,eF,sn 1705 [aB],eT,fN (aE 91 1) ajh 0,aeT,aeU,eT,eF,sn 1712 [aB],eT,fN (aE 91 2) aji 0,aeV,aeW,eT,eF,sn 1719 [aB],eT,fN (aE 91 3) ajj 0,aeX,aeY,eT,eF,sn 1726 [aB,pj],eT,fN (aE 91 4) ajk 0,aeZ,af0,eT,eF,sn 1734 [aB],eT,fN (aE 91 5) ajl 0,af1,af2,eT,eF,sn 1741 [aB,jc],eT,fN (aE 91 6) ajm 0,af3,af4,eT,eF,sn 1749 [aB,mU,mV,dM],eT,fN (aE 91 7) ajn 0,af5,af6,eT,eF,sn 1759 [aB,dM,mW],eT,fN (aE 91 8) ajo 0,af7,af8,eT,eF,sn 1768 [aB,mU,mV],eT,fN (aE 91 9) ajp 0,af9,afa,eT,eF,sn 1777 [aB,auB,auC,auD,auE,auF,auG],eT,fN (aE 91 10) ajq 0,afb,afc,eT,eF,sn 1790 [aB],eT,fN (aE 91 11) ajr 0,afd,afe,eT,eF,sn 1797 [aB,jc],eT,fN (aE 91 12) ajs 0,aff,afg,eT,eF,sn 1805 [aB],eT,fN (aE 91 13) ajt 0,afh,afi,eT,eF,sn 1812 [aB,ac9],eT,fN (aE 91 14) aju 0,afj,afk,eT,eF,sn 1820 [aB],eT,fN (aE 91 15) ajv 0,afl,afm,eT,eF,sn 1827 [aB,we],eT,fN (aE 91 16) ajw 0,afn,afo,sn 1832 [mR,pq,gp,mW],afp P,afq,⟨(tv S.t5),none,.fields ⟨[(sv dK 1837),(rv 1280),(bv S.yX),(bv S.yY)]⟩,⟨[]⟩⟩,⟨(tv S.t5),none,.fields ⟨[(sv dq 1839),(rv 1280),(bv S.wE),nv]⟩,⟨[]⟩⟩,⟨(tv S.t7),none,.fields ⟨[(rv 1280),(rv 1280),(rv 1280)]⟩,⟨[]⟩⟩,⟨(tv S.t4),none,.fields ⟨[(bv S.lS),(rv 1280)]⟩,⟨[]⟩⟩])
def afr:Obj:=cP z92 z92 1844 745 2 1285 1852
def afs:Obj:=fF (aK 92) z92 3 dG 1678 1290
def CS:BT:=(cb (gY (CR P) [(3,bw P (ke P z0 165 (sv gX 1855)) 91 92),(12,bx 219)]) 1285 [eT,eF,sn 1847 [abQ,jc,cR,dM,eg],eT,fN (aK 92) z92 0,afr,afs])
def aft:Obj:=sq [(iv 0 1872),(.bool false),(iv 1500 1680)]
def afu:Obj:=cP bh ajx 1873 761 6 1300 1882
def afv:Obj:=pg (tv S.pC) (aE 95 0) ajx 3 (rv 1299) nv nv (sv gX 1855) (rv 1305) nv
def afw:Obj:=sq [(iv 0 1885),(.bool false)]
def afx:Obj:=cP pA ajy 1886 780 3 1308 1893
def afy:Obj:=pg (tv S.pC) (aE 95 1) ajy 3 (rv 1307) nv nv (sv gX 1855) (rv 1313) nv
def afz:Obj:=cP pw ajz 1896 785 2 1315 1901
def afA:Obj:=fF (aE 95 2) ajz 3 gX 1855 1320
def afB:Obj:=cP aca ajA 1904 802 3 1322 1910
def afC:Obj:=fF (aE 95 3) ajA 3 gX 1855 1327
def afD:Obj:=cP acb ajB 1913 805 1 1329 1917
def afE:Obj:=fF (aE 95 4) ajB 3 gX 1855 1334
def afF:Obj:=cP acd ajC 1920 808 1 1336 1924
def afG:Obj:=fF (aE 95 5) ajC 3 gX 1855 1341
def afH:Obj:=cP ace ajD 1927 811 1 1343 1931
def afI:Obj:=fF (aE 95 6) ajD 3 gX 1855 1348
def afJ:Obj:=cP acf ajE 1934 814 3 1350 1940
def afK:Obj:=fF (aE 95 7) ajE 3 gX 1855 1355
def afL:Obj:=cP acg ajF 1943 817 1 1357 1947
def afM:Obj:=fF (aE 95 8) ajF 3 gX 1855 1362
def afN:Obj:=⟨(tv S.t1),none,.dict ⟨[ke P bH 1867 (sv gX 1855),ke P bI 1871 (iv 759 1870),ke P bh 1884 (rv 1306),ke P pA 1895 (rv 1314),ke P pw 1903 (rv 1321),ke P aca 1912 (rv 1328),ke P acb 1919 (rv 1335),ke P acd 1926 (rv 1342),ke P ace 1933 (rv 1349),ke P acf 1942 (rv 1356),ke P acg 1949 (rv 1363),ke P bJ 1967 (rv 1364),ke P dK 1969 (rv 1367),ke P dq 1971 (rv 1368),ke P z2 1972 nv]⟩ 4,⟨[]⟩⟩
def afO:Obj:=⟨(tv S.t0),none,.cls (ik z94 [(tv S.t2)] [(rv 1366),(tv S.t2)] 1365 z94 []),⟨[none,none,(some (sv z94 1860)),(some (sv z94 1868)),(some (bv S.t8)),(some (.bool true))]⟩⟩
def CU:BT:=(cb (gY (CS P) [(3,bw P (ke P z0 165 (sv gX 1855)) 92 93),(12,bx 222)]) 1292 [eT,⟨(tv S.t4),none,.fields ⟨[(bv S.t9),(tv S.t0)]⟩,⟨[]⟩⟩,⟨(tv S.t1),none,.dict ⟨[ke P bH 1867 (sv gX 1855),ke P ef 1869 (sv z94 1868),ke P bI 1871 (iv 759 1870),ke P bh 1884 (rv 1306),ke P pA 1895 (rv 1314),ke P pw 1903 (rv 1321),ke P aca 1912 (rv 1328),ke P acb 1919 (rv 1335),ke P acd 1926 (rv 1342),ke P ace 1933 (rv 1349),ke P acf 1942 (rv 1356),ke P acg 1949 (rv 1363),ke P bJ 1967 (rv 1364)]⟩ 13,⟨[]⟩⟩,eT,⟨nv,none,.fields ⟨[(iv 761 0),(iv 4 0),(rv 1305),(iv 780 0),(iv 4 0),(rv 1313),(iv 785 0),(iv 4 0),(rv 1320),(iv 802 0),(iv 4 0),(rv 1327),(iv 805 0),(iv 4 0),(rv 1334),(iv 808 0),(iv 4 0),(rv 1341),(iv 811 0),(iv 4 0),(rv 1348),(iv 814 0),(iv 4 0),(rv 1355),(iv 817 0),(iv 4 0),(rv 1362)]⟩,⟨[]⟩⟩,⟨(tv S.t3),none,.fields ⟨[(sv z94 1862),(sv z94 1863),(sv z9 1864),(iv 759 0),(iv 0 0),(iv 0 0),(iv 0 0),(iv 0 0),(rv 1295),(.bool false),(iv 181 0),(rv 1296),nv,nv,nv,nv,(iv 1865 0),(iv 759 0),(sv z9 1866)]⟩,⟨[]⟩⟩,⟨(tv S.t6),none,.plain,⟨[(some (rv 1297)),(some (rv 3)),(some (rv 1294)),none,(some (sv gX 1855)),none,(some (rv 0))]⟩⟩,aft,eT,eF,sn 1876 [aB,we,yV,cQ,fU,gp],eT,fN (aE 95 0) ajx 0,afu,afv,afw,eT,eF,sn 1889 [aB,cQ,fU,kW],eT,fN (aE 95 1) ajy 0,afx,afy,eT,eF,sn 1899 [aB,kW],eT,fN (aE 95 2) ajz 0,afz,afA,eT,eF,sn 1907 [aB,we,yV],eT,fN (aE 95 3) ajA 0,afB,afC,eT,eF,sn 1916 [aB],eT,fN (aE 95 4) ajB 0,afD,afE,eT,eF,sn 1923 [aB],eT,fN (aE 95 5) ajC 0,afF,afG,eT,eF,sn 1930 [aB],eT,fN (aE 95 6) ajD 0,afH,afI,eT,eF,sn 1937 [aB,jc,auH],eT,fN (aE 95 7) ajE 0,afJ,afK,eT,eF,sn 1946 [aB],eT,fN (aE 95 8) ajF 0,afL,afM,sn 1950 [ajG,ajH,yV,sk,ajI,ac9,ajJ,ajK,fU,ajL,ajM,we,ajN,cQ,so,v8,ajO],afN P,afO,⟨(tv S.t5),none,.fields ⟨[(sv dK 1968),(rv 1366),(bv S.yX),(bv S.yY)]⟩,⟨[]⟩⟩,⟨(tv S.t5),none,.fields ⟨[(sv dq 1970),(rv 1366),(bv S.wE),nv]⟩,⟨[]⟩⟩,⟨(tv S.t7),none,.fields ⟨[(rv 1366),(rv 1366),(rv 1366)]⟩,⟨[]⟩⟩,⟨(tv S.t4),none,.fields ⟨[(bv S.lS),(rv 1366)]⟩,⟨[]⟩⟩])
def afP:Obj:=sq [(iv 500 1993),(iv 20 1994),(iv 250 1995),(iv 15 1996),(iv 31 1997),(iv 65535 1998),(iv 65535 1999),(iv 65535 2000),(iv 127 2001),(iv 1500 2002),(iv 11 2003),(iv 15 2004),(iv 600 2005),(iv 16777216 1979)]
def afQ:Obj:=cP bh ajP 2006 823 15 1379 2024
def afR:Obj:=pg (tv S.pC) (aE 98 0) ajP 3 (rv 1378) nv nv (sv ach 1975) (rv 1384) nv
def afS:Obj:=⟨(tv S.t1),none,.dict ⟨[ke P bH 1988 (sv ach 1975),ke P bI 1992 (iv 821 1991),ke P bh 2026 (rv 1385),ke P bJ 2041 (rv 1386),ke P dK 2043 (rv 1389),ke P dq 2045 (rv 1390),ke P z2 2046 nv]⟩ 4,⟨[]⟩⟩
def afT:Obj:=⟨(tv S.t0),none,.cls (ik z96 [(tv S.t2)] [(rv 1388),(tv S.t2)] 1387 z96 []),⟨[none,none,(some (sv z96 1981)),(some (sv z96 1989)),(some (bv S.t8)),(some (.bool true))]⟩⟩
def afU:Obj:=sq [(iv 1000000 2051),(iv 250000 2052),(iv 333333 2053)]
def afV:Obj:=sn 2055 [aW,bM,bN,bk]
def afW:Obj:=cP z99 z99 2060 841 0 1395 2063
def afX:Obj:=fF (aK 102) z99 3 z1 2049 1400
def afY:Obj:=cP rD rD 2066 843 0 1402 2069
def afZ:Obj:=fF (aK 103) rD 3 z1 2049 1407
def ag0:Obj:=cP rE rE 2072 845 0 1409 2075
def ag1:Obj:=fF (aK 104) rE 3 z1 2049 1414
def CV:BT:=(cb (gY (CU P) [(3,bw P (ke P z0 165 (sv z1 2049)) 99 100),(12,bx 234)]) 1371 [eT,⟨(tv S.t4),none,.fields ⟨[(bv S.t9),(tv S.t0)]⟩,⟨[]⟩⟩,⟨(tv S.t1),none,.dict ⟨[ke P bH 1988 (sv ach 1975),ke P ef 1990 (sv z96 1989),ke P bI 1992 (iv 821 1991),ke P bh 2026 (rv 1385),ke P bJ 2041 (rv 1386)]⟩ 5,⟨[]⟩⟩,eT,⟨nv,none,.fields ⟨[(iv 823 0),(iv 4 0),(rv 1384)]⟩,⟨[]⟩⟩,⟨(tv S.t3),none,.fields ⟨[(sv z96 1983),(sv z96 1984),(sv z9 1985),(iv 821 0),(iv 0 0),(iv 0 0),(iv 0 0),(iv 0 0),(rv 1374),(.bool false),(iv 181 0),(rv 1375),nv,nv,nv,nv,(iv 1986 0),(iv 821 0),(sv z9 1987)]⟩,⟨[]⟩⟩,⟨(tv S.t6),none,.plain,⟨[(some (rv 1376)),(some (rv 3)),(some (rv 1373)),none,(some (sv ach 1975)),none,(some (rv 0))]⟩⟩,afP,eT,eF,sn 2009 [aB,jb,mS,se,aci,acj,wa,dM,ack,eg,so,sk,rZ,sf,acl],eT,fN (aE 98 0) ajP 0,afQ,afR,sn 2027 [sk,mS,ack,rZ,se,acj,jb,so,dM,aci,sf,wa,acl,eg],afS P,afT,⟨(tv S.t5),none,.fields ⟨[(sv dK 2042),(rv 1388),(bv S.yX),(bv S.yY)]⟩,⟨[]⟩⟩,⟨(tv S.t5),none,.fields ⟨[(sv dq 2044),(rv 1388),(bv S.wE),nv]⟩,⟨[]⟩⟩,⟨(tv S.t7),none,.fields ⟨[(rv 1388),(rv 1388),(rv 1388)]⟩,⟨[]⟩⟩,⟨(tv S.t4),none,.fields ⟨[(bv S.lS),(rv 1388)]⟩,⟨[]⟩⟩,afU,afV,eT,eF,eT,eT,fN (aK 102) z99 0,afW,afX,eT,eF,eT,eT,fN (aK 103) rD 0,afY,afZ,eT,eF,eT,eT,fN (aK 104) rE 0,ag0,ag1])
def ag2:Obj:=cP rF rF 2078 847 2 1416 2085
def ag3:Obj:=fF (aK 105) rF 3 z1 2049 1421
def ag4:Obj:=⟨(tv S.t3),none,.fields ⟨[(sv rG 2088),(sv rG 2089),(sv z9 2090),(iv 854 0),(iv 2 0),(iv 0 0),(iv 0 0),(iv 3 0),(rv 1423),(.bool true),(iv 181 0),(rv 1424),nv,nv,nv,(rv 1425),(iv 2091 0),(iv 854 0),(sv z9 2092)]⟩,⟨[]⟩⟩
def ag5:Obj:=fF (aK 106) rG 3 z1 2049 1426
def ag6:Obj:=cP rH rH 2094 860 2 1428 2102
def ag7:Obj:=fF (aK 107) rH 3 z1 2049 1433
def ag8:Obj:=cP rI rI 2105 864 3 1435 2111
def ag9:Obj:=fF (aK 108) rI 3 z1 2049 1440
def aga:Obj:=cP rJ rJ 2114 866 3 1442 2122
def agb:Obj:=fF (aK 109) rJ 3 z1 2049 1447
def agc:Obj:=cP rK rK 2125 869 3 1449 2132
def agd:Obj:=fF (aK 110) rK 3 z1 2049 1454
def age:Obj:=cP rL rL 2135 875 2 1456 2140
def agf:Obj:=fF (aK 111) rL 3 z1 2049 1461
def agg:Obj:=cP rM rM 2143 877 3 1463 2152
def agh:Obj:=fF (aK 112) rM 3 z1 2049 1468
def agi:Obj:=⟨(tv S.t3),none,.fields ⟨[(sv rN 2155),(sv rN 2156),(sv z9 2157),(iv 885 0),(iv 3 0),(iv 0 0),(iv 0 0),(iv 3 0),(rv 1470),(.bool true),(iv 181 0),(rv 1471),nv,nv,nv,(rv 1472),(iv 2158 0),(iv 885 0),(sv z9 2159)]⟩,⟨[]⟩⟩
def agj:Obj:=fF (aK 113) rN 3 z1 2049 1473
def agk:Obj:=⟨(tv S.t3),none,.fields ⟨[(sv rO 2161),(sv rO 2162),(sv z9 2163),(iv 894 0),(iv 3 0),(iv 0 0),(iv 0 0),(iv 3 0),(rv 1475),(.bool true),(iv 181 0),(rv 1476),nv,nv,nv,(rv 1477),(iv 2164 0),(iv 894 0),(sv z9 2165)]⟩,⟨[]⟩⟩
def agl:Obj:=fF (aK 114) rO 3 z1 2049 1478
def agm:Obj:=⟨(tv S.t3),none,.fields ⟨[(sv rP 2167),(sv rP 2168),(sv z9 2169),(iv 897 0),(iv 2 0),(iv 0 0),(iv 0 0),(iv 3 0),(rv 1480),(.bool true),(iv 181 0),(rv 1481),nv,nv,nv,(rv 1482),(iv 2170 0),(iv 897 0),(sv z9 2171)]⟩,⟨[]⟩⟩
def agn:Obj:=fF (aK 115) rP 3 z1 2049 1483
def ago:Obj:=sq [(.bool false),(iv 3 2173)]
def agp:Obj:=cP rQ rQ 2174 905 3 1486 2180
def agq:Obj:=pg (tv S.pC) (aK 116) rQ 3 (rv 1485) nv nv (sv z1 2049) (rv 1491) nv
def agr:Obj:=⟨(tv S.t3),none,.fields ⟨[(sv rR 2183),(sv rR 2184),(sv z9 2185),(iv 907 0),(iv 2 0),(iv 0 0),(iv 0 0),(iv 3 0),(rv 1493),(.bool true),(iv 181 0),(rv 1494),nv,nv,nv,(rv 1495),(iv 2186 0),(iv 907 0),(sv z9 2187)]⟩,⟨[]⟩⟩
def ags:Obj:=fF (aK 117) rR 3 z1 2049 1496
def agt:Obj:=⟨(tv S.t3),none,.fields ⟨[(sv rS 2189),(sv rS 2190),(sv z9 2191),(iv 917 0),(iv 1 0),(iv 0 0),(iv 0 0),(iv 3 0),(rv 1498),(.bool true),(iv 181 0),(rv 1499),nv,nv,nv,(rv 1500),(iv 2192 0),(iv 917 0),(sv z9 2193)]⟩,⟨[]⟩⟩
def agu:Obj:=fF (aK 118) rS 3 z1 2049 1501
def CW:BT:=(cb (gY (CV P) [(3,bw P (ke P z0 165 (sv z1 2049)) 113 114),(12,bx 276)]) 1416 [eT,eF,sn 2081 [yW,cR,auI,amu],eT,fN (aK 105) rF 0,ag2,ag3,eT,eF,fN (aK 106) rG 0,ag4,ag5,eT,eF,sn 2097 [cQ,wc,auJ,amu,amt],eT,fN (aK 107) rH 0,ag6,ag7,eT,eF,sn 2108 [jd,mU,mV],eT,fN (aK 108) rI 0,ag8,ag9,eT,eF,sn 2117 [jd,mU,mV,auK,auL],eT,fN (aK 109) rJ 0,aga,agb,eT,eF,sn 2128 [jd,mU,mV,wc],eT,fN (aK 110) rK 0,agc,agd,eT,eF,sn 2138 [amv,jd],eT,fN (aK 111) rL 0,age,agf,eT,eF,sn 2146 [dM,jd,auM,pj,eG,mW],eT,fN (aK 112) rM 0,agg,agh,eT,eF,fN (aK 113) rN 0,agi,agj,eT,eF,fN (aK 114) rO 0,agk,agl,eT,eF,fN (aK 115) rP 0,agm,agn,ago,eT,eF,sn 2177 [bK,kT,mN],eT,fN (aK 116) rQ 0,agp,agq,eT,eF,fN (aK 117) rR 0,agr,ags,eT,eF,fN (aK 118) rS 0,agt,agu])
def agv:Obj:=bw P (ke P z0 165 (sv z1 2049)) 118 119
def agw:Obj:=⟨(tv S.t3),none,.fields ⟨[(sv rT 2195),(sv rT 2196),(sv z9 2197),(iv 919 0),(iv 2 0),(iv 0 0),(iv 0 0),(iv 3 0),(rv 1503),(.bool true),(iv 181 0),(rv 1504),nv,nv,nv,(rv 1505),(iv 2198 0),(iv 919 0),(sv z9 2199)]⟩,⟨[]⟩⟩
def agx:Obj:=fF (aK 119) rT 3 z1 2049 1506
def agy:Obj:=⟨(tv S.t3),none,.fields ⟨[(sv rU 2201),(sv rU 2202),(sv z9 2203),(iv 921 0),(iv 4 0),(iv 0 0),(iv 0 0),(iv 3 0),(rv 1508),(.bool true),(iv 181 0),(rv 1509),nv,nv,nv,(rv 1510),(iv 2204 0),(iv 921 0),(sv z9 2205)]⟩,⟨[]⟩⟩
def agz:Obj:=fF (aK 120) rU 3 z1 2049 1511
def agA:Obj:=⟨(tv S.t3),none,.fields ⟨[(sv rV 2207),(sv rV 2208),(sv z9 2209),(iv 941 0),(iv 3 0),(iv 0 0),(iv 0 0),(iv 3 0),(rv 1513),(.bool true),(iv 181 0),(rv 1514),nv,nv,nv,(rv 1515),(iv 2210 0),(iv 941 0),(sv z9 2211)]⟩,⟨[]⟩⟩
def agB:Obj:=fF (aK 121) rV 3 z1 2049 1516
def agC:Obj:=⟨(tv S.t3),none,.fields ⟨[(sv rW 2213),(sv rW 2214),(sv z9 2215),(iv 966 0),(iv 2 0),(iv 0 0),(iv 0 0),(iv 3 0),(rv 1518),(.bool true),(iv 181 0),(rv 1519),nv,nv,nv,(rv 1520),(iv 2216 0),(iv 966 0),(sv z9 2217)]⟩,⟨[]⟩⟩
def agD:Obj:=fF (aK 122) rW 3 z1 2049 1521
def agE:Obj:=⟨(tv S.t3),none,.fields ⟨[(sv v7 2219),(sv v7 2220),(sv z9 2221),(iv 984 0),(iv 1 0),(iv 0 0),(iv 0 0),(iv 3 0),(rv 1523),(.bool true),(iv 181 0),(rv 1524),nv,nv,nv,(rv 1525),(iv 2222 0),(iv 984 0),(sv z9 2223)]⟩,⟨[]⟩⟩
def agF:Obj:=fF (aK 123) v7 3 z1 2049 1526
def BW:BT:=(cb (gY (CW P) [(3,agv P),(12,bx 291)]) 1503 [eT,eF,fN (aK 119) rT 0,agw,agx,eT,eF,fN (aK 120) rU 0,agy,agz,eT,eF,fN (aK 121) rV 0,agA,agB,eT,eF,fN (aK 122) rW 0,agC,agD,eT,eF,fN (aK 123) v7 0,agE,agF])
noncomputable def lf:Life:=(boot_heap P).life
noncomputable def gz:Array GenState:=⟨[]⟩
def bV:Env:={scope:=TP.main.scope,locals:=mainNs,globals:=mainNs,cells:=[],code:=.ref 13,frame:=some 14}
def gZ:List Stmt:=behindTheImports TP
def cz:Code:=.body gZ bV
noncomputable def Bz:List PySem.Frame:=[topFrame ⟨0,0,0,0⟩]
def SS (w:World)(os:OsState)(T:Params→BT)(n k:Nat):SharedT:=⟨T w.params,n,lf w.params,gz,boot_drawn,k,os⟩
def gt (a m:Nat):List Stmt:=(gZ.drop a).take m
theorem bB:@PySem.W.segRunT=@PySem.W.Fast.tw10110043849684766642:=PySem.W.Fast.te10110043849684766642
theorem aR:PySem.treeTable=PySem.W.Fast.tw14364793385576792824:=PySem.W.Fast.te14364793385576792824
end
theorem g0 (w:World)(os:OsState):segRunT treeTable TP w 11 (some (.ref 6)) 1 277 (SS w os T0 15 187) (piecesOf (gt 0 4) bV cz ⟨0,0,0,0⟩ Bz)=some (.next,SS w os T1 43 227,cz,⟨6,0,9,24⟩):=by
 rw [bB,aR]
 kernel_rfl
theorem g1 (w:World)(os:OsState):segRunT treeTable TP w 11 (some (.ref 6)) 1 214 (SS w os T1 43 227) (piecesOf (gt 4 1) bV cz ⟨6,0,9,24⟩ Bz)=some (.next,SS w os T2 55 243,cz,⟨10,0,11,8⟩):=by
 rw [bB,aR]
 kernel_rfl
theorem g2 (w:World)(os:OsState):segRunT treeTable TP w 11 (some (.ref 6)) 1 214 (SS w os T2 55 243) (piecesOf (gt 5 1) bV cz ⟨10,0,11,8⟩ Bz)=some (.next,SS w os T3 67 259,cz,⟨12,0,13,8⟩):=by
 rw [bB,aR]
 kernel_rfl
theorem g3 (w:World)(os:OsState):segRunT treeTable TP w 11 (some (.ref 6)) 1 276 (SS w os T3 67 259) (piecesOf (gt 6 6) bV cz ⟨12,0,13,8⟩ Bz)=some (.next,SS w os T4 84 289,cz,⟨25,0,25,9⟩):=by
 rw [bB,aR]
 kernel_rfl
theorem g4 (w:World)(os:OsState):segRunT treeTable TP w 11 (some (.ref 6)) 1 234 (SS w os T4 84 289) (piecesOf (gt 12 1) bV cz ⟨25,0,25,9⟩ Bz)=some (.next,SS w os T5 106 324,cz,⟨26,0,32,28⟩):=by
 rw [bB,aR]
 kernel_rfl
theorem g5 (w:World)(os:OsState):segRunT treeTable TP w 11 (some (.ref 6)) 1 229 (SS w os T5 106 324) (piecesOf (gt 13 1) bV cz ⟨26,0,32,28⟩ Bz)=some (.next,SS w os T6 127 359,cz,⟨33,0,39,26⟩):=by
 rw [bB,aR]
 kernel_rfl
theorem g6 (w:World)(os:OsState):segRunT treeTable TP w 11 (some (.ref 6)) 1 229 (SS w os T6 127 359) (piecesOf (gt 14 1) bV cz ⟨33,0,39,26⟩ Bz)=some (.next,SS w os T7 148 394,cz,⟨40,0,46,26⟩):=by
 rw [bB,aR]
 kernel_rfl
theorem g7 (w:World)(os:OsState):segRunT treeTable TP w 11 (some (.ref 6)) 1 408 (SS w os T7 148 394) (piecesOf (gt 15 7) bV cz ⟨40,0,46,26⟩ Bz)=some (.next,SS w os T8 213 472,cz,⟨63,0,64,73⟩):=by
 rw [bB,aR]
 kernel_rfl
theorem g8 (w:World)(os:OsState):segRunT treeTable TP w 11 (some (.ref 6)) 1 413 (SS w os T8 213 472) (piecesOf (gt 22 14) bV cz ⟨63,0,64,73⟩ Bz)=some (.next,SS w os T9 311 576,cz,⟨100,0,101,69⟩):=by
 rw [bB,aR]
 kernel_rfl
theorem g9 (w:World)(os:OsState):segRunT treeTable TP w 11 (some (.ref 6)) 1 97 (SS w os T9 311 576) (piecesOf (gt 36 4) bV cz ⟨100,0,101,69⟩ Bz)=some (.next,SS w os CD 332 599,cz,⟨126,0,126,8⟩):=by
 rw [bB,aR]
 kernel_rfl
theorem g10 (w:World)(os:OsState):segRunT treeTable TP w 11 (some (.ref 6)) 1 397 (SS w os CD 332 599) (piecesOf (gt 40 3) bV cz ⟨126,0,126,8⟩ Bz)=some (.next,SS w os CE 376 658,cz,⟨150,0,150,10⟩):=by
 rw [bB,aR]
 kernel_rfl
theorem g11 (w:World)(os:OsState):segRunT treeTable TP w 11 (some (.ref 6)) 1 349 (SS w os CE 376 658) (piecesOf (gt 43 1) bV cz ⟨150,0,150,10⟩ Bz)=some (.next,SS w os CF 425 717,cz,⟨151,0,166,17⟩):=by
 rw [bB,aR]
 kernel_rfl
theorem g12 (w:World)(os:OsState):segRunT treeTable TP w 11 (some (.ref 6)) 1 345 (SS w os CF 425 717) (piecesOf (gt 44 1) bV cz ⟨151,0,166,17⟩ Bz)=some (.next,SS w os CG 465 769,cz,⟨167,0,187,26⟩):=by
 rw [bB,aR]
 kernel_rfl
theorem g13 (w:World)(os:OsState):segRunT treeTable TP w 11 (some (.ref 6)) 1 344 (SS w os CG 465 769) (piecesOf (gt 45 1) bV cz ⟨167,0,187,26⟩ Bz)=some (.next,SS w os CH 504 821,cz,⟨188,0,211,73⟩):=by
 rw [bB,aR]
 kernel_rfl
theorem g14 (w:World)(os:OsState):segRunT treeTable TP w 11 (some (.ref 6)) 1 372 (SS w os CH 504 821) (piecesOf (gt 46 2) bV cz ⟨188,0,211,73⟩ Bz)=some (.next,SS w os CJ 551 878,cz,⟨227,0,231,16⟩):=by
 rw [bB,aR]
 kernel_rfl
theorem g15 (w:World)(os:OsState):segRunT treeTable TP w 11 (some (.ref 6)) 1 1181 (SS w os CJ 551 878) (piecesOf (gt 48 1) bV cz ⟨227,0,231,16⟩ Bz)=some (.next,SS w os CK 771 1189,cz,⟨232,0,448,16⟩):=by
 rw [bB,aR]
 kernel_rfl
theorem g16 (w:World)(os:OsState):segRunT treeTable TP w 11 (some (.ref 6)) 1 421 (SS w os CK 771 1189) (piecesOf (gt 49 4) bV cz ⟨232,0,448,16⟩ Bz)=some (.next,SS w os CL 825 1257,cz,⟨476,0,476,8⟩):=by
 rw [bB,aR]
 kernel_rfl
theorem g17 (w:World)(os:OsState):segRunT treeTable TP w 11 (some (.ref 6)) 1 363 (SS w os CL 825 1257) (piecesOf (gt 53 15) bV cz ⟨476,0,476,8⟩ Bz)=some (.next,SS w os CM 894 1354,cz,⟨511,0,511,9⟩):=by
 rw [bB,aR]
 kernel_rfl
theorem g18 (w:World)(os:OsState):segRunT treeTable TP w 11 (some (.ref 6)) 1 664 (SS w os CM 894 1354) (piecesOf (gt 68 1) bV cz ⟨511,0,511,9⟩ Bz)=some (.next,SS w os CN 1000 1479,cz,⟨512,0,569,36⟩):=by
 rw [bB,aR]
 kernel_rfl
theorem g19 (w:World)(os:OsState):segRunT treeTable TP w 11 (some (.ref 6)) 1 404 (SS w os CN 1000 1479) (piecesOf (gt 69 14) bV cz ⟨512,0,569,36⟩ Bz)=some (.next,SS w os CO 1089 1591,cz,⟨625,0,626,27⟩):=by
 rw [bB,aR]
 kernel_rfl
theorem g20 (w:World)(os:OsState):segRunT treeTable TP w 11 (some (.ref 6)) 1 402 (SS w os CO 1089 1591) (piecesOf (gt 83 3) bV cz ⟨625,0,626,27⟩ Bz)=some (.next,SS w os CP 1134 1659,cz,⟨655,0,655,8⟩):=by
 rw [bB,aR]
 kernel_rfl
theorem g21 (w:World)(os:OsState):segRunT treeTable TP w 11 (some (.ref 6)) 1 100 (SS w os CP 1134 1659) (piecesOf (gt 86 5) bV cz ⟨655,0,655,8⟩ Bz)=some (.next,SS w os CQ 1151 1682,cz,⟨667,0,667,9⟩):=by
 rw [bB,aR]
 kernel_rfl
theorem g22 (w:World)(os:OsState):segRunT treeTable TP w 11 (some (.ref 6)) 1 745 (SS w os CQ 1151 1682) (piecesOf (gt 91 1) bV cz ⟨667,0,667,9⟩ Bz)=some (.next,SS w os CR 1285 1844,cz,⟨668,0,744,17⟩):=by
 rw [bB,aR]
 kernel_rfl
theorem g23 (w:World)(os:OsState):segRunT treeTable TP w 11 (some (.ref 6)) 1 59 (SS w os CR 1285 1844) (piecesOf (gt 92 3) bV cz ⟨668,0,744,17⟩ Bz)=some (.next,SS w os CS 1292 1860,cz,⟨758,0,758,12⟩):=by
 rw [bB,aR]
 kernel_rfl
theorem g24 (w:World)(os:OsState):segRunT treeTable TP w 11 (some (.ref 6)) 1 507 (SS w os CS 1292 1860) (piecesOf (gt 95 1) bV cz ⟨758,0,758,12⟩ Bz)=some (.next,SS w os CU 1371 1975,cz,⟨759,0,818,17⟩):=by
 rw [bB,aR]
 kernel_rfl
theorem g25 (w:World)(os:OsState):segRunT treeTable TP w 11 (some (.ref 6)) 1 411 (SS w os CU 1371 1975) (piecesOf (gt 96 9) bV cz ⟨759,0,818,17⟩ Bz)=some (.next,SS w os CV 1416 2078,cz,⟨845,0,846,79⟩):=by
 rw [bB,aR]
 kernel_rfl
theorem g26 (w:World)(os:OsState):segRunT treeTable TP w 11 (some (.ref 6)) 1 415 (SS w os CV 1416 2078) (piecesOf (gt 105 14) bV cz ⟨845,0,846,79⟩ Bz)=some (.next,SS w os CW 1503 2195,cz,⟨917,0,918,75⟩):=by
 rw [bB,aR]
 kernel_rfl
theorem g27 (w:World)(os:OsState):segRunT treeTable TP w 11 (some (.ref 6)) 1 131 (SS w os CW 1503 2195) (piecesOf (gt 119 5) bV cz ⟨917,0,918,75⟩ Bz)=some (.next,SS w os BW 1528 2225,cz,⟨984,0,996,85⟩):=by
 rw [bB,aR]
 kernel_rfl
theorem aq1:@PySem.W.segRun=@PySem.W.Fast.tw14374325043358763698:=PySem.W.Fast.te14374325043358763698
theorem aq2:@PySem.W.topRun=@PySem.W.Fast.tw14082659384304107361:=PySem.W.Fast.te14082659384304107361
theorem auN:@PySem.W.topGo=@PySem.W.Fast.tw15667345088766844465:=PySem.W.Fast.te15667345088766844465
theorem aq3:@PySem.denote=@PySem.W.Fast.tw11892475500146522536:=PySem.W.Fast.te11892475500146522536
theorem acm (a m:Nat):gt a m++gZ.drop (a+m)=gZ.drop a:=by
 unfold gt
 rw [←List.drop_drop,List.take_append_drop]
theorem step_at {w:World}{os:OsState}{a m n N:Nat}{s s':SharedT}{p p':Pos}{r:Shared}(h:segRunT treeTable TP w 11 (some (.ref 6)) 1 n s (piecesOf (gt a m) bV cz p Bz)=some (.next,s',cz,p'))
  (k:topRun treeTable TP w 11 (some (.ref 6)) N s'.abs (restOf (gZ.drop (a+m)) bV cz p' Bz)=some r):topRun treeTable TP w 11 (some (.ref 6)) (n+N) s.abs (restOf (gZ.drop a) bV cz p Bz)=some r:=by
 have:=piece_app (segRun_of h) k
 rw [acm] at this
 exact this
noncomputable def Ds (P:Params):Heap:=boot_heap P
theorem aq4 (w:World)(os:OsState):topGo treeTable TP w 11 (some (.ref 6)) 12 ⟨boot_heap w.params,gz,boot_drawn,boot_toks,os⟩ (topStub TP)=some ((SS w os T0 15 187).abs,⟨denote treeTable cz,cz,⟨0,0,0,0⟩,Bz⟩):=by
 rw [auN,aR,aq3]
 kernel_rfl
theorem acn (w:World)(os:OsState):segRun treeTable TP w 11 (some (.ref 6)) 1 1 (SS w os T0 15 187).abs (blockOf gZ bV cz ⟨0,0,0,0⟩ Bz)=some (.next,(SS w os T0 15 187).abs,cz,⟨0,0,0,0⟩):=by
 rw [aq1,aR]
 kernel_rfl
theorem aq5 (w:World)(os:OsState):topRun treeTable TP w 11 (some (.ref 6)) 2 (SS w os BW 1528 2225).abs ⟨doneF .next,cz,⟨984,0,996,85⟩,Bz⟩=some (SS w os BW 1528 2225).abs:=by
 rw [aq2,aR]
 kernel_rfl
theorem aq6:gZ.drop 124=[]:=by kernel_rfl
theorem ajR (w:World)(os:OsState):topRun treeTable TP w 11 (some (.ref 6)) (277+(214+(214+(276+(234+(229+(229+(408+(413+(97+(397+(349+(345+(344+(372+(1181+(421+(363+(664+(404+(402+(100+(745+(59+(507+(411+(415+(131+2)))))))))))))))))))))))))))) (SS w os T0 15 187).abs (restOf (gZ.drop 0) bV cz ⟨0,0,0,0⟩ Bz)=some (SS w os BW 1528 2225).abs:=
 (step_at (os:=os) (g0 w os) (step_at (os:=os) (g1 w os) (step_at (os:=os) (g2 w os) (step_at (os:=os) (g3 w os) (step_at (os:=os) (g4 w os) (step_at (os:=os) (g5 w os) (step_at (os:=os) (g6 w os) (step_at (os:=os) (g7 w os) (step_at (os:=os) (g8 w os) (step_at (os:=os) (g9 w os) (step_at (os:=os) (g10 w os) (step_at (os:=os) (g11 w os) (step_at (os:=os) (g12 w os) (step_at (os:=os) (g13 w os) (step_at (os:=os) (g14 w os) (step_at (os:=os) (g15 w os) (step_at (os:=os) (g16 w os) (step_at (os:=os) (g17 w os) (step_at (os:=os) (g18 w os) (step_at (os:=os) (g19 w os) (step_at (os:=os) (g20 w os) (step_at (os:=os) (g21 w os) (step_at (os:=os) (g22 w os) (step_at (os:=os) (g23 w os) (step_at (os:=os) (g24 w os) (step_at (os:=os) (g25 w os) (step_at (os:=os) (g26 w os) (step_at (os:=os) (g27 w os) (by rw [aq6]; exact piece_nil (aq5 w os))))))))))))))))))))))))))))))
theorem aq7 (w:World)(os:OsState):topRun treeTable TP w 11 (some (.ref 6)) (12+(1+(277+(214+(214+(276+(234+(229+(229+(408+(413+(97+(397+(349+(345+(344+(372+(1181+(421+(363+(664+(404+(402+(100+(745+(59+(507+(411+(415+(131+2)))))))))))))))))))))))))))))) ⟨boot_heap w.params,gz,boot_drawn,boot_toks,os⟩ (topStub TP)=some (SS w os BW 1528 2225).abs:=
 go_top (aq4 w os) (piece_block (acn w os) (ajR w os))
def Ay (P:Params):Heap:=absHeap (BW P) 1528 (lf P)
def dZ:List Str:=[z11,z12,kI,uj,uk,z16,z17,z18,z19,z20,z21,z22,z23,z24,v6,dp,z27,z28,z29,z30,z31,z32,z33,z34,z35,z36,z37,z38,z39,z40,z41,z42,z43,z44,z45,z46,z47,z48,z49,iV,z51,z52,z53,z54,z55,ul,z57,z58,z59,z60,z61,z62,z63,z64,z65,z66,z67,z68,z69,z70,z71,z72,z73,z74,z75,z76,z77,z78,z79,z80,z81,z82,z83,z84,z85,z86,z87,z88,z89,z90,z91,z92,z93,z94,z95,z96,z97,z98,z99,rD,rE,rF,rG,rH,rI,rJ,rK,rL,rM,rN,rO,rP,rQ,rR,rS,rT,rU,rV,rW]
def qV:Program:=view TP [123]
theorem ajS:@PySem.W.openSeen=@PySem.W.Fast.tw4187177175401517315:=PySem.W.Fast.te4187177175401517315
theorem k1 (w:World):staticsOk (importedModules TP.main.body) (boot_heap w.params) (Ay w.params)=true:=by kernel_rfl
theorem k2 (w:World):namesBound TP (Ay w.params)=true:=by kernel_rfl
theorem k3 (w:World)(os:OsState):gensDone ⟨Ay w.params,gz,boot_drawn,2225,os⟩=true:=by kernel_rfl
theorem k4 (w:World):laidKept (boot_heap w.params) (Ay w.params)=true:=by kernel_rfl
theorem k5 (w:World)(os:OsState):openSeen qV dZ (importedModules TP.main.body) (λ_=>true) true ⟨Ay w.params,gz,boot_drawn,2225,os⟩=openGood qV dZ:=by
 rw [ajS]
 kernel_rfl
theorem ajT:opening TP=plainProg TP.main.scope.names:=by kernel_rfl
theorem aco (s:Shared):fenceModules? TP s=some s:=by kernel_rfl
theorem ajU (w:World):((boot_heap w.params).isNs mainGlobals&&gz.size==0,(boot_heap w.params).objs.size,(boot_heap w.params).nsMap mainGlobals "__annotations__")=(true,11,some (.ref 6)):=by kernel_rfl
def cY:DefRec:=match aK 123 with
 |.FunctionDef n a b _ _ _ sc _ _ pos=>⟨n,a,b,sc,pos⟩
 |_=>⟨z0,⟨[],[],none,[],[],none,[]⟩,[],⟨.module,[],false,false,[]⟩,⟨0,0,0,0⟩⟩
abbrev hH:OpenRow:=Challenge.rw_rh0185_01.row
abbrev YL (w:World)(h:Heap):Prop:=∀b o,(Ay w.params).get? b=some o→h.get? b=some o
theorem aq8:defOf qV hH.name=some (cY,[]):=by kernel_rfl
theorem aq9:hH.prog.theDef hH.name=some (cY.params,cY.body,cY.scope):=by
 show Challenge.pw_rh0185_01.theDef _=_
 kernel_rfl
theorem auO:kwWritten? cY.params.kwonlyargs cY.params.kw_defaults=some []:=by kernel_rfl
theorem auP:(chainsOk qV&&opensWell hH.prog&&(frees hH.toRowW&&hH.within.isEmpty))=true:=by
 refine look_both (look_both (by kernel_rfl) ?_) (by kernel_rfl)
 show opensWell Challenge.pw_rh0185_01=_
 kernel_rfl
theorem ajV:hH.prog.bare:=by
 show Challenge.pw_rh0185_01.bare
 exact ⟨rfl,rfl,rfl,rfl,rfl,by decide +kernel⟩
theorem acp (w:World):(λos=>((staticsOk (importedModules TP.main.body) (boot_heap w.params) (Ay w.params)&&namesBound TP (Ay w.params)&&gensDone ⟨Ay w.params,gz,boot_drawn,2225,os⟩&&laidKept (boot_heap w.params) (Ay w.params)),
    openSeen qV dZ (importedModules TP.main.body) (λ_=>true) true ⟨Ay w.params,gz,boot_drawn,2225,os⟩,Ay w.params))=λ_=>(true,openGood qV dZ,Ay w.params):=by
 funext os
 rw [k5 w os]
 exact congrArg (λx=>(x,openGood qV dZ,Ay w.params)) (look_both (look_both (look_both (k1 w) (k2 w)) (k3 w os)) (k4 w))
noncomputable def BX:Nat:=12+(1+(277+(214+(214+(276+(234+(229+(229+(408+(413+(97+(397+(349+(345+(344+(372+(1181+(421+(363+(664+(404+(402+(100+(745+(59+(507+(411+(415+(131+2)))))))))))))))))))))))))))))
theorem aqa (w:World)(os:OsState):some (SS w os BW 1528 2225).abs=some (⟨Ay w.params,gz,boot_drawn,2225,os⟩:Shared):=by kernel_rfl
theorem ajW (w:World)(os:OsState):topRun treeTable TP w 11 (some (.ref 6)) BX ⟨boot_heap w.params,gz,boot_drawn,boot_toks,os⟩ (topStub TP)=some ⟨Ay w.params,gz,boot_drawn,2225,os⟩:=by
 rw [←aqa]
 exact aq7 w os
theorem auQ:Nat.ble BX 30000=true:=by kernel_rfl
theorem aqb (w:World):(fencedOpening treeTable TP w 30000).map (λs=>(s.heap,s.gens,s.drawn,s.toks))=some (boot_heap w.params,gz,boot_drawn,boot_toks):=boot_open (N:=30000) ajT (by kernel_rfl) aco w
theorem sp:hH.toRowW.promised:=by w_witness2
theorem ajX:LeftO TP qV dZ (λ_=>true) (λs=>s.heap) (λw=>Ay w.params) 30000 := 
 @LeftO.of_pieces TP qV dZ (λ_=>true) Heap (λs=>s.heap) (λw=>Ay w.params) 30000 true boot_heap Ay gz gz boot_drawn boot_drawn boot_toks 2225 11 (some (.ref 6)) BX aqb ajU ajW auQ acp
theorem head (call:WalkO qV dZ (λ_ _=>True) YL hH.toRowW cY [] λf vs=>PySem.call f vs):Challenge.rw_rh0185_01.Holds:=
 pre λauR=>holds_open (r:=hH) (q:=qV) (loose:=dZ) (Xt:=λ_=>true) (XP:=λ_ _=>True) (Yf:=λs=>s.heap) (Ya:=λw=>Ay w.params) (YP:=YL) (N:=30000) (by show LeftO Challenge.pw_rh0185_01 _ _ _ _ _ _; rw [Ci]; exact ajX)
  (λw s e b o h=>by have e':s.heap=Ay w.params:=e; rw [e']; exact h) (λ_ _ _ x k b o h=>k b o (x b o h)) (λ_ _=>trivial) (λ_ _ _ _ _=>trivial) aq8 aq9 auO (λs _=>recFacts_of (by rfl)) (by rfl) auR auP ajV sp call
noncomputable def kAs:List Addr:=[29,35,36,38,39,51,52,63,64,91,97,98,100,101,118,119,121,122,139,140,142,143,160,161,163,164,174,175,181,182,188,189,190,196,197,203,204,205,211,212,218,219,225,226,232,233,239,240,246,247,253,254,260,261,267,268,274,275,281,282,288,289,295,296,302,303,309,310,316,317,323,324,330,331,388,389,395,396,402,403,409,410,416,417,419,420,437,438,444,445,451,452,458,459,461,462,563,564,570,571,577,578,584,585,591,592,598,599,605,606,607,608,614,615,621,622,628,629,635,636,642,643,649,650,656,657,663,664,670,671,677,678,684,685,691,692,698,699,705,706,712,713,719,720,721,727,728,734,735,741,742,748,749,755,756,762,763,765,766,783,784,790,791,797,798,804,805,811,812,814,815,823,824,830,831,837,838,844,845,851,852,858,859,865,866,872,873,879,880,886,887,891,892,906,907,913,914,915,921,922,928,929,935,936,942,943,949,950,956,957,963,964,970,971,977,978,984,985,991,992,994,995,1005,1006,1012,1013,1019,1020,1021,1027,1028,1032,1033,1034,1040,1041,1047,1048,1054,1055,1059,1060,1066,1067,1073,1074,1080,1081,1087,1088,1101,1102,1106,1107,1113,1114,1120,1121,1123,1124,1132,1133,1137,1138,1142,1143,1149,1150,1158,1164,1165,1171,1172,1178,1179,1185,1186,1192,1193,1199,1200,1206,1207,1213,1214,1220,1221,1227,1228,1234,1235,1241,1242,1248,1249,1255,1256,1262,1263,1269,1270,1276,1277,1279,1280,1290,1291,1299,1305,1306,1307,1313,1314,1320,1321,1327,1328,1334,1335,1341,1342,1348,1349,1355,1356,1362,1363,1365,1366,1378,1384,1385,1387,1388,1400,1401,1407,1408,1414,1415,1421,1422,1426,1427,1433,1434,1440,1441,1447,1448,1454,1455,1461,1462,1468,1469,1473,1474,1478,1479,1483,1484,1485,1491,1492,1496,1497,1501,1502,1506,1507,1511,1512,1516,1517,1521,1522,1526,1527]
def kL (P:Params):Frag:=[(29,o29),(35,o35),(36,o36),(38,o38 P),(39,ae5),(51,o51 P),(52,o52),(63,o63 P),(64,o64),(91,o91),(97,o97),(98,o98),(100,amw P),(101,amx),(118,amy),(119,amz),(121,amA P),(122,amB),(139,amC),(140,amD),(142,amE P),(143,amF),(160,amG),(161,amH),(163,amI P),(164,amJ),(174,amK),(175,amL),(181,amM),(182,amN),(188,amO),(189,amP),(190,amQ),(196,amR),(197,amS),(203,amT),(204,amU),(205,amV),(211,amW),(212,amX),(218,amY),(219,amZ),(225,an0),(226,an1),(232,an2),(233,an3),(239,an4),(240,an5),(246,an6),(247,an7),(253,an8),(254,an9),(260,ana),(261,anb),(267,anc),(268,and),(274,ane),(275,anf),(281,ang),(282,anh),(288,ani),(289,anj),(295,ank),(296,anl),(302,anm),(303,ano),(309,anp),(310,anq),(316,anr),(317,ans),(323,ant),(324,anu),(330,anv),(331,anw),(388,anx),(389,anz),(395,anA),(396,anB),(402,anF),(403,anG),(409,anH),(410,anI),(416,anJ),(417,anK),(419,anM P),(420,um),(437,anN),(438,anP),(444,anQ),(445,anR),(451,anT),(452,anU),(458,anV),(459,anW),(461,anX P),(462,anY),(563,anZ),(564,ao0),(570,ao1),(571,ao2),(577,ao3),(578,ao4),(584,ao5),(585,ao6),(591,ao7),(592,ao8),(598,ao9),(599,aoa),(605,aob),(606,aoc),(607,aod),(608,aoe),(614,aof),(615,aog),(621,aoh),(622,aoi),(628,aoj),(629,aok),(635,aol),(636,aom),(642,aon),(643,aoo),(649,aop),(650,aoq),(656,aor),(657,aos),(663,aot),(664,aou),(670,aov),(671,aow),(677,aox),(678,aoy),(684,aoz),(685,aoA),(691,aoB),(692,aoC),(698,aoD),(699,aoE),(705,aoF),(706,aoG),(712,aoH),(713,aoI),(719,aoJ),(720,aoK),(721,aoL),(727,aoM),(728,aoN),(734,aoO),(735,aoP),(741,aoQ),(742,aoR),(748,aoS),(749,aoT),(755,aoU),(756,aoV),(762,aoW),(763,aoX),(765,aoY P),(766,aoZ),(783,ap0),(784,ap1),(790,ap2),(791,ap3),(797,ap4),(798,ap5),(804,ap6),(805,ap7),(811,ap8),(812,ap9),(814,apa P),(815,un),(823,apb),(824,apc),(830,apd),(831,ape),(837,apf),(838,apg),(844,aph),(845,api),(851,apj),(852,apk),(858,apl),(859,apm),(865,apn),(866,apo),(872,app),(873,apq),(879,apr),(880,aps),(886,apt),(887,apu),(891,apv),(892,apw),(906,apy),(907,apz),(913,apA),(914,apB),(915,apC),(921,apD),(922,apE),(928,apF),(929,apG),(935,apH),(936,apI),(942,apJ),(943,apK),(949,apL),(950,apM),(956,apN),(957,apO),(963,apP),(964,apQ),(970,apR),(971,apS),(977,apT),(978,apU),(984,apV),(985,apW),(991,apX),(992,apY),(994,apZ P),(995,aq0),(1005,ae6),(1006,ae7),(1012,ae8),(1013,ae9),(1019,aea),(1020,aeb),(1021,aec),(1027,aed),(1028,aee),(1032,aef),(1033,aeg),(1034,aeh),(1040,aei),(1041,aej),(1047,aek),(1048,ael),(1054,aem),(1055,aen),(1059,aeo),(1060,aep),(1066,aeq),(1067,aer),(1073,aes),(1074,aet),(1080,aeu),(1081,aev),(1087,aew),(1088,aex),(1101,aey),(1102,aez),(1106,aeA),(1107,aeB),(1113,aeC),(1114,aeD),(1120,aeE),(1121,aeF),(1123,aeG P),(1124,aeH),(1132,aeI),(1133,aeJ),(1137,aeK),(1138,aeL),(1142,aeM),(1143,aeN),(1149,aeO),(1150,aeP),(1158,aeQ),(1164,aeR),(1165,aeS),(1171,aeT),(1172,aeU),(1178,aeV),(1179,aeW),(1185,aeX),(1186,aeY),(1192,aeZ),(1193,af0),(1199,af1),(1200,af2),(1206,af3),(1207,af4),(1213,af5),(1214,af6),(1220,af7),(1221,af8),(1227,af9),(1228,afa),(1234,afb),(1235,afc),(1241,afd),(1242,afe),(1248,aff),(1249,afg),(1255,afh),(1256,afi),(1262,afj),(1263,afk),(1269,afl),(1270,afm),(1276,afn),(1277,afo),(1279,afp P),(1280,afq),(1290,afr),(1291,afs),(1299,aft),(1305,afu),(1306,afv),(1307,afw),(1313,afx),(1314,afy),(1320,afz),(1321,afA),(1327,afB),(1328,afC),(1334,afD),(1335,afE),(1341,afF),(1342,afG),(1348,afH),(1349,afI),(1355,afJ),(1356,afK),(1362,afL),(1363,afM),(1365,afN P),(1366,afO),(1378,afP),(1384,afQ),(1385,afR),(1387,afS P),(1388,afT),(1400,afW),(1401,afX),(1407,afY),(1408,afZ),(1414,ag0),(1415,ag1),(1421,ag2),(1422,ag3),(1426,ag4),(1427,ag5),(1433,ag6),(1434,ag7),(1440,ag8),(1441,ag9),(1447,aga),(1448,agb),(1454,agc),(1455,agd),(1461,age),(1462,agf),(1468,agg),(1469,agh),(1473,agi),(1474,agj),(1478,agk),(1479,agl),(1483,agm),(1484,agn),(1485,ago),(1491,agp),(1492,agq),(1496,agr),(1497,ags),(1501,agt),(1502,agu),(1506,agw),(1507,agx),(1511,agy),(1512,agz),(1516,agA),(1517,agB),(1521,agC),(1522,agD),(1526,agE),(1527,agF)]
theorem aqc (P:Params):kAs=(kL P).map (·.1):=rfl
theorem ajY (P:Params):kAs.map (Ay P).get?=(kL P).map (λp=>some p.2):=by kernel_rfl
theorem aqd (P:Params):(kL P).In (Ay P):=Frag.in_of (aqc P) (ajY P)
def gL:List (Str×Value):=[(z11,(rv 21)),(z12,(iv 1000000 196)),(kI,(rv 39)),(uj,(rv 52)),(uk,(rv 64)),(z16,(rv 76)),(z17,(rv 83)),(z18,(iv 1 283)),(z19,(iv 2 285)),(z20,(iv 3 287)),(z21,(rv 101)),(z22,(rv 122)),(z23,(rv 143)),(z24,(rv 164)),(v6,(rv 175)),(dp,(rv 182)),(z27,(rv 189)),(z28,(rv 197)),(z29,(rv 204)),(z30,(rv 212)),(z31,(rv 219)),(z32,(rv 226)),(z33,(rv 233)),(z34,(rv 240)),(z35,(rv 247)),(z36,(rv 254)),(z37,(rv 261)),(z38,(rv 268)),(z39,(rv 275)),(z40,(rv 282)),(z41,(rv 289)),(z42,(rv 296)),(z43,(rv 303)),(z44,(rv 310)),(z45,(rv 317)),(z46,(rv 324)),(z47,(rv 331)),(z48,(rv 371)),(z49,(iv 1 656)),(iV,(rv 420)),(z51,(rv 462)),(z52,(rv 501)),(z53,(rv 541)),(z54,(rv 550)),(z55,(rv 766)),(ul,(rv 815)),(z57,(rv 824)),(z58,(iv 1000000000000000000000 1260)),(z59,(rv 831)),(z60,(rv 838)),(z61,(iv 6 1282)),(z62,(rv 845)),(z63,(rv 852)),(z64,(rv 859)),(z65,(rv 866)),(z66,(rv 873)),(z67,(rv 880)),(z68,(rv 887)),(z69,(rv 892)),(z71,(rv 995)),(z72,(rv 1006)),(z73,(rv 1013)),(z74,(rv 1020)),(z75,(rv 1028)),(z76,(rv 1033)),(z77,(rv 1041)),(z78,(rv 1048)),(z79,(rv 1055)),(z80,(rv 1060)),(z81,(rv 1067)),(z82,(rv 1074)),(z83,(rv 1081)),(z84,(rv 1088)),(z85,(rv 1124)),(z86,(rv 1133)),(z87,(rv 1138)),(z88,(rv 1143)),(z89,(rv 1150)),(z90,(iv 1500 1680)),(z91,(rv 1280)),(z92,(rv 1291)),(z93,(iv 10000000 1858)),(z94,(rv 1366)),(z95,(iv 16777216 1979)),(z96,(rv 1388)),(z99,(rv 1401)),(rD,(rv 1408)),(rE,(rv 1415)),(rF,(rv 1422)),(rG,(rv 1427)),(rH,(rv 1434)),(rI,(rv 1441)),(rJ,(rv 1448)),(rK,(rv 1455)),(rL,(rv 1462)),(rM,(rv 1469)),(rN,(rv 1474)),(rO,(rv 1479)),(rP,(rv 1484)),(rQ,(rv 1492)),(rR,(rv 1497)),(rS,(rv 1502)),(rT,(rv 1507)),(rU,(rv 1512)),(rV,(rv 1517)),(rW,(rv 1522)),(v7,(rv 1527))]
def bL:List (Str×Value):=[(amh,(bv SL.s13014049009108672802x3)),(amd,(bv SL.s13459172003223722735x3)),(amf,(bv SL.s15185746759980889043x6)),(amj,(tv SL.s7066276694103001551x3)),(amk,(tv SL.s9222952809800978799x4)),(amm,(tv SL.s2766695959194262286x5)),(aml,(tv SL.s1438033511350832697x5)),(amn,(tv SL.s14339709457334898076x3)),(ame,(bv SL.s10557405761357834076x3)),(ami,(bv SL.s8200498257699607233x3)),(amg,(bv SL.s8008927332132565319x10))]
def tL:List (Str×Addr×List FV):=[(z70,893,[.str gW,.str aiY]),(z97,1393,[.int 1000000,.int 250000,.int 333333]),(z98,1394,[.str aW,.str bM,.str bN,.str bk])]
def cL:List (Addr×CI):=[(101,⟨[rX,ph,kT,mN],[],[]⟩),
(143,⟨[cQ,bK,fU,jZ],[],[]⟩),
(164,⟨[mP,j1,cR],[],[]⟩),
(462,⟨[eg,kU,eG],[(dY,445),(bi,452),(bK,459),(yK,403)],[]⟩),
(1124,⟨[eg,kU,jc,px,eG],[(bK,1107),(si,1114),(sj,1121),(dY,812),(yK,403),(bi,410)],[]⟩),
(766,⟨[pn,jb,mS,yL,wb,yM,rZ,aiM,se,aiP,sf,abn,aiR,aiI,aiJ,aiE,aiH,aiO,abR,aiN,aiK,aiL,aiQ,aiF,aiG,rY],[(abq,571),(abr,578),(abt,585),(abu,592),(abv,599),(abw,606),(abx,615),(aby,622),(abz,629),(abA,636),(abB,643),(abC,650),(abD,657),(abE,664),(abF,671),(abG,678),(abH,685),(abI,692),(abJ,699),(abK,706),(abL,713),(dY,720),(pk,728),(abM,735),(mR,742),(abN,749),(abO,756),(abP,763)],[]⟩),
(995,⟨[gp,bK],[(abS,922),(abT,929),(abU,936),(eG,943),(abV,950),(pw,957),(abW,964),(abX,971),(abY,978),(yQ,985),(abZ,992)],[(cR,914)]⟩),
(1280,⟨[gp,pq,mR,mW],[(jc,1172),(ac2,1179),(rY,1186),(pA,1193),(ac3,1200),(ac4,1207),(yU,1214),(pk,1221),(yT,1228),(yS,1235),(yR,1242),(ac5,1249),(ac6,1256),(ac7,1263),(yI,1270),(ac8,1277)],[]⟩),
(1366,⟨[cQ,fU,we,so,ajH,yV,ajO,ajG,ajM,ajN,sk,ajI,ac9,ajK,ajL,ajJ,v8],[(pA,1314),(pw,1321),(aca,1328),(acb,1335),(acd,1342),(ace,1349),(acf,1356),(acg,1363)],[]⟩),
(1388,⟨[jb,mS,se,aci,acj,wa,dM,ack,eg,so,sk,rZ,sf,acl],[],[]⟩)]
noncomputable def sr (K:Frag)(C:Addr)(ci:CI):Bool:=(clsIn K C).any (·.hasDict)&&plainOver K C&&findIn K (.ref C) "__getattribute__" == some (some (.builtin "object.__getattribute__"))&&findIn K (.ref C) "__getattr__" == some none&&findIn K (.ref C) "__setattr__" == some (some (.builtin "object.__setattr__"))&&
 ci.attrs.all (λa=>findIn K (.ref C) a==some none)&&ci.wT.all (λp=>findIn K (.ref C) p.1==some (some (.ref p.2))&&typeIn K (.ref p.2)==some (.type "function"))&&
 ci.wU.all λp=>match findIn K (.ref C) p.1 with
  |some (some (.ref q))=>(match recIn K q "property" with|some (.ref g::_)=>Nat.beq p.2 g|_=>false)&&specialIn K (.ref q) "__get__" == some (some (.builtin "property.__get__"))&&takesIn K (.ref q)==some true
  |_=>false
theorem wg {K:Frag}{C:Addr}{ci:CI}(h:sr K C ci=true):BM K C ci:=by
 unfold sr at h
 simp only [Bool.and_eq_true,beq_iff_eq,List.all_eq_true] at h
 obtain ⟨⟨⟨⟨⟨⟨⟨h1,h2⟩,h3⟩,h4⟩,h5⟩,h6⟩,h7⟩,h8⟩:=h
 refine ⟨h1,h2,h3,h4,h5,h6,λa f hf=>h7 _ hf,λa g hg=>?_⟩
 have:=h8 _ hg
 dsimp only at this
 split at this
 ·rename_i q hq
  simp only [Bool.and_eq_true,beq_iff_eq] at this
  obtain ⟨⟨a1,a2⟩,a3⟩:=this
  split at a1
  ·rename_i g' rest hr
   have:=Nat.eq_of_beq_eq_true a1
   subst this
   exact ⟨q,rest,hq,hr,a2,a3⟩
  ·cases a1
 ·cases this
def je (w:World)(h:Heap):Ah:={prog:=hH.toRowW.prog,w:=w,K:=kL w.params,h0:=h,af:=gL,blt:=bL,me:=tL,cls:=cL}
theorem aqe (P:Params):cL.all (λp=>sr (kL P) p.1 p.2)=true:=by kernel_rfl
noncomputable def j2 (e:DictEntry):Bool:=match e.key with
 |.str _ _=>true
 |_=>false
theorem sw {es:Array DictEntry}(h:es.toList.all j2=true):StrKeys es:=λe he=>by
 have:=List.all_eq_true.mp h e (Array.mem_toList_iff.mpr he)
 unfold j2 at this
 split at this
 ·rename_i n t q; exact ⟨n,t,q⟩
 ·cases this
theorem agG {h:Heap}{a:Addr}{o:Obj}{es:Array DictEntry}{n:Nat}(e:h.get? a=some o)(d:o.data=.dict es n)(k:es.toList.all j2=true):h.Ns a (nsFind es):=⟨o,es,n,e,d,sw k,λ_=>rfl⟩
theorem mY {α β:Type}{f g:α→β}{l:List α}(h:l.map f=l.map g){x:α}(hx:x∈l):f x=g x:=by
 induction l with
 |nil=>cases hx
 |cons a r ih=>
  rw [List.map_cons,List.map_cons] at h
  injection h with h1 h2
  rcases List.mem_cons.mp hx with rfl|hx
  ·exact h1
  ·exact ih h2 hx
def esM (P:Params):Array DictEntry:=⟨ke P z0 165 (sv z1 2049)::(yZ P).take 118⟩
def esB (P:Params):Array DictEntry:=match (o0 P).data with
 |.dict es _=>es
 |_=>#[]
theorem acq (P:Params):(Ay P).get? 3=some (agv P):=by kernel_rfl
theorem ajZ (P:Params):(Ay P).get? 0=some (o0 P):=by kernel_rfl
theorem wi (P:Params):(esM P).toList.all j2=true:=by kernel_rfl
theorem y0 (P:Params):(esB P).toList.all j2=true:=by kernel_rfl
theorem aqf (P:Params):gL.map (λp=>nsFind (esM P) p.1)=gL.map (λp=>some p.2):=by kernel_rfl
theorem aqg (P:Params):bL.map (λp=>(nsFind (esM P) p.1,nsFind (esB P) p.1))=bL.map (λp=>(none,some p.2)):=by kernel_rfl
theorem aqh (P:Params):tL.map (λp=>nsFind (esM P) p.1)=tL.map (λp=>some (.ref p.2.1)):=by kernel_rfl
def auS (P:Params):Nat:=match (o0 P).data with
 |.dict _ n=>n
 |_=>0
theorem acr (P:Params):∃n,(o0 P).data=.dict (esB P) n:=⟨auS P,by kernel_rfl⟩
theorem auT (P:Params):(Ay P).get? 893=some (apx):=by kernel_rfl
theorem aqi (P:Params):(Ay P).get? 1393=some (afU):=by kernel_rfl
theorem aqj (P:Params):(Ay P).get? 1394=some (afV):=by kernel_rfl
theorem ak0 {w:World}{h:Heap}(Y:YL w h)(hl:h.NoLimit):(je w h).Ok where
 nD:=λa o e=>Y _ _ (aqd w.params a o e)
 lim:=hl
 names:=by
  obtain ⟨n0,d0⟩:=acr w.params
  refine ⟨nsFind (esM w.params),nsFind (esB w.params),agG (Y _ _ (acq w.params)) rfl (wi _),agG (Y _ _ (ajZ w.params)) d0 (y0 _),λx v hx=>mY (aqf w.params) hx,λx v hx=>?_,λx a xs hx=>mY (aqh w.params) hx⟩
  have:=mY (aqg w.params) hx
  exact ⟨congrArg Prod.fst this,congrArg Prod.snd this⟩
 me:=by
  intro x a xs hx
  have hx:(x,a,xs)∈tL:=hx
  unfold tL at hx
  simp only [List.mem_cons,List.mem_nil_iff,or_false] at hx
  rcases hx with hx|hx|hx <;> cases hx
  ·exact ⟨[sv gW 1351,sv aiY 1352],0,Y _ _ (auT w.params),λc=>.cons (.str _ _) (.cons (.str _ _) .nil)⟩
  ·exact ⟨[iv 1000000 2051,iv 250000 2052,iv 333333 2053],0,Y _ _ (aqi w.params),λc=>.cons (.int _ _) (.cons (.int _ _) (.cons (.int _ _) .nil))⟩
  ·exact ⟨[sv aW 2055,sv bM 2056,sv bN 2057,sv bk 2058],0,Y _ _ (aqj w.params),λc=>.cons (.str _ _) (.cons (.str _ _) (.cons (.str _ _) (.cons (.str _ _) .nil)))⟩
 cls:=λC ci hc=>wg (List.all_eq_true.mp (aqe w.params) _ hc)
set_option backward.match.sparseCases false
noncomputable abbrev auU:Pos:=⟨9,8,9,12⟩
noncomputable abbrev auV:Pos:=⟨9,8,9,17⟩
noncomputable abbrev auW:Pos:=⟨9,20,9,24⟩
noncomputable abbrev auX:Pos:=⟨9,8,9,24⟩
noncomputable def aqk:List (Nat×Nat×Nat):=[(246,22,11),(516,22,5),(557,22,5),(569,22,5),(672,20,10),(985,11,12),(898,10,14),(609,12,100),(643,44,101),(878,12,102),(908,45,103),(911,16,104),(922,19,105),(942,51,106),(991,12,107)]
noncomputable def y7:List (Nat×Nat×Nat)→Nat→Nat→Nat
 | [],_,_=>0
 |(l,c,k)::r,x,y=>match Nat.beq l x&&Nat.beq c y with
  |true=>k
  |false=>y7 r x y
def pD (p:Pos):Nat:=y7 aqk p.line p.col
def y8 (a:Addr):Nat×Nat:=match iR a [(766,(1,2)),(995,(3,4)),(1366,(7,8)),(1280,(9,13)),(1124,(20,21)),(462,(22,23))] with
 |some p=>p
 |none=>(90,91)
abbrev Cu:=Bool→Addr→Option (List AV→St→KE→KX→Prop)
def dr:Pos→AX:=λ_ aA aV items S K X=>ee aV aA items S K X
def acs:Pos→AI:=λ_ aA aV items S K=>oU aV aA items [] S K
def j3:Pos→BK:=λ_ T Bd S K X=>∃n,jX T Bd n S K X
def aql:Pos→SubL:=λ_=>cZ
noncomputable def auY:Cu:=λ_ _=>none
def cf (w:World)(h:Heap)(f6:Cu)(mK:Pos→AX)(jY:Pos→AI)(mL:Pos→BK)(ja:Pos→SubL):Cf:={G:=je w h,PE:=52,own:=y8,i9:=pD,gR:=[64],f6:=f6,mK:=mK,jY:=jY,mL:=mL,ja:=ja}
def fdI (P:Params):FuncData:=match (o36).data with
 |.func fd=>fd
 |_=>{name:=z0,qualname:=z0,params:=⟨[],[],none,[],[],none,[]⟩,body:=.stmts [],scope:=default,globals:=0,closure:=[],defaults:=.none,kwdefaults:=.none}
def bm5:List Value:=[(rv 39),(tv "Exception"),(tv "BaseException"),(tv "object")]
def d52:BN:=⟨uj,uj,51,[(rv 39)],bm5,[],[],false,none,none,some (rv 43),none,some (sv uj 227),some (sv uj 235),some (.bool true)⟩
def d64:BN:=⟨uk,uk,63,[(rv 39)],bm5,[],[],false,none,none,some (rv 55),none,some (sv uk 243),some (sv uk 251),some (.bool true)⟩
theorem c52 (P:Params):(Ay P).get? 52=some (d52.o 52 true "Exception.__new__"):=by kernel_rfl
theorem c64 (P:Params):(Ay P).get? 64=some (d64.o 64 true "Exception.__new__"):=by kernel_rfl
section
variable {w:World} {h:Heap}
theorem wj (gQ:Value):PySem.refuseLoop gQ "__setattr__" [(rv 52),(rv 39),(tv "Exception"),(tv "BaseException"),(tv "object")]=pure ():=by
 rw [PySem.refuseLoop_ref,PySem.refuseLoop_ref]
 exact PySem.F.store_Exception.passes gQ
theorem auZ (Y:YL w h):B6 (je w h) 52 36 where
 obj:=⟨d52,Y _ _ (c52 w.params),by kernel_rfl,by kernel_rfl,by kernel_rfl,by kernel_rfl,by kernel_rfl,wj⟩
 alX:=by show findIn (kL w.params) _ _=_; kernel_rfl
 fn:=by show typeIn (kL w.params) _=_; kernel_rfl
 sa:=by show findIn (kL w.params) _ _=_; kernel_rfl
 u0:=by show findIn (kL w.params) _ _=_; kernel_rfl
 call:=by show specialIn (kL w.params) _ _=_; kernel_rfl
 typ:=by show instIn (kL w.params) _ _=_; kernel_rfl
 cd:=by show Option.any _ (clsIn (kL w.params) 52)=_; kernel_rfl
theorem av0:CB (je w h) 36 (fdI w.params) (fdI w.params).scope aB bA auU auV auW auX where
 ok:=
  {aj:=⟨tv S.pC,none,#[],by show (kL w.params).lookup 36=_; kernel_rfl⟩
   body:=by kernel_rfl
   gd:=rfl
   code:=by show codeIn (kL w.params) _ _=_; kernel_rfl
   kind:=by kernel_rfl
   co:=by kernel_rfl
   gen:=by kernel_rfl
   cells:=gn (by kernel_rfl)
   glo:=by kernel_rfl
   blt:=by kernel_rfl
   clo:=by kernel_rfl
   args:=by kernel_rfl
   loc:=λx hx=>gU (List.all_eq_true.mp (show ((fdI w.params).params.args.map (·.arg)).all (lO (fdI w.params).scope.names)=true by kernel_rfl) x hx)}
 names:=by kernel_rfl
 ne:=by kernel_rfl
 nd:=⟨by kernel_rfl,by kernel_rfl⟩
 dfl:=⟨nv,λM A E Q s X q=>by
  have e:(fdI w.params).defaults=.ref 29:=by kernel_rfl
  rw [e]
  have e2:(je w h).K.lookup 29=some (o29):=by show (kL w.params).lookup 29=_; kernel_rfl
  have e3:(o29).data=.seq #[nv] 0:=by kernel_rfl
  exact wpAny_seqItems (X _ _ e2) e3 (q _ rfl)⟩
theorem av1 (Y:YL w h):Bu (je w h) 52:=⟨⟨36,_,_,_,_,_,_,_,_,auZ Y,av0⟩,by show keepIn (kL w.params) _=_; kernel_rfl⟩
theorem av2:BH (je w h) 52:=⟨by show findIn (kL w.params) _ _=_; kernel_rfl,by show findIn (kL w.params) _ _=_; kernel_rfl⟩
noncomputable def dataOf (o:Option Obj):Option ClassData:=match o with
 |some ⟨_,_,.cls d,_⟩=>some d
 |_=>none
theorem av3 (Y:YL w h):∀a,a∈[64]→B7 (je w h) 52 a:=λa ha=>by
 cases List.mem_singleton.mp ha
 refine ⟨⟨d64,true,_,Y _ _ (c64 w.params),by kernel_rfl⟩,λd e=>?_⟩
 have e:=congrArg (λo=>(dataOf o).map ClassData.mro) ((Y _ _ (c52 w.params)).symm.trans e)
 have e:some (Value.ref 52::bm5)=some (Value.ref 52::d.bm):=e
 rw [←Option.some.inj e]
 kernel_rfl
theorem cq (Y:YL w h){f6:Cu}{mK:Pos→AX}{jY:Pos→AI}{mL:Pos→BK}{ja:Pos→SubL}{l:Nat}(hc:∀p,AA (jY p))(hf:∀p,AK (mK p))(hw:∀p,Bk (mL p))(hs:∀p,Aw (ja p))(ht:∀q a T B,f6 q a=some T→Ag (je w h) (52,B) l q (only a T)):AB (cf w h f6 mK jY mL ja) l where
 k:=av1 Y
 g:=av2
 n:=av3 Y
 cm:=hc
 fo:=hf
 wh:=hw
 su:=hs
 f6:=ht
theorem bo:∀p,AK (dr p):=λ_ _ _ _ _ _ _ h=>h
theorem mZ:∀p,AA (acs p):=λ_ _ _ _ _ _ h=>h
theorem act:∀p,Aw (aql p):=λ_ _ _ _ _ h=>h
theorem cI:∀p,Bk (j3 p):=λ_ _ _ _ _ _ h=>h
end
set_option backward.match.sparseCases true
def oB (b:Bool)(P:Prop):Prop:=match b with
 |true=>P
 |false=>False
theorem cA {b:Bool}{P C:Prop}(t:oB b P)(f:b=true→P→C):C:=by
 cases b with
 |true=>exact f rfl t
 |false=>exact t.elim
def oO (m:Nat)(a:AV)(P:Nat→Prop):Prop:=match a with
 |.own n k=>oB (Nat.beq n m) (P k)
 |.fr _=>False
@[elab_as_elim] theorem hV {m:Nat}{a:AV}{P:Nat→Prop}(t:oO m a P){C:AV→Prop}(f:∀k,P k→C (.own m k)):C a:=by
 cases a with
 |own n k=>exact cA t λh t=>Nat.eq_of_beq_eq_true h▸f k t
 |fr x=>exact t.elim
def oF (a:AV)(P:FV→Prop):Prop:=match a with
 |.fr x=>P x
 |.own _ _=>False
@[elab_as_elim] theorem f8 {a:AV}{P:FV→Prop}(t:oF a P){C:AV→Prop}(f:∀x,P x→C (.fr x)):C a:=by
 cases a with
 |own n k=>exact t.elim
 |fr x=>exact f x t
def oI (x:FV)(P:Int→Prop):Prop:=match x with
 |.int i=>P i
 |_=>False
@[elab_as_elim] theorem f9 {x:FV}{P:Int→Prop}(t:oI x P){C:FV→Prop}(f:∀i,P i→C (.int i)):C x:=by
 cases x <;> first|exact f _ t|exact False.elim t
def oS (x:FV)(P:Str→Prop):Prop:=match x with
 |.str i=>P i
 |_=>False
@[elab_as_elim] theorem pF {x:FV}{P:Str→Prop}(t:oS x P){C:FV→Prop}(f:∀i,P i→C (.str i)):C x:=by
 cases x <;> first|exact f _ t|exact False.elim t
def oR (x:FV)(P:Addr→Prop):Prop:=match x with
 |.lit (.ref a)=>P a
 |_=>False
@[elab_as_elim] theorem aqm {x:FV}{P:Addr→Prop}(t:oR x P){C:FV→Prop}(f:∀i,P i→C (.lit (.ref i))):C x:=by
 cases x with
 |lit v=>cases v <;> first|exact f _ t|exact False.elim t
 |_=>exact False.elim t
def oZ (x:FV)(P:List FV→Prop):Prop:=match x with
 |.fl i=>P i
 |_=>False
@[elab_as_elim] theorem iW {x:FV}{P:List FV→Prop}(t:oZ x P){C:FV→Prop}(f:∀i,P i→C (.fl i)):C x:=by
 cases x <;> first|exact f _ t|exact False.elim t
def oT (x:FV)(P:List FV→Prop):Prop:=match x with
 |.az i=>P i
 |_=>False
@[elab_as_elim] theorem aqn {x:FV}{P:List FV→Prop}(t:oT x P){C:FV→Prop}(f:∀i,P i→C (.az i)):C x:=by
 cases x <;> first|exact f _ t|exact False.elim t
def oK (A:Addr)(x:FV)(P:Nat→List (Str×FV)→Prop):Prop:=match x with
 |.rc k D fs=>oB (Nat.beq D A) (P k fs)
 |_=>False
@[elab_as_elim] theorem y9 {A:Addr}{x:FV}{P:Nat→List (Str×FV)→Prop}(t:oK A x P){C:FV→Prop}(f:∀k fs,P k fs→C (.rc k A fs)):C x:=by
 cases x with
 |rc k D fs=>exact cA t λh t=>Nat.eq_of_beq_eq_true h▸f k fs t
 |_=>exact False.elim t
def oH (m:Nat)(g:OL)(P:Nat→AO→OL→Prop):Prop:=match g with
 | []=>False
 |p::r=>oB (Nat.beq p.1 m) (P p.2.1 p.2.2 r)
@[elab_as_elim] theorem bD {m:Nat}{g:OL}{P:Nat→AO→OL→Prop}(t:oH m g P){C:OL→Prop}(f:∀k o r,P k o r→C ((m,k,o)::r)):C g:=by
 cases g with
 |nil=>exact t.elim
 |cons p r=>
  cases p with|mk n q=>cases q with|mk k o=>exact cA t λh t=>(Nat.eq_of_beq_eq_true h:n=m)▸f k o r t
def oL (o:AO)(P:List FV→Prop):Prop:=match o with
 |.list xs=>P xs
 |_=>False
@[elab_as_elim] theorem pG {o:AO}{P:List FV→Prop}(t:oL o P){C:AO→Prop}(f:∀i,P i→C (.list i)):C o:=by
 cases o <;> first|exact f _ t|exact False.elim t
def oD (o:AO)(P:List (Str×AV)→Prop):Prop:=match o with
 |.be xs=>P xs
 |_=>False
@[elab_as_elim] theorem y' {o:AO}{P:List (Str×AV)→Prop}(t:oD o P){C:AO→Prop}(f:∀i,P i→C (.be i)):C o:=by
 cases o <;> first|exact f _ t|exact False.elim t
def oN (A d:Nat)(o:AO)(P:Nat→Prop):Prop:=match o with
 |.inst D e k=>oB (Nat.beq D A) (oB (Nat.beq e d) (P k))
 |_=>False
@[elab_as_elim] theorem za {A d:Nat}{o:AO}{P:Nat→Prop}(t:oN A d o P){C:AO→Prop}(f:∀k,P k→C (.inst A d k)):C o:=by
 cases o with
 |inst D e k=>exact cA t λh t=>cA t λh' t=>Nat.eq_of_beq_eq_true h▸Nat.eq_of_beq_eq_true h'▸f k t
 |_=>exact False.elim t
def oP {α:Type}(z:Str)(l:List (Str×α))(P:α→List (Str×α)→Prop):Prop:=match l with
 | []=>False
 |p::r=>oB (p.1==z) (P p.2 r)
@[elab_as_elim] theorem cr {α:Type}{z:Str}{l:List (Str×α)}{P:α→List (Str×α)→Prop}(t:oP z l P){C:List (Str×α)→Prop}(f:∀v r,P v r→C ((z,v)::r)):C l:=by
 cases l with
 |nil=>exact t.elim
 |cons p r=>cases p with|mk n v=>exact cA t λh t=>(eq_of_beq (α:=Str) h:n=z)▸f v r t
def oE {α:Type}(l:List α)(P:Prop):Prop:=match l with
 | []=>P
 |_::_=>False
@[elab_as_elim] theorem a0 {α:Type}{l:List α}{P:Prop}(t:oE l P){C:List α→Prop}(f:P→C []):C l:=by
 cases l with
 |nil=>exact f t
 |cons=>exact t.elim
def oC {α:Type}(l:List α)(P:α→List α→Prop):Prop:=match l with
 | []=>False
 |a::r=>P a r
@[elab_as_elim] theorem bz {α:Type}{l:List α}{P:α→List α→Prop}(t:oC l P){C:List α→Prop}(f:∀a r,P a r→C (a::r)):C l:=by
 cases l with
 |nil=>exact t.elim
 |cons a r=>exact f a r t
def oA1 {α:Type}(l:List α)(P:α→Prop):Prop:=oC l λa r=>oE r (P a)
def oA2 {α:Type}(l:List α)(P:α→α→Prop):Prop:=oC l λa r=>oA1 r (P a)
@[elab_as_elim] theorem zb {α:Type}{l:List α}{P:α→Prop}(t:oA1 l P){C:List α→Prop}(f:∀a,P a→C [a]):C l:=
 bz t λa _ t=>a0 t (f a)
@[elab_as_elim] theorem sx {α:Type}{l:List α}{P:α→α→Prop}(t:oA2 l P){C:List α→Prop}(f:∀a b,P a b→C [a,b]):C l:=
 bz t λa _ t=>zb t (f a)
def oV (S:St)(P:(OL→St)→OL→Prop):Prop:=P (λg=>⟨S.loc,S.ai,S.am,g,S.aa⟩) S.af
@[elab_as_elim] theorem uo {S:St}{P:(OL→St)→OL→Prop}(t:oV S P){C:St→Prop}(f:∀loc ai am aa g,P (λg=>⟨loc,ai,am,g,aa⟩) g→C ⟨loc,ai,am,g,aa⟩):C S:=
 f _ _ _ _ _ t
def oV2 (S:St)(P:(OL→Nat→St)→OL→Prop):Prop:=P (λg n=>⟨S.loc,S.ai,S.am,g,n⟩) S.af
@[elab_as_elim] theorem ak1 {S:St}{P:(OL→Nat→St)→OL→Prop}(t:oV2 S P){C:St→Prop}(f:∀loc ai am aa g,P (λg n=>⟨loc,ai,am,g,n⟩) g→C ⟨loc,ai,am,g,aa⟩):C S:=
 f _ _ _ _ _ t
def oX (l:List AV)(P:FV→List AV→Prop):Prop:=oC l λa l=>oF a λx=>P x l
@[elab_as_elim] theorem de {l:List AV}{P:FV→List AV→Prop}(t:oX l P){C:List AV→Prop}(f:∀x l,P x l→C (.fr x::l)):C l:=
 bz t λ_ l t=>f8 t λx t=>f x l t
def oJ (l:List AV)(P:Int→List AV→Prop):Prop:=oX l λx l=>oI x λi=>P i l
@[elab_as_elim] theorem bZ {l:List AV}{P:Int→List AV→Prop}(t:oJ l P){C:List AV→Prop}(f:∀x l,P x l→C (.fr (.int x)::l)):C l:=
 de t λ_ l t=>f9 t λx t=>f x l t
def oQ (l:List FV)(P:Int→List FV→Prop):Prop:=oC l λa l=>oI a λi=>P i l
@[elab_as_elim] theorem j4 {l:List FV}{P:Int→List FV→Prop}(t:oQ l P){C:List FV→Prop}(f:∀x l,P x l→C (.int x::l)):C l:=
 bz t λ_ l t=>f9 t λx t=>f x l t
def oQ2 (l:List FV)(P:Int→Int→Prop):Prop:=oQ l λa l=>oQ l λb l=>oE l (P a b)
@[elab_as_elim] theorem sy {l:List FV}{P:Int→Int→Prop}(t:oQ2 l P){C:List FV→Prop}(f:∀x y,P x y→C [.int x,.int y]):C l:=
 j4 t λx _ t=>j4 t λy _ t=>a0 t (f x y)
def oQ6 (l:List FV)(P:Int→Int→Int→Int→Int→Int→Prop):Prop:=oQ l λa l=>oQ l λb l=>oQ l λc l=>oQ l λd l=>oQ2 l λe f=>P a b c d e f
@[elab_as_elim] theorem zc {l:List FV}{P:Int→Int→Int→Int→Int→Int→Prop}(t:oQ6 l P){C:List FV→Prop}(k:∀a b c d e f,P a b c d e f→C [.int a,.int b,.int c,.int d,.int e,.int f]):C l:=
 j4 t λa _ t=>j4 t λb _ t=>j4 t λc _ t=>j4 t λd _ t=>sy t (k a b c d)
structure Ky where
 (a b c d e f g h i j k l:Nat)
def kys (f:Nat→Nat):Nat→Nat→Prop→Prop
 |0,_,P=>P
 |m+1,c,P=>match c with
  |0=>P
  |c+1=>f ((c+1) % 16)=f ((c+1) % 16)∧kys f m ((c+1) / 16) P
theorem sA {f:Nat→Nat}:∀{m c:Nat} {P:Prop},P→kys f m c P
 |0,_,_,h=>h
 |_+1,0,_,h=>h
 |_+1,_+1,_,h=>⟨rfl,sA h⟩
noncomputable def Ky.at (κ:Ky)(n:Nat):Nat:=([0,κ.a,κ.b,κ.c,κ.d,κ.e,κ.f,κ.g,κ.h,κ.i,κ.j,κ.k,κ.l].drop n).headD 0
inductive Tv where
 |k (a:Nat)|l (a b:Nat)|s (a:Int)|n (a:Int)|i (a b:Int)|j (a b:Int)|tt|bb|y (κ:Ky) (c:Nat)|z (a c:Nat)
def Tv.on:Tv→Prop→Prop
 |.k a,P=>a=a∧P
 |.l a b,P=>a≤b∧P
 |.s a,P=>Sm a∧P
 |.n a,P=>a≠0∧P
 |.i a b,P=>a≤b∧P
 |.j a b,P=>a<b∧P
 |.tt,P=>True∧P
 |.bb,P=>true=true∧P
 |.y κ c,P=>kys κ.at 50 c P
 |.z a c,P=>kys (λd=>a+(d-1)) 50 c P
noncomputable def Tv.aV:Tv→Bool
 |.l a b=>Nat.ble a b
 |.s a=>Nat.ble a.natAbs (10 ^ 100)
 |.n a=>Nat.blt 0 a.natAbs
 |.i a b=>decide (a≤b)
 |.j a b=>decide (a<b)
 |_=>true
def Q:List Tv→Prop→Prop
 | [],P=>P
 |t::r,P=>t.on (Q r P)
theorem Tv.of {P:Prop}(p:P):∀{t:Tv},t.aV=true→t.on P
 |.k _,_=>⟨rfl,p⟩
 |.l _ _,h=>⟨Nat.le_of_ble_eq_true h,p⟩
 |.s a,h=>⟨Nat.lt_of_le_of_lt (Nat.le_of_ble_eq_true h) (by decide),p⟩
 |.n a,h=>⟨by
  have:=Nat.le_of_ble_eq_true h
  show a≠0
  lia,p⟩
 |.i a b,h=>⟨of_decide_eq_true (p:=a≤b) h,p⟩
 |.j a b,h=>⟨of_decide_eq_true (p:=a<b) h,p⟩
 |.tt,_=>⟨trivial,p⟩
 |.bb,_=>⟨rfl,p⟩
 |.y _ _,_=>sA p
 |.z _ _,_=>sA p
theorem Aa:∀{l:List Tv} {P:Prop},l.all Tv.aV=true→P→Q l P
 | [],_,_,h=>h
 |t::r,_,e,h=>by
  rw [List.all_cons,Bool.and_eq_true] at e
  exact Tv.of (Aa e.2 h) e.1
def iB (b:Bool)(A B:Prop):Prop:=match b with
 |true=>A
 |false=>B
theorem fu {p:Prop}[Decidable p]{A B:Prop}(h:p→A)(h':¬p→B):iB (decide p) A B:=by
 unfold iB
 by_cases q:p
 ·simp [q]; exact h q
 ·simp [q]; exact h' q
theorem ze {p:Prop}[Decidable p]{A B:Prop}(q:p)(h:A):iB (decide p) A B:=by unfold iB; simp [q]; exact h
theorem cF {p:Prop}[Decidable p]{A B:Prop}(q:¬p)(h:B):iB (decide p) A B:=by unfold iB; simp [q]; exact h
theorem fw {b:Bool}{A B:Prop}(h:A)(h':B):iB b A B:=by cases b <;> assumption
abbrev ql (w:World)(h:Heap):Cf:=cf w h auY dr acs j3 aql
def Af (b:Nat)(xs:List FV)(c:Int):Prop:=∃ds:List Int,xs=ds.map FV.int∧(∀d∈ds,0≤d∧d<10 ^ 60)∧ds.length≤63∧0≤c∧c≤b
def As (N k:Nat)(xs:List FV)(c:Int)(P:List FV→Int→Prop):Prop:=c.toNat<N∧Af c.toNat xs c∧∀eU c',Af (c.toNat+k) eU c'→P eU c'
theorem Af.up {b b':Nat}{xs:List FV}{c:Int}(h:Af b xs c)(l:b≤b'):Af b' xs c:=by
 obtain ⟨ds,h1,h2,h3,h4,h5⟩:=h
 exact ⟨ds,h1,h2,h3,h4,by lia⟩
theorem Af.le {b:Nat}{xs:List FV}{c:Int}(h:Af b xs c):Af c.toNat xs c∧c.toNat≤b:=by
 obtain ⟨ds,h1,h2,h3,h4,h5⟩:=h
 exact ⟨⟨ds,h1,h2,h3,h4,by lia⟩,by lia⟩
theorem As.mk {N k b:Nat}{xs:List FV}{c:Int}{P:List FV→Int→Prop}(h:Af b xs c)(l:b<N)(f:∀eU c',Af (b+k) eU c'→P eU c'):As N k xs c P:=
 ⟨Nat.lt_of_le_of_lt h.le.2 l,h.le.1,λeU c' s=>f eU c' (s.up (Nat.add_le_add_right h.le.2 k))⟩
def wk (a:AV)(S:St)(P:List FV→Int→Nat→(List FV→Int→Nat→St)→Prop):Prop:=oO 12 a λk=>oH 12 S.af λk' o g=>oL o λl=>oC l λz l=>oZ z λxs=>oQ l λc l=>oE l (k=k'∧P xs c S.aa λxs c n=>⟨S.loc,S.ai,S.am,(12,k',.list [.fl xs,.int c])::g,n⟩)
@[elab_as_elim] theorem jn {a:AV}{S:St}{P:List FV→Int→Nat→(List FV→Int→Nat→St)→Prop}(t:wk a S P){C:AV→St→Prop}(f:∀loc ai am aa k xs c g,P xs c aa (λxs c n=>⟨loc,ai,am,(12,k,.list [.fl xs,.int c])::g,n⟩)→C (.own 12 k) ⟨loc,ai,am,(12,k,.list [.fl xs,.int c])::g,aa⟩):C a S:=by
 cases S with|mk loc ai am g aa=>
 unfold wk at t
 dsimp only at t
 refine hV t λk t=>bD t λk' o g t=>pG t λl t=>bz t λz l t=>iW t λxs t=>j4 t λc l t=>a0 t λt=>?_
 cases t.1
 exact f _ _ _ _ _ _ _ _ t.2
def eP:List AV→St→KE→KX→Prop:=λargs S K _=>oC args λa l=>oJ l λbO l=>oE l (wk a S λxs c n up=>0<bO∧bO≤1000000∧As 1000000000 1 xs c λeU c'=>∀r,0≤r→r<bO→K (.fr (.int r)) (up eU c' n))
theorem agH {i:Int}(h:i.natAbs<2 ^ 62):Sm i:=Nat.lt_of_lt_of_le h (Nat.pow_le_pow_right (by decide) (by decide))
theorem zf {a b:Int}(hb:0<b):a.fmod b=a % b:=Int.fmod_eq_emod_of_nonneg a (Int.le_of_lt hb)
theorem ak2 {a b:Int}(hb:0<b):a.fdiv b=a / b:=Int.fdiv_eq_ediv_of_nonneg a (Int.le_of_lt hb)
theorem fmod_lo {a b:Int}(hb:0<b):0≤a.fmod b:=by rw [zf hb]; exact Int.emod_nonneg a (by lia)
theorem fmod_hi {a b:Int}(hb:0<b):a.fmod b<b:=by rw [zf hb]; exact Int.emod_lt_of_pos a hb
def nq (n b:Int):Int:=(2*an n+an b).fdiv (2*an b)
def nr (n b:Int):Int:=if (decide (n<0)==decide (b<0))=true then nq n b else -(nq n b)
def Bg (i:Int):Prop:=i.natAbs<10 ^ 100
def j5:List AV→St→KE→KX→Prop:=λargs S K _=>oA2 args λa b=>oF a λa=>oI a λx=>oF b λb=>oI b λy=>Bg x∧Bg y∧y≠0∧K (.fr (.int (nr x y))) S
@[elab_as_elim] theorem j6 {args:List AV}{S:St}{K:KE}{X:KX}{C:List AV→Prop}(t:j5 args S K X)(f:∀x y,Bg x→Bg y→y≠0→K (.fr (.int (nr x y))) S→C [.fr (.int x),.fr (.int y)]):C args:=
 sx t λ_ b t=>f8 t λ_ t=>f9 t λx t=>f8 t λ_ t=>f9 t λy t=>f x y t.1 t.2.1 t.2.2.1 t.2.2.2
def zg:List AV→St→KE→KX→Prop:=λargs S K _=>oA1 args λa=>oF a λa=>oI a λx=>an x≤1000000000000000000000∧K (.fr (.int x)) S
@[elab_as_elim] theorem zh {args:List AV}{S:St}{K:KE}{X:KX}{C:List AV→Prop}(t:zg args S K X)(f:∀x,an x≤1000000000000000000000→K (.fr (.int x)) S→C [.fr (.int x)]):C args:=
 zb t λ_ t=>f8 t λ_ t=>f9 t λx t=>f x t.1 t.2
abbrev qm (k0 k3 k4 k5:Nat)(o0:AO)(xs:List FV)(g:OL):OL:=(12,k0,o0)::(4,k4,.be [(gp,.fr (.int 200)),(bK,.own 5 k5)])::(3,k3,.inst 995 4 k4)::(5,k5,.list xs)::g
abbrev stR (k0 k3 k4 sB k5 jf:Nat)(o0:AO)(xs:List FV)(g:OL):OL:=(12,k0,o0)::(4,k4,.be [(gp,.fr (.int 200)),(bK,.own 5 k5)])::(3,k3,.inst 995 4 sB)::(5,jf,.list xs)::g
def ak3 (g:OL)(P:Nat→Nat→Nat→Nat→Nat→Nat→AO→List FV→OL→Prop):Prop:=oH 12 g λk0 o0 g=>oH 4 g λk4 o4 g=>oD o4 λl=>oP gp l λv l=>oF v λv=>oI v λmo=>oB (decide (mo=200)) (oP bK l λv l=>oE l (oO 5 v λk5=>oH 3 g λk3 o3 g=>oN 995 4 o3 λsB=>oH 5 g λjf o5 g=>oL o5 λxs=>P k0 k3 k4 sB k5 jf o0 xs g))
@[elab_as_elim] theorem uq {g:OL}{P:Nat→Nat→Nat→Nat→Nat→Nat→AO→List FV→OL→Prop}{C:OL→Prop}(t:ak3 g P)(f:∀k0 k3 k4 sB k5 jf o0 xs g,P k0 k3 k4 sB k5 jf o0 xs g→C (stR k0 k3 k4 sB k5 jf o0 xs g)):C g:=by
 refine bD t λk0 o0 g t=>bD t λk4 o4 g t=>y' t λl t=>cr t λv l t=>f8 t λv t=>f9 t λmo t=>cA t λhm t=>cr t λv l t=>a0 t λt=>hV t λk5 t=>bD t λk3 o3 g t=>za t λsB t=>bD t λjf o5 g t=>pG t λxs u=>?_
 have hm:=of_decide_eq_true hm
 subst hm
 exact f _ _ _ _ _ _ _ _ _ u
def dR (a:AV)(S:St)(P:List FV→(List FV→St)→Prop):Prop:=oO 3 a λk=>oV S λup g=>ak3 g λk0 k3 k4 sB k5 jf o0 xs g=>k=k3∧sB=k4∧k5=jf∧P xs λys=>up (stR k0 k3 k4 sB k5 jf o0 ys g)
@[elab_as_elim] theorem fx {a:AV}{S:St}{P:List FV→(List FV→St)→Prop}{C:AV→St→Prop}(t:dR a S P)(f:∀loc ai am aa k0 k3 k4 k5 o0 xs g,P xs (λys=>⟨loc,ai,am,qm k0 k3 k4 k5 o0 ys g,aa⟩)→C (.own 3 k3) ⟨loc,ai,am,qm k0 k3 k4 k5 o0 xs g,aa⟩):C a S:=by
 refine hV t λk t=>uo t λloc ai am aa g t=>uq t λk0 k3 k4 sB k5 jf o0 xs g t=>?_
 obtain ⟨rfl,rfl,rfl,u⟩:=t
 exact f _ _ _ _ _ _ _ _ _ _ _ u
def agI:List AV→St→KE→KX→Prop:=λargs S K _=>oA2 args λa x=>oF x λx=>dR a S λxs up=>xs.length<200∧K (.fr .none) (up (xs++[x]))
def pH:List AV→St→KE→KX→Prop:=λargs S K _=>oA2 args λa x=>oF x λx=>oZ x λys=>dR a S λxs up=>xs.length+ys.length≤200∧K (.fr .none) (up (xs++ys))
section
variable (w:World) (h:Heap) (n:Nat) (aa:Nat) (loc:List (Str×AV)) (ai:List (Str×Nat×Nat)) (am g:OL) (S:St) (K:KE) (X:KX)
theorem aqo (x y:Int):ao (ql w h) (n+1) true (.fr (.lit (.ref 831))) [.fr (.int x),.fr (.int y)] S K X=
 (Q [.s 2] (Sm (an x)∧Q [.s 2] (Sm (an y)∧2*an y≠0∧Sm (2*an y)∧iB (decide (decide (x<0)=decide (y<0))) (K (.fr (.int ((2*an x+an y).fdiv (2*an y)))) S) (K (.fr (.int (-(2*an x+an y).fdiv (2*an y)))) S)))):=by kernel_rfl
theorem ak4 (x y:Int):ao (ql w h) (n+1) true (.fr (.lit (.ref 1434))) [.fr (.int x),.fr (.int y)] S K X=
 (an y≠0∧Sm (an y)∧Q [.s 2] (Sm ((an x).fmod (an y))∧iB (decide (an y≤2*(an x).fmod (an y))) (iB (decide (decide (x<0)=decide (y<0))) (K (.fr (.int ((an x).fdiv (an y)+1))) S) (K (.fr (.int (-((an x).fdiv (an y)+1)))) S)) (iB (decide (decide (x<0)=decide (y<0))) (K (.fr (.int ((an x).fdiv (an y)+0))) S) (K (.fr (.int (-((an x).fdiv (an y)+0)))) S)))):=by kernel_rfl
theorem ak5 (x:Int):ao (ql w h) (n+1) true (.fr (.lit (.ref 838))) [.fr (.int x)] S K X=
 (iB (decide (1000000000000000000000<an x)) (X (.bytes #[108,105,109,105,116,99,104,101,99,107]) S) (K (.fr (.int x)) S)):=by kernel_rfl
theorem ak6 (k0 k3 k4 k5:Nat)(o0:AO)(xs:List FV)(x:FV):ao (ql w h) (n+1) true (.fr (.lit (.ref 922))) [.own 3 k3,.fr x] ⟨loc,ai,am,qm k0 k3 k4 k5 o0 xs g,aa⟩ K X=
 (Q [.k k3,.k k4,.k k5] (xs.length≤1000000∧Q [.k k3,.k k4] (iB (decide (200≤Int.ofNat xs.length)) (X (.bytes #[115,116,97,99,107,111,118,101,114,102,108,111,119]) (St.mk loc ai am (qm k0 k3 k4 k5 o0 xs g) aa)) (Q [.k k3,.k k4,.k k5,.k k5,.k k5] (xs.length≤1000000∧K (.fr .none) (St.mk loc ai am (qm k0 k3 k4 k5 o0 (xs++[x]) g) aa)))))):=by kernel_rfl
theorem acu (k0 k3 k4 k5:Nat)(o0:AO)(xs ys:List FV):ao (ql w h) (n+1) true (.fr (.lit (.ref 929))) [.own 3 k3,.fr (.fl ys)] ⟨loc,ai,am,qm k0 k3 k4 k5 o0 xs g,aa⟩ K X=
 (Q [.k k3,.k k4,.k k5] (xs.length≤1000000∧ys.length≤1000000∧Q [.k k3,.k k4] (iB (decide (200<Int.ofNat xs.length+Int.ofNat ys.length)) (X (.bytes #[115,116,97,99,107,111,118,101,114,102,108,111,119]) (St.mk loc ai am (qm k0 k3 k4 k5 o0 xs g) aa)) (Q [.k k3,.k k4,.k k5,.k k5] (xs.length+ys.length≤1000000∧K (.fr .none) (St.mk loc ai am (qm k0 k3 k4 k5 o0 (xs++ys) g) aa)))))):=by kernel_rfl
theorem acv (k:Nat)(c bO:Int):ao (ql w h) (n+1) true (.fr (.lit (.ref 1422))) [.own 12 k,.fr (.int bO)] ⟨loc,ai,am,(12,k,.list [.fl [],.int c])::g,aa⟩ K X=
 (Q [.k k,.k k,.k k,Tv.i 0 1,Tv.j 1 2,.l 2 1000000,.k k,.s 5] (Sm (c+1)∧Q [.k k,.n 3,.s 3] (bO≠0∧K (.fr (.int ((5*(c+1)+(c+1).fdiv 3).fmod bO))) (St.mk loc ai am ((12,k,.list [.fl [],.int (c+1)])::g) aa)))):=by kernel_rfl
theorem acw (k:Nat)(c bO d:Int)(xs:List FV):ao (ql w h) (n+1) true (.fr (.lit (.ref 1422))) [.own 12 k,.fr (.int bO)] ⟨loc,ai,am,(12,k,.list [.fl (.int d::xs),.int c])::g,aa⟩ K X=
 (Q [.k k,.k k] (bO≠0∧Q [.k k] (bO≠0∧Sm bO∧iB (decide (0<d.fdiv bO)) (Q [.k k] ((FV.int d::xs).length≤1000000∧Q [Tv.i 0 1] (1+xs.length≤1000000∧Q [.k k,Tv.i 0 0,Tv.j 0 2,.l 2 1000000] (K (.fr (.int (d.fmod bO))) (St.mk loc ai am ((12,k,.list [.fl (FV.int (d.fdiv bO)::xs),.int c])::g) aa))))) (Q [.k k] ((FV.int d::xs).length≤1000000∧Q [Tv.i 0 1] (0+xs.length≤1000000∧Q [.k k,Tv.i 0 0,Tv.j 0 2,.l 2 1000000] (K (.fr (.int (d.fmod bO))) (St.mk loc ai am ((12,k,.list [.fl xs,.int c])::g) aa)))))))):=by kernel_rfl
end
theorem hZ {i:Int}(h:i.natAbs<10 ^ 102):Sm i:=Nat.lt_of_lt_of_le h (by decide)
theorem aS (x:Int):an x=x.natAbs:=by
 unfold an
 cases x <;> rfl
theorem acx (x y:Int)(hy:y≠0):nq x y=if an y≤2*(an x).fmod (an y) then (an x).fdiv (an y)+1 else (an x).fdiv (an y)+0:=by
 unfold nq
 have hb:0<an y:=by rw [aS]; lia
 have ha:0≤an x:=by rw [aS]; lia
 generalize an y=b at hb ⊢
 generalize an x=a at ha ⊢
 rw [Int.fdiv_eq_ediv_of_nonneg _ (show 0≤2*b by lia),Int.fdiv_eq_ediv_of_nonneg _ (Int.le_of_lt hb),Int.fmod_eq_emod_of_nonneg _ (Int.le_of_lt hb)]
 have h1:=Int.emod_nonneg a (show b≠0 by lia)
 have h2:=Int.emod_lt_of_pos a hb
 have h3:=Int.mul_ediv_add_emod a b
 generalize a % b=r at h1 h2 h3 ⊢
 generalize a / b=q at h3 ⊢
 subst h3
 have e:2*(b*q+r)+b=(2*r+b)+2*b*q:=by
  rw [Int.mul_add,←Int.mul_assoc]; lia
 rw [e,Int.add_mul_ediv_left _ _ (show 2*b≠0 by lia)]
 split
 ·rw [show (2*r+b) / (2*b)=1 from by
   rw [show 2*r+b=(2*r-b)+2*b*1 by lia,Int.add_mul_ediv_left _ _ (show 2*b≠0 by lia),Int.ediv_eq_zero_of_lt (by lia) (by lia)]
   rfl]
  lia
 ·rw [Int.ediv_eq_zero_of_lt (by lia) (by lia)]
  lia
theorem Bg.sm {x:Int}(h:Bg x):Sm x:=hZ (Nat.lt_of_lt_of_le h (by decide))
theorem Bg.abs {x:Int}(h:Bg x):Sm (an x):=hZ (by rw [aS]; unfold Bg at h; lia)
section
variable (w:World) (h:Heap) (n:Nat) {args:List AV} {S:St} {K:KE} {X:KX}
theorem aqp (t:j5 args S K X):ao (ql w h) (n+1) true (.fr (.lit (.ref 831))) args S K X:=by
 refine j6 t λx y hx hy h0 t=>?_
 rw [aqo]
 have hb:an y≠0:=by rw [aS]; lia
 refine Aa rfl ⟨hx.abs,Aa rfl ⟨hy.abs,by lia,hZ (by rw [aS]; unfold Bg at hy; lia),?_⟩⟩
 unfold nr nq at t
 unfold iB
 cases hc:decide (x<0)==decide (y<0)
 ·rw [hc] at t
  have:decide (decide (x<0)=decide (y<0))=false:=by simpa using hc
  rw [this]
  exact t
 ·rw [hc] at t
  have:decide (decide (x<0)=decide (y<0))=true:=by simpa using hc
  rw [this]
  exact t
theorem ak7 (t:j5 args S K X):ao (ql w h) (n+1) true (.fr (.lit (.ref 1434))) args S K X:=by
 refine j6 t λx y hx hy h0 t=>?_
 rw [ak4]
 have hb:an y≠0:=by rw [aS]; lia
 have hb0:0<an y:=by rw [aS]; lia
 have m1:0≤(an x).fmod (an y):=Mine.fmod_lo hb0
 have m2:(an x).fmod (an y)<an y:=Mine.fmod_hi hb0
 have m3:an y<10 ^ 100:=by rw [aS]; unfold Bg at hy; lia
 refine ⟨hb,hy.abs,Aa rfl ⟨hZ (by lia),?_⟩⟩
 unfold nr at t
 rw [acx x y h0] at t
 have key:∀q,K (.fr (.int (if (decide (x<0)==decide (y<0))=true then q else -q))) S→iB (decide (decide (x<0)=decide (y<0))) (K (.fr (.int q)) S) (K (.fr (.int (-q))) S):=λq t=>by
  unfold iB
  cases hc:decide (x<0)==decide (y<0)
  ·rw [hc] at t
   have:decide (decide (x<0)=decide (y<0))=false:=by simpa using hc
   rw [this]
   exact t
  ·rw [hc] at t
   have:decide (decide (x<0)=decide (y<0))=true:=by simpa using hc
   rw [this]
   exact t
 refine fu (λq=>?_) (λq=>?_)
 ·rw [if_pos q] at t; exact key _ t
 ·rw [if_neg q] at t; exact key _ t
theorem ak8 (t:zg args S K X):ao (ql w h) (n+1) true (.fr (.lit (.ref 838))) args S K X:=
 zh t λx l t=>(ak5 ..).mpr (cF (Int.not_lt.mpr l) t)
theorem ak9 (t:agI args S K X):ao (ql w h) (n+1) true (.fr (.lit (.ref 922))) args S K X:=
 sx t λ_ _ t=>f8 t λ_ t=>fx t λ_ _ _ _ _ _ _ _ _ xs _ ⟨hl,t⟩=>by
  rw [ak6]
  have e:Int.ofNat xs.length=(xs.length:Int):=rfl
  exact Aa rfl ⟨by lia,Aa rfl (cF (by lia) (Aa rfl ⟨by lia,t⟩))⟩
theorem acy (t:pH args S K X):ao (ql w h) (n+1) true (.fr (.lit (.ref 929))) args S K X:=
 sx t λ_ _ t=>f8 t λ_ t=>iW t λys t=>fx t λ_ _ _ _ _ _ _ _ _ xs _ ⟨hl,t⟩=>by
  rw [acu]
  have e:Int.ofNat xs.length=(xs.length:Int):=rfl
  have e2:Int.ofNat ys.length=(ys.length:Int):=rfl
  exact Aa rfl ⟨by lia,by lia,Aa rfl (cF (by lia) (Aa rfl ⟨by lia,t⟩))⟩
theorem aka (t:eP args S K X):ao (ql w h) (n+1) true (.fr (.lit (.ref 1422))) args S K X:=by
 refine bz t λa _ q=>bZ q λbO _ q=>a0 q λq=>jn q λloc ai am aa k xs c g q=>?_
 obtain ⟨hp,hq,hb,⟨ds,rfl,hd,hl,hc0,a8⟩,t⟩:=q
 cases ds with
 |nil=>
  show ao (ql w h) (n+1) true (.fr (.lit (.ref 1422))) [.own 12 k,.fr (.int bO)] ⟨loc,ai,am,(12,k,.list [.fl [],.int c])::g,aa⟩ K X
  rw [acv]
  have hm:0≤(5*(c+1)+(c+1).fdiv 3).fmod bO:=Mine.fmod_lo hp
  have hm2:(5*(c+1)+(c+1).fdiv 3).fmod bO<bO:=Mine.fmod_hi hp
  exact Aa rfl ⟨agH (by lia),Aa rfl ⟨by lia,t [] _ ⟨[],rfl,(λd hd=>by cases hd),by simp,by lia,by lia⟩ _ hm hm2⟩⟩
 |cons d ds=>
  show ao (ql w h) (n+1) true (.fr (.lit (.ref 1422))) [.own 12 k,.fr (.int bO)] ⟨loc,ai,am,(12,k,.list [.fl (.int d::ds.map FV.int),.int c])::g,aa⟩ K X
  rw [acw]
  have hd0:=hd d (.head _)
  have hl2:ds.length≤62:=by simp at hl; lia
  have hm:0≤d.fmod bO:=Mine.fmod_lo hp
  have hm2:d.fmod bO<bO:=Mine.fmod_hi hp
  refine Aa rfl ⟨by lia,Aa rfl ⟨by lia,agH (by lia),?_⟩⟩
  have lz:(FV.int d::ds.map FV.int).length≤1000000:=by simp; lia
  have l2:(ds.map FV.int).length≤62:=by simpa using hl2
  refine fw ?_ ?_
  ·refine Aa rfl ⟨lz,Aa rfl ⟨by lia,Aa rfl (t (([d.fdiv bO]++ds).map FV.int) _ ⟨[d.fdiv bO]++ds,rfl,λe he=>?_,by simp; lia,hc0,by lia⟩ _ hm hm2)⟩⟩
   rcases List.mem_append.mp he with he|he
   ·rw [List.mem_singleton] at he
    subst he
    rw [Mine.ak2 hp]
    exact ⟨Int.ediv_nonneg hd0.1 (Int.le_of_lt hp),Int.lt_of_le_of_lt (Int.ediv_le_self _ hd0.1) hd0.2⟩
   ·exact hd e (.tail _ he)
  ·exact Aa rfl ⟨lz,Aa rfl ⟨by lia,Aa rfl (t (ds.map FV.int) _ ⟨ds,rfl,λe he=>hd e (.tail _ he),by lia,hc0,by lia⟩ _ hm hm2)⟩⟩
end
set_option backward.match.sparseCases false
abbrev CT:=List AV→St→KE→KX→Prop
def du (E:List (Addr×CT)):Cu:=λq a=>match q with
 |true=>iR a E
 |false=>none
theorem m4 {G:Ah}{PE:Addr×Nat}{l:Nat}{q:Bool}{vc:Au}{a:Addr}{T:CT}(h:Ag G PE l q vc)(hT:∀args S K X,T args S K X→vc (.fr (.lit (.ref a))) args S K X):Ag G PE l q (only a T):=by
 intro A fs env sc cl L r f v args vs c S s aj hf hv K X Q E k p x
 refine jm (Z:=λf=>VR G.prog G.w c f v→_) k (λb k hf=>?_) hf
 obtain ⟨e,k⟩:=k
 subst e
 exact h A fs env sc cl L r _ v args vs c S s aj hf hv K X Q E (hT _ _ _ _ k) p x
def AN (w:World)(h:Heap)(l:Nat)(E:List (Addr×CT)):Prop:=∀p∈E,∀B,Ag (je w h) (52,B) l true (only p.1 p.2)
theorem AN.f6 {w:World}{h:Heap}{l:Nat}{E:List (Addr×CT)}(e:AN w h l E):∀q a T B,du E q a=some T→Ag (je w h) (52,B) l q (only a T):=λq a T B ht=>by
 unfold du at ht
 split at ht
 ·exact e _ (fG ht) B
 ·cases ht
theorem AN.nil {w:World}{h:Heap}{l:Nat}:AN w h l []:=λ_ h=>nomatch h
theorem AN.cons {w:World}{h:Heap}{l:Nat}{a:Addr}{T:CT}{E:List (Addr×CT)}(x:∀B,Ag (je w h) (52,B) l true (only a T))(e:AN w h l E):AN w h l ((a,T)::E):=λp hp=>by
 rcases List.mem_cons.mp hp with rfl|hp
 ·exact x
 ·exact e p hp
theorem AN.up {w:World}{h:Heap}{l:Nat}{E:List (Addr×CT)}(e:AN w h l E)(m:Nat):AN w h (l+m) E:=λp hp B=>(e p hp B).up m
theorem aC {w:World}{h:Heap}{C:Cf}{l:Nat}(z:AB C l)(hG:C.G=je w h)(hP:C.PE=52)(m:Nat){a:Addr}{T:CT}(hT:∀args S K X,T args S K X→ao C m true (.fr (.lit (.ref a))) args S K X):∀B,Ag (je w h) (52,B) (l+2*m) true (only a T):=λB=>by
 have:=pe z m true B
 rw [hG,hP] at this
 exact m4 this hT
section
def av4 (l:Nat):FV:=.rc l 1388 [(jb,.int 500),(mS,.int 20),(se,.int 250),(aci,.int 15),(acj,.int 31),(wa,.int 65535),(dM,.int 65535),(ack,.int 65535),(eg,.int 127),(so,.int 1500),(sk,.int 11),(rZ,.int 15),(sf,.int 600),(acl,.int 16777216)]
def av5:FV:=.db [([109,111,118,101,116,111],.lit (rv 1067)),([108,105,110,101,116,111],.lit (rv 1074)),([99,117,114,118,101,116,111],.lit (rv 1081)),([99,108,111,115,101,112,97,116,104],.lit (rv 1088)),([112,97,116,104,102,111,114,97,108,108],.lit (rv 1133)),([101,120,105,116],.lit (rv 824)),([99,111,110,99,97,116],.lit (rv 1150))]
def aqq (κ:Ky)(sn:Int)(sb:Bool)(aH:FV):AO:=.be [(pn,.fr .none),(jb,.own 3 κ.c),(mS,.fr .none),(yL,.fr .none),(wb,.fr (av4 κ.l)),(yM,.fr (.ds [])),(rZ,.fr .none),(aiM,.fr .none),(se,.own 11 κ.f),(aiP,.fr av5),(sf,.fr .none),(abn,.fr .none),(aiR,.fr .none),(aiI,.own 7 κ.h),(aiJ,.fr .none),(aiE,.fr .none),(aiH,.fr .none),(aiO,.fr .none),(abR,.fr (.int sn)),(aiN,.fr (.int 1)),(aiK,.fr (.bool false)),(aiL,.fr (.bool sb)),(aiQ,.fr .none),(aiF,.fr .none),(aiG,.fr .none),(rY,.fr aH)]
def gsF (κ:Ky)(mx:FV):AO:=.be [(cQ,.fr (.int 0)),(fU,.fr (.bool false)),(we,.fr mx),(so,.own 9 κ.j),(ajH,.fr (.fl [])),(yV,.fr .none),(ajO,.fr (.int 1000000)),(ajG,.fr (.int 0)),(ajM,.fr (.int 0)),(ajN,.fr (.int 10000000)),(sk,.fr (.fl [])),(ajI,.fr (.int 0)),(ac9,.fr (.int 1000000)),(ajK,.fr (.bool false)),(ajL,.fr (.bool false)),(ajJ,.fr .none),(v8,.fr (.ds []))]
def agJ (k:Nat)(bg pt:FV):AO:=.be [(gp,.fr (.int 1500)),(pq,.own 10 k),(mR,.fr bg),(mW,.fr pt)]
def gl (κ:Ky)(tx:List FV)(tc:Int)(k5:Nat)(xs:List FV)(sn:Int)(sb:Bool)(aH:FV)(fr:AO)(mx bg pt:FV)(ks:List FV)(r:OL):OL:=
 (12,κ.a,.list [.fl tx,.int tc])::(4,κ.b,.be [(gp,.fr (.int 200)),(bK,.own 5 k5)])::(3,κ.c,.inst 995 4 κ.b)::(5,k5,.list xs)::(2,κ.d,aqq κ sn sb aH)::(1,κ.e,.inst 766 2 κ.d)::(11,κ.f,fr)::(8,κ.g,gsF κ mx)::(7,κ.h,.inst 1366 8 κ.g)::(13,κ.i,agJ κ.k bg pt)::(9,κ.j,.inst 1280 13 κ.i)::(10,κ.k,.list ks)::r
noncomputable def acz (f:Nat→Nat)(o:Nat→AO)(r:OL):OL:=(12,f 0,o 0)::(4,f 1,o 1)::(3,f 2,o 2)::(5,f 3,o 3)::(2,f 4,o 4)::(1,f 5,o 5)::(11,f 6,o 6)::(8,f 7,o 7)::(7,f 8,o 8)::r
end
def oW (g:OL)(P:(OL→OL)→OL→Prop):Prop:=oH 12 g λk0 o0 g=>oH 4 g λk1 o1 g=>oH 3 g λk2 o2 g=>oH 5 g λk3 o3 g=>oH 2 g λk4 o4 g=>oH 1 g λk5 o5 g=>oH 11 g λk6 o6 g=>oH 8 g λk7 o7 g=>oH 7 g λk8 o8 g=>P (λr=>(12,k0,o0)::(4,k1,o1)::(3,k2,o2)::(5,k3,o3)::(2,k4,o4)::(1,k5,o5)::(11,k6,o6)::(8,k7,o7)::(7,k8,o8)::r) g
@[elab_as_elim] theorem agK {g:OL}{P:(OL→OL)→OL→Prop}(t:oW g P){C:OL→Prop}(f:∀k o g,P (acz k o) g→C (acz k o g)):C g:=
 bD t λk0 o0 _ t=>bD t λk1 o1 _ t=>bD t λk2 o2 _ t=>bD t λk3 o3 _ t=>bD t λk4 o4 _ t=>bD t λk5 o5 _ t=>bD t λk6 o6 _ t=>bD t λk7 o7 _ t=>bD t λk8 o8 _ t=>f (λi=>[k0,k1,k2,k3,k4,k5,k6,k7,k8].getD i 0) (λi=>[o0,o1,o2,o3,o4,o5,o6,o7,o8].getD i (.list [])) _ t
def m5 (a:AV)(S:St)(P:FV→FV→List FV→(FV→FV→List FV→St)→Prop):Prop:=oO 9 a λk=>oV S λup g=>oW g λp9 g=>oH 13 g λaT o g=>oD o λl=>oP gp l λv l=>oF v λv=>oI v λmo=>oB (decide (mo=1500)) (oP pq l λv l=>oO 10 v λa7=>oP mR l λv l=>oF v λbg=>oP mW l λv l=>oE l (oF v λpt=>oH 9 g λk9 o g=>oN 1280 13 o λakb=>oH 10 g λakc o g=>oL o λks=>
 k=k9∧akb=aT∧a7=akc∧P bg pt ks λbg pt ks=>up (p9 ((13,aT,.be [(gp,.fr (.int mo)),(pq,.own 10 a7),(mR,.fr bg),(mW,.fr pt)])::(9,k9,.inst 1280 13 akb)::(10,akc,.list ks)::g))))
def aQ (f:Nat→Nat)(o:Nat→AO)(aT k9 a7:Nat)(bg pt:FV)(ks:List FV)(g:OL):OL:=acz f o ((13,aT,agJ a7 bg pt)::(9,k9,.inst 1280 13 aT)::(10,a7,.list ks)::g)
@[elab_as_elim] theorem iL {a:AV}{S:St}{P:FV→FV→List FV→(FV→FV→List FV→St)→Prop}(t:m5 a S P){C:AV→St→Prop}(c:∀loc ai am aa f o aT k9 a7 bg pt ks g,P bg pt ks (λbg pt ks=>⟨loc,ai,am,aQ f o aT k9 a7 bg pt ks g,aa⟩)→C (.own 9 k9) ⟨loc,ai,am,aQ f o aT k9 a7 bg pt ks g,aa⟩):C a S:=by
 refine hV t λk t=>uo t λloc ai am aa g t=>agK t λf o g t=>bD t λaT o' g t=>y' t λl t=>cr t λv l t=>f8 t λv t=>f9 t λmo t=>cA t λhm t=>cr t λv l t=>hV t λa7 t=>cr t λv l t=>f8 t λbg t=>cr t λv l t=>a0 t λt=>f8 t λpt t=>bD t λk9 o' g t=>za t λakb t=>bD t λakc o' g t=>pG t λks t=>?_
 have hm:=of_decide_eq_true hm
 obtain ⟨rfl,rfl,rfl,u⟩:=t
 subst hm
 exact c _ _ _ _ _ _ _ _ _ _ _ _ _ u
noncomputable def E0:List (Addr×CT):=[(1422,eP),(831,j5),(1434,j5),(838,zg),(922,agI),(929,pH)]
theorem Bl {w:World}{h:Heap}(Y:YL w h):AN w h 2 E0:=by
 have z:AB (ql w h) 0:=cq Y mZ bo cI act λq a T B e=>by cases e
 exact .cons (aC z rfl rfl 1 λ_ _ _ _ t=>aka w h 0 t) (.cons (aC z rfl rfl 1 λ_ _ _ _ t=>aqp w h 0 t) (.cons (aC z rfl rfl 1 λ_ _ _ _ t=>ak7 w h 0 t) (.cons (aC z rfl rfl 1 λ_ _ _ _ t=>ak8 w h 0 t) (.cons (aC z rfl rfl 1 λ_ _ _ _ t=>ak9 w h 0 t) (.cons (aC z rfl rfl 1 λ_ _ _ _ t=>acy w h 0 t) .nil)))))
noncomputable def zi:FV→Bool
 |.int (.negSucc 0)=>true
 |_=>false
theorem wl {x:FV}(h:zi x=true):x=.int (.negSucc 0):=by
 cases x with
 |int i=>cases i with
  |ofNat=>exact Bool.noConfusion h
  |negSucc n=>cases n with
   |zero=>rfl
   |succ=>exact Bool.noConfusion h
 |_=>exact Bool.noConfusion h
theorem gu {α:Type}{o:Option α}{f:α→Prop}{x:α}(e:o=some x)(h:f x):bW o f:=e▸h
def ur:SubL:=λa i S K=>gw i λi=>cV (zi i) (match a with
 |.own m k=>bW (S.get m) λq=>gc q.2 λxs=>k=q.1∧∃w r,xs.getLast?=some (.az (.str w::r))∧K (.fr (.az (.str w::r))) S
 |.fr x=>aaM x λxs=>∃y,xs.getLast?=some y∧K (.fr y) S)
theorem item_last {α:Type}{xs:List α}{y:α}(h:xs.getLast?=some y):itemAt xs (.negSucc 0)=some y:=by
 unfold itemAt
 rw [List.getLast?_eq_getElem?] at h
 cases xs with
 |nil=>exact nomatch h
 |cons=>exact h
theorem sC:Aw ur:=λa i S K h=>by
 refine aZ (P:=λi=>cZ a i S K) h λi h=>aG h λhi h=>?_
 rw [wl hi]
 cases a with
 |own m k=>
  refine au h λq e h=>?_
  obtain ⟨j,o⟩:=q
  refine cD (P:=λo=>S.get m=some (j,o)→_) h (λxs h e=>?_) e
  obtain ⟨ek,w,r,hl,h⟩:=h
  exact gu (f:=λr=>match r.2 with
   |.list xs=>k=r.1∧bW (itemAt xs (.negSucc 0)) λx=>K (.fr x) S
   |.a9 ks=>k=r.1∧bW (itemAt ks (.negSucc 0)) λx=>K (.own x.1 x.2) S
   |_=>False) e ⟨ek,gu (item_last hl) h⟩
 |fr x=>exact ji (P:=λx=>cZ (.fr x) (.fr (.int (.negSucc 0))) S K) h λxs h=>let ⟨y,hl,h⟩:=h; gu (item_last hl) h
noncomputable def eQ:List (Nat×Nat×Nat)→Pos→Bool
 | [],_=>false
 |(l,c,e)::r,p=>match Nat.beq l p.line&&Nat.beq c p.col&&Nat.beq e p.endCol with
  |true=>true
  |false=>eQ r p
def iM (p:Pos):SubL:=match eQ [(698,38,51),(704,31,44),(713,11,24),(725,33,46),(886,11,18),(892,19,60)] p with
 |true=>ur
 |false=>cZ
theorem cu (p:Pos):Aw (iM p):=by
 unfold iM
 cases eQ _ p with
 |true=>exact sC
 |false=>exact λ_ _ _ _ h=>h
abbrev j7 (w:World)(h:Heap):Cf:=cf w h (du E0) dr acs j3 iM
theorem akd {w:World}{h:Heap}(Y:YL w h):AB (j7 w h) 2:=cq Y mZ bo cI cu (Bl Y).f6
set_option backward.match.sparseCases true
theorem ake (n b:Int)(hb:b≠0):2*an n-an b≤2*(nq n b*an b)∧2*(nq n b*an b)≤2*an n+an b:=by
 have h0:0<an b:=by rw [aS]; lia
 have h1:=Int.emod_nonneg (2*an n+an b) (show 2*an b≠0 by lia)
 have h2:=Int.emod_lt_of_pos (2*an n+an b) (show 0<2*an b by lia)
 have h3:=Int.mul_ediv_add_emod (2*an n+an b) (2*an b)
 unfold nq
 rw [Int.fdiv_eq_ediv_of_nonneg _ (show 0≤2*an b by lia)]
 generalize (2*an n+an b) / (2*an b)=q at*
 generalize (2*an n+an b) % (2*an b)=r at*
 have e:2*an b*q=2*(q*an b):=by rw [Int.mul_assoc,Int.mul_comm q]
 rw [e] at h3
 generalize q*an b=z at*
 lia
theorem m6 (n b:Int)(hb:b≠0):2*n-an b≤2*(nr n b*b)∧2*(nr n b*b)≤2*n+an b:=by
 obtain ⟨h1,h2⟩:=ake n b hb
 rw [aS,aS] at h1 h2
 rw [aS]
 by_cases hn:n<0 <;> by_cases hb':b<0
 ·have e:nr n b=nq n b:=by unfold nr; simp [hn,hb']
  rw [e]
  generalize nq n b=q at*
  rw [show ((b.natAbs:Nat):Int) = -b by lia,Int.mul_neg] at h1 h2
  generalize q*b=z at*
  lia
 ·have e:nr n b = -nq n b:=by unfold nr; simp [hn,hb']
  rw [e,Int.neg_mul]
  generalize nq n b=q at*
  rw [show ((b.natAbs:Nat):Int)=b by lia] at h1 h2
  generalize q*b=z at*
  lia
 ·have e:nr n b = -nq n b:=by unfold nr; simp [hn,hb']
  rw [e,Int.neg_mul]
  generalize nq n b=q at*
  rw [show ((b.natAbs:Nat):Int) = -b by lia,Int.mul_neg] at h1 h2
  generalize q*b=z at*
  lia
 ·have e:nr n b=nq n b:=by unfold nr; simp [hn,hb']
  rw [e]
  generalize nq n b=q at*
  rw [show ((b.natAbs:Nat):Int)=b by lia] at h1 h2
  generalize q*b=z at*
  lia
theorem akf (n b:Int)(hb:b≠0):nr (-n) (-b)=nr n b:=by
 have e1:an (-n)=an n:=by rw [aS,aS,Int.natAbs_neg]
 have e2:an (-b)=an b:=by rw [aS,aS,Int.natAbs_neg]
 unfold nr nq
 rw [e1,e2]
 by_cases h0:n=0
 ·subst h0
  have e0:an 0=0:=rfl
  have:(2*an 0+an b).fdiv (2*an b)=0:=by
   have:0<an b:=by rw [aS]; lia
   rw [e0,Int.fdiv_eq_ediv_of_nonneg _ (show 0≤2*an b by lia)]
   exact Int.ediv_eq_zero_of_lt (by lia) (by lia)
  rw [this]
  simp
 ·have h1:decide (-n<0) = !decide (n<0):=by by_cases h:n<0 <;> simp [h] <;> lia
  have h2:decide (-b<0) = !decide (b<0):=by by_cases h:b<0 <;> simp [h] <;> lia
  rw [h1,h2]
  cases decide (n<0) <;> cases decide (b<0) <;> rfl
theorem sD (n:Int):2*n-1000000≤2000000*nr n 1000000∧2000000*nr n 1000000≤2*n+1000000:=by
 have:=m6 n 1000000 (by decide)
 have e:an 1000000=1000000:=rfl
 rw [e] at this
 lia
theorem zj (k:Int):nr (1000000*k) 1000000=k:=by
 have:=sD (1000000*k)
 lia
structure Sp where
 (a b c d e f:Int)
def Sp.on (m:Sp)(x y:Int):Int×Int:=(nr (m.a*x+m.c*y) 1000000+m.e,nr (m.b*x+m.d*y) 1000000+m.f)
noncomputable def Sp.eV (m:Sp):Int:=m.a*m.d-m.b*m.c
def Sp.aq (m:Sp)(x y:Int):Int×Int:=(nr (1000000*(m.d*(x-m.e)-m.c*(y-m.f))) m.eV,nr (1000000*(m.a*(y-m.f)-m.b*(x-m.e))) m.eV)
def Sp.bf (h m:Sp):Sp:=⟨nr (m.a*h.a+m.c*h.b) 1000000,nr (m.b*h.a+m.d*h.b) 1000000,nr (m.a*h.c+m.c*h.d) 1000000,nr (m.b*h.c+m.d*h.d) 1000000,nr (m.a*h.e+m.c*h.f) 1000000+m.e,nr (m.b*h.e+m.d*h.f) 1000000+m.f⟩
def In (B x:Int):Prop := -B≤x∧x≤B
theorem In.mul {A B x y:Int}(hx:In A x)(hy:In B y):In (A*B) (x*y):=by
 obtain ⟨a1,a2⟩:=hx
 obtain ⟨b1,b2⟩:=hy
 have hA:0≤A:=by lia
 have hB:0≤B:=by lia
 have h1:0≤(A-x)*(B-y):=Int.mul_nonneg (by lia) (by lia)
 have h2:0≤(A+x)*(B+y):=Int.mul_nonneg (by lia) (by lia)
 have h3:0≤(A-x)*(B+y):=Int.mul_nonneg (by lia) (by lia)
 have h4:0≤(A+x)*(B-y):=Int.mul_nonneg (by lia) (by lia)
 simp only [Int.sub_mul,Int.add_mul,Int.mul_sub,Int.mul_add] at h1 h2 h3 h4
 unfold In
 generalize A*B=p at*
 generalize x*y=q at*
 generalize A*y=r at*
 generalize x*B=s at*
 lia
theorem In.up {A B x:Int}(h:In A x)(l:A≤B):In B x:=by unfold In at *; lia
theorem In.add {A B x y:Int}(hx:In A x)(hy:In B y):In (A+B) (x+y):=by unfold In at *; lia
theorem In.sub {A B x y:Int}(hx:In A x)(hy:In B y):In (A+B) (x-y):=by unfold In at *; lia
theorem In.ut {A n:Int}(h:In (1000000*A) n):In (A+1) (nr n 1000000):=by
 have:=sD n
 unfold In at*
 lia
structure AE (k:Nat)(m:Sp):Prop where
 lin:∃g p q r s:Int,250000≤g∧g≤1000000∧In (2*4 ^ k) p∧In (2*4 ^ k) q∧In (2*4 ^ k) r∧In (2*4 ^ k) s∧m.a=g*p∧m.b=g*q∧m.c=g*r∧m.d=g*s
 e:In (30000000*4 ^ k) m.e
 f:In (30000000*4 ^ k) m.f
structure BG (h:Sp):Prop where
 lin:∃p q r s:Int,In 2 p∧In 2 q∧In 2 r∧In 2 s∧h.a=1000000*p∧h.b=1000000*q∧h.c=1000000*r∧h.d=1000000*s
 e:In 8000000 h.e
 f:In 8000000 h.f
theorem sE (k:Nat):(1:Int)≤4 ^ k:=by
 induction k with
 |zero=>decide
 |succ k ih=>rw [Int.pow_succ]; lia
theorem AE.bf {k:Nat}{m h:Sp}(x:AE k m)(y:BG h):AE (k+1) (h.bf m):=by
 obtain ⟨⟨g,p,q,r,s,g1,g2,hp,hq,hr,hs,ea,eb,ec,ed⟩,he,hf⟩:=x
 obtain ⟨⟨P,Q,R,S,hP,hQ,hR,hS,fa,fb,fc,fd⟩,hhe,hhf⟩:=y
 have z:=sE k
 have gi:In 1000000 g:=⟨by lia,by lia⟩
 have key:∀{p r P Q:Int},In (2*4 ^ k) p→In (2*4 ^ k) r→In 2 P→In 2 Q→nr (g*p*(1000000*P)+g*r*(1000000*Q)) 1000000=g*(p*P+r*Q)∧In (2*4 ^ (k+1)) (p*P+r*Q):=λ{p r P Q} hp hr hP hQ=>by
  constructor
  ·rw [show g*p*(1000000*P)+g*r*(1000000*Q)=1000000*(g*(p*P+r*Q)) by grind]
   exact zj _
  ·refine ((hp.mul hP).add (hr.mul hQ)).up ?_
   rw [Int.pow_succ]
   lia
 have mov:∀{p r e:Int},In (2*4 ^ k) p→In (2*4 ^ k) r→In (30000000*4 ^ k) e→In (30000000*4 ^ (k+1)) (nr (g*p*h.e+g*r*h.f) 1000000+e):=λ{p r e} hp hr he=>by
  have h1:=((gi.mul hp).mul hhe).add ((gi.mul hr).mul hhf)
  have h2:In (32000000*4 ^ k+1) (nr (g*p*h.e+g*r*h.f) 1000000):=In.ut (h1.up (by lia))
  refine (h2.add he).up ?_
  rw [Int.pow_succ]
  lia
 refine ⟨⟨g,p*P+r*Q,q*P+s*Q,p*R+r*S,q*R+s*S,g1,g2,(key hp hr hP hQ).2,(key hq hs hP hQ).2,(key hp hr hR hS).2,(key hq hs hR hS).2,?_,?_,?_,?_⟩,?_,?_⟩
 ·show nr (m.a*h.a+m.c*h.b) 1000000=_
  rw [ea,ec,fa,fb]; exact (key hp hr hP hQ).1
 ·show nr (m.b*h.a+m.d*h.b) 1000000=_
  rw [eb,ed,fa,fb]; exact (key hq hs hP hQ).1
 ·show nr (m.a*h.c+m.c*h.d) 1000000=_
  rw [ea,ec,fc,fd]; exact (key hp hr hR hS).1
 ·show nr (m.b*h.c+m.d*h.d) 1000000=_
  rw [eb,ed,fc,fd]; exact (key hq hs hR hS).1
 ·show In _ (nr (m.a*h.e+m.c*h.f) 1000000+m.e)
  rw [ea,ec]; exact mov hp hr he
 ·show In _ (nr (m.b*h.e+m.d*h.f) 1000000+m.f)
  rw [eb,ed]; exact mov hq hs hf
theorem fy (x y:Int):an (x*y)=an x*an y:=by rw [aS,aS,aS,Int.natAbs_mul,Int.natCast_mul]
theorem AE.near {k:Nat}(hk:k≤10){g N D:Int}(g1:250000≤g)(hD:D≠0)(hN:In (1000000*(2*(2*4 ^ k)*(50000000*4 ^ k))) N):In (1000000000000000000000) (nr (g*N) (g*g*D)):=by
 have hb:g*g*D≠0:=by
  intro h
  rcases Int.mul_eq_zero.mp h with h|h
  ·rcases Int.mul_eq_zero.mp h with h|h <;> lia
  ·exact hD h
 obtain ⟨h1,h2⟩:=m6 (g*N) (g*g*D) hb
 generalize nr (g*N) (g*g*D)=u at*
 rw [fy,fy] at h1 h2
 have ag:an g=g:=by rw [aS]; lia
 rw [ag] at h1 h2
 have aD:1≤an D:=by rw [aS]; lia
 have hk4:(4:Int) ^ k*4 ^ k≤1099511627776:=by
  have:(4:Int) ^ k≤4 ^ 10:=by
   have:=Nat.pow_le_pow_right (show 0<4 by decide) hk
   exact_mod_cast this
  have p:=sE k
  have e:(4:Int) ^ 10=1048576:=by decide
  rw [e] at this
  have:=Int.mul_le_mul this this (by lia) (by decide)
  lia
 have hN':In 220000000000000000000000000 N:=by
  refine hN.up ?_
  have e:(1000000*(2*(2*4 ^ k)*(50000000*4 ^ k)):Int)=200000000000000*(4 ^ k*4 ^ k):=by grind
  rw [e]; lia
 -- divide by g
 have h1':2*N-g*an D≤2*(u*(g*D)):=by
  have:g*(2*N-g*an D)≤g*(2*(u*(g*D))):=by
   have e1:g*(2*N-g*an D)=2*(g*N)-g*g*an D:=by grind
   have e2:g*(2*(u*(g*D)))=2*(u*(g*g*D)):=by grind
   rw [e1,e2]; exact h1
  exact Int.le_of_mul_le_mul_left this (by lia)
 have h2':2*(u*(g*D))≤2*N+g*an D:=by
  have:g*(2*(u*(g*D)))≤g*(2*N+g*an D):=by
   have e1:g*(2*N+g*an D)=2*(g*N)+g*g*an D:=by grind
   have e2:g*(2*(u*(g*D)))=2*(u*(g*g*D)):=by grind
   rw [e1,e2]; exact h2
  exact Int.le_of_mul_le_mul_left this (by lia)
 unfold In at hN' ⊢
 have hgD:250000≤g*an D:=by
  have:=Int.mul_le_mul g1 aD (by decide) (by lia)
  lia
 -- |u| * (g|D|) ≤ |N| + g|D|/2
 have hu:an u*(g*an D)=an (u*(g*D)):=by rw [fy,fy,ag]
 have hz:2*an (u*(g*D))≤2*220000000000000000000000000+g*an D:=by
  rw [aS]; lia
 rw [←hu] at hz
 have hU:0≤an u:=by rw [aS]; lia
 have:(2*an u-1)*(g*an D)≤440000000000000000000000000:=by
  have e:(2*an u-1)*(g*an D)=2*(an u*(g*an D))-g*an D:=by grind
  rw [e]; lia
 have oz:an u≤1000000000000000000000:=by
  false_or_by_contra
  rename_i hc
  have h3:(1:Int)≤2*an u-1:=by lia
  have:=Int.mul_le_mul (show (2000000000000000000000:Int)≤2*an u-1 by lia) hgD (by decide) (by lia)
  lia
 rw [aS] at oz
 lia
theorem AE.aq {k:Nat}{m:Sp}(S:AE k m)(hk:k≤10)(hd:m.eV≠0){x y:Int}(hx:In 20000000 x)(hy:In 20000000 y):
  In 1000000000000000000000 (m.aq x y).1∧In 1000000000000000000000 (m.aq x y).2:=by
 obtain ⟨⟨g,p,q,r,s,g1,g2,hp,hq,hr,hs,ea,eb,ec,ed⟩,he,hf⟩:=S
 have z:=sE k
 have hX:In (50000000*4 ^ k) (x-m.e):=(hx.sub he).up (by lia)
 have hY:In (50000000*4 ^ k) (y-m.f):=(hy.sub hf).up (by lia)
 have eD:m.eV=g*g*(p*s-q*r):=by unfold Sp.eV; rw [ea,eb,ec,ed]; grind
 have hD:p*s-q*r≠0:=by
  intro h
  rw [eD,h,Int.mul_zero] at hd
  exact hd rfl
 have ut:In 1000000 1000000:=by unfold In; lia
 constructor
 ·show In _ (nr (1000000*(m.d*(x-m.e)-m.c*(y-m.f))) m.eV)
  rw [eD,show 1000000*(m.d*(x-m.e)-m.c*(y-m.f))=g*(1000000*(s*(x-m.e)-r*(y-m.f))) by rw [ed,ec]; grind]
  refine AE.near hk g1 hD (ut.mul (((hs.mul hX).sub (hr.mul hY)).up ?_))
  grind
 ·show In _ (nr (1000000*(m.a*(y-m.f)-m.b*(x-m.e))) m.eV)
  rw [eD,show 1000000*(m.a*(y-m.f)-m.b*(x-m.e))=g*(1000000*(p*(y-m.f)-q*(x-m.e))) by rw [ea,eb]; grind]
  refine AE.near hk g1 hD (ut.mul (((hp.mul hY).sub (hq.mul hX)).up ?_))
  grind
theorem In.div {A B D:Int}(hD:D≠0)(h:In (B*an D) (A*D)):In B A:=by
 have hd:1≤an D:=by rw [aS]; lia
 have h1:an A*an D≤B*an D:=by
  rw [←fy,aS]
  unfold In at h
  lia
 have:=Int.le_of_mul_le_mul_right h1 (by lia)
 rw [aS] at this
 unfold In
 lia
theorem In.ab {x:Int}:In (an x) x:=by rw [aS]; unfold In; lia
theorem round {a c W X N1 N2 u v D:Int}(hD:D≠0)(h1:2*N1-an D≤2*(u*D)∧2*(u*D)≤2*N1+an D)(h2:2*N2-an D≤2*(v*D)∧2*(v*D)≤2*N2+an D)(e:a*N1+c*N2=1000000*X*D)(hW:W=a*u+c*v):
  In (an a+an c) (2*W-2000000*X):=by
 refine In.div hD ?_
 have i1:In (an D) (2*(u*D)-2*N1):=by unfold In; lia
 have i2:In (an D) (2*(v*D)-2*N2):=by unfold In; lia
 have:=((In.ab (x:=a)).mul i1).add ((In.ab (x:=c)).mul i2)
 have e1:(2*W-2000000*X)*D=a*(2*(u*D)-2*N1)+c*(2*(v*D)-2*N2):=by subst hW; grind
 have e2:(an a+an c)*an D=an a*an D+an c*an D:=by grind
 rw [e1,e2]
 exact this
theorem AE.round {k:Nat}{m:Sp}(S:AE k m)(hk:k≤10)(hd:m.eV≠0){x y:Int}(hx:In 20000000 x)(hy:In 20000000 y):
  In 30000000 (m.on (m.aq x y).1 (m.aq x y).2).1∧In 30000000 (m.on (m.aq x y).1 (m.aq x y).2).2:=by
 obtain ⟨⟨g,p,q,r,s,g1,g2,hp,hq,hr,hs,ea,eb,ec,ed⟩,he,hf⟩:=S
 have hk4:(4:Int) ^ k≤1048576:=by
  have:=Nat.pow_le_pow_right (show 0<4 by decide) hk
  have h:(4:Int) ^ k≤4 ^ 10:=by exact_mod_cast this
  have e:(4:Int) ^ 10=1048576:=by decide
  lia
 have z:=sE k
 have gi:In 1000000 g:=⟨by lia,by lia⟩
 have lin:∀{p:Int},In (2*4 ^ k) p→an (g*p)≤2097152000000:=λ{p} hp=>by
  have:=gi.mul hp
  rw [aS]
  unfold In at this
  lia
 have h1:=m6 (1000000*(m.d*(x-m.e)-m.c*(y-m.f))) m.eV hd
 have h2:=m6 (1000000*(m.a*(y-m.f)-m.b*(x-m.e))) m.eV hd
 have dJ:∀{a c X E B:Int},an a≤2097152000000→an c≤2097152000000→In (an a+an c) (2*(a*(m.aq x y).1+c*(m.aq x y).2)-2000000*(X-E))→In 20000000 X→In 30000000 (nr (a*(m.aq x y).1+c*(m.aq x y).2) 1000000+E):=λ{a c X E B} ha hc h hX=>by
  have:=sD (a*(m.aq x y).1+c*(m.aq x y).2)
  unfold In at*
  generalize a*(m.aq x y).1+c*(m.aq x y).2=W at*
  lia
 constructor
 ·show In _ (nr (m.a*(m.aq x y).1+m.c*(m.aq x y).2) 1000000+m.e)
  refine dJ (B:=0) (by rw [ea]; exact lin hp) (by rw [ec]; exact lin hr) (Mine.round hd h1 h2 ?_ rfl) hx
  unfold Sp.eV; grind
 ·show In _ (nr (m.b*(m.aq x y).1+m.d*(m.aq x y).2) 1000000+m.f)
  refine dJ (B:=0) (by rw [eb]; exact lin hq) (by rw [ed]; exact lin hs) (Mine.round hd h1 h2 ?_ rfl) hy
  unfold Sp.eV; grind
structure Br (g:Int)(m:Sp):Prop where
 lin:∃p q r s:Int,In 2 p∧In 2 q∧In 2 r∧In 2 s∧m.a=p*g∧m.b=q*g∧m.c=r*g∧m.d=s*g
 e:In 8000000 m.e
 f:In 8000000 m.f
theorem Br.qo {m:Sp}(h:Br 1000000 m):BG m:=by
 obtain ⟨⟨p,q,r,s,hp,hq,hr,hs,ea,eb,ec,ed⟩,he,hf⟩:=h
 exact ⟨⟨p,q,r,s,hp,hq,hr,hs,by lia,by lia,by lia,by lia⟩,he,hf⟩
theorem Br.spK {g:Int}{m:Sp}(h:Br g m)(g1:250000≤g)(g2:g≤1000000):AE 0 m:=by
 obtain ⟨⟨p,q,r,s,hp,hq,hr,hs,ea,eb,ec,ed⟩,he,hf⟩:=h
 exact ⟨⟨g,p,q,r,s,g1,g2,hp.up (by decide),hq.up (by decide),hr.up (by decide),hs.up (by decide),by rw [ea,Int.mul_comm],by rw [eb,Int.mul_comm],by rw [ec,Int.mul_comm],by rw [ed,Int.mul_comm]⟩,he.up (by decide),hf.up (by decide)⟩
theorem Br.on {g:Int}{m:Sp}(h:Br g m)(g1:250000≤g)(g2:g≤1000000){x y:Int}(hx:In 2000000 x)(hy:In 2000000 y):In 20000000 (m.on x y).1∧In 20000000 (m.on x y).2:=by
 obtain ⟨⟨p,q,r,s,hp,hq,hr,hs,ea,eb,ec,ed⟩,he,hf⟩:=h
 have gi:In 1000000 g:=⟨by lia,by lia⟩
 constructor
 ·show In _ (nr (m.a*x+m.c*y) 1000000+m.e)
  rw [ea,ec]
  exact (In.add (In.ut (A:=8000000) ((((hp.mul gi).mul hx).add ((hr.mul gi).mul hy)).up (by decide))) he).up (by decide)
 ·show In _ (nr (m.b*x+m.d*y) 1000000+m.f)
  rw [eb,ed]
  exact (In.add (In.ut (A:=8000000) ((((hq.mul gi).mul hx).add ((hs.mul gi).mul hy)).up (by decide))) hf).up (by decide)
def Av (x:Int):Prop:=In 1000000000000000000000000000000 x
structure AL (m:Sp):Prop where
 a:Av m.a
 b:Av m.b
 c:Av m.c
 d:Av m.d
 e:Av m.e
 f:Av m.f
theorem AE.b {k:Nat}{m:Sp}(S:AE k m)(hk:k≤10):AL m:=by
 obtain ⟨⟨g,p,q,r,s,g1,g2,hp,hq,hr,hs,ea,eb,ec,ed⟩,he,hf⟩:=S
 have hk4:(4:Int) ^ k≤1048576:=by
  have:=Nat.pow_le_pow_right (show 0<4 by decide) hk
  have h:(4:Int) ^ k≤4 ^ 10:=by exact_mod_cast this
  have e:(4:Int) ^ 10=1048576:=by decide
  lia
 have z:=sE k
 have gi:In 1000000 g:=⟨by lia,by lia⟩
 have l:∀{p},In (2*4 ^ k) p→Av (g*p):=λhp=>(gi.mul hp).up (by lia)
 exact ⟨ea▸l hp,eb▸l hq,ec▸l hr,ed▸l hs,he.up (by lia),hf.up (by lia)⟩
theorem Bg.of {B x:Int}(h:In B x)(hB:B<10 ^ 100):Bg x:=by
 unfold Bg
 unfold In at h
 lia
theorem Av.i6 {a b c d:Int}(ha:Av a)(hb:Av b)(hc:Av c)(hd:Av d):Bg (a*b+c*d):=Bg.of ((In.mul ha hb).add (In.mul hc hd)) (by decide)
theorem Av.aqr {a b c d:Int}(ha:Av a)(hb:Av b)(hc:Av c)(hd:Av d):Bg (a*b-c*d):=Bg.of ((In.mul ha hb).sub (In.mul hc hd)) (by decide)
theorem Av.bg {a:Int}(ha:Av a):Bg a:=Bg.of ha (by decide)
noncomputable def cy (m:Sp):FV:=.fl [.int m.a,.int m.b,.int m.c,.int m.d,.int m.e,.int m.f]
def sF (x:FV)(P:Sp→Prop):Prop:=oZ x λl=>oQ6 l λa b c d e f=>P ⟨a,b,c,d,e,f⟩
@[elab_as_elim] theorem jo {x:FV}{P:Sp→Prop}(t:sF x P){C:FV→Prop}(k:∀m,P m→C (cy m)):C x:=
 iW t λ_ t=>zc t λa b c d e f t=>k ⟨a,b,c,d,e,f⟩ t
def zk:CT:=λargs S K _=>oC args λa l=>oJ l λg l=>oE l (wk a S λxs c _ up=>0≤g∧g≤1000000∧As 900000000 7 xs c λeU c'=>∀a1 a2 a3 a4 a5 a6 ay,Br g ⟨a1,a2,a3,a4,a5,a6⟩→K (.fr (.fl [.int a1,.int a2,.int a3,.int a4,.int a5,.int a6])) (up eU c' ay))
def lT (args:List AV)(P:Sp→Int→Int→Prop):Prop:=oX args λs l=>oJ l λx l=>oJ l λy l=>oE l (sF s λm=>P m x y)
@[elab_as_elim] theorem fA {args:List AV}{P:Sp→Int→Int→Prop}(t:lT args P){C:List AV→Prop}(f:∀m x y,P m x y→C [.fr (cy m),.fr (.int x),.fr (.int y)]):C args:=
 de t λ_ _ t=>bZ t λx _ t=>bZ t λy _ t=>a0 t λt=>jo t λm t=>f m x y t
def tOn:CT:=λargs S K _=>lT args λm x y=>AL m∧Av x∧Av y∧K (.fr (.az [.int (m.on x y).1,.int (m.on x y).2])) S
def agL:CT:=λargs S K _=>lT args λm x y=>AL m∧Av (x-m.e)∧Av (y-m.f)∧iB (decide (m.eV=0)) (K (.fr .none) S) (K (.fr (.az [.int (m.aq x y).1,.int (m.aq x y).2])) S)
def j8:CT:=λargs S K _=>oX args λs l=>oX l λs' l=>oE l (sF s λh=>sF s' λm=>AL h∧AL m∧K (.fr (.fl [.int (h.bf m).a,.int (h.bf m).b,.int (h.bf m).c,.int (h.bf m).d,.int (h.bf m).e,.int (h.bf m).f])) S)
@[elab_as_elim] theorem lU {args:List AV}{S:St}{K:KE}{X:KX}(t:j8 args S K X){C:List AV→Prop}(f:∀h m,AL h→AL m→K (.fr (.fl [.int (h.bf m).a,.int (h.bf m).b,.int (h.bf m).c,.int (h.bf m).d,.int (h.bf m).e,.int (h.bf m).f])) S→C [.fr (cy h),.fr (cy m)]):C args:=
 de t λ_ _ t=>de t λ_ _ t=>a0 t λt=>jo t λh t=>jo t λm t=>f h m t.1 t.2.1 t.2.2
def zm:CT:=λargs S K X=>lT args λm x y=>AL m∧Av (x-m.e)∧Av (y-m.f)∧iB (decide (m.eV=0)) (X (.bytes #[117,110,100,101,102,105,110,101,100,114,101,115,117,108,116]) S) (K (.fr (.az [.int (m.aq x y).1,.int (m.aq x y).2])) S)
def spD (L:List Tv)(k aa:Nat)(xs:List FV)(c:Int)(n:Nat)(F:List FV→Int→Int→Prop):Prop:=Q L (Q [.k aa,.k k,.j 0 (Int.ofNat n),.i (Int.ofNat n) 1000000] (As 1000000000 1 xs c λxs c=>∀(r:Int),0≤r→r<Int.ofNat n→F xs c r))
def spE (k aa:Nat)(xs:List FV)(c:Int)(F:List FV→Int→Int→Int→Prop):Prop:=spD [.bb,.n 1,.l 2 100000,.tt] k aa xs c 17 λxs c r=>Sm r∧spD [.s 500000,.tt] k aa xs c 17 λxs c s=>Sm s∧Q [.s 500000,.tt] (F xs c (r*500000) (s*500000))
def spK (K:KE)(loc:List (Str×AV))(ai:List (Str×Nat×Nat))(am g:OL)(k aa:Nat)(xs:List FV)(c:Int)(m:Sp):Prop:=K (.fr (cy m)) (St.mk loc ai am ((12,k,.list [.fl xs,.int c])::g) (aa+1))
def spP (K:KE)(loc:List (Str×AV))(ai:List (Str×Nat×Nat))(am g:OL)(k aa:Nat)(gr r1 r2 r3 r4:Int)(xs:List FV)(c e f:Int):Prop:=Sm (r1-2)∧Sm gr∧Sm (r2-2)∧Sm gr∧Sm (r3-2)∧Sm gr∧Sm (r4-2)∧Sm gr∧spK K loc ai am g k aa xs c ⟨(r1-2)*gr,(r2-2)*gr,(r3-2)*gr,(r4-2)*gr,e,f⟩
section
variable (w:World) (h:Heap) (n:Nat) (aa:Nat) (loc:List (Str×AV)) (ai:List (Str×Nat×Nat)) (am g:OL) (S:St) (K:KE) (X:KX)
theorem acA (k:Nat)(c gr:Int)(xs:List FV):ao (j7 w h) (n+3) true (.fr (.lit (.ref 1427))) [.own 12 k,.fr (.int gr)] ⟨loc,ai,am,(12,k,.list [.fl xs,.int c])::g,aa⟩ K X=
 spD [.bb,.n 1,.l 4 100000,.tt] k aa xs c 5 λxs c r1=>spD [.tt] k aa xs c 5 λxs c r2=>spD [.tt] k aa xs c 5 λxs c r3=>spD [.tt] k aa xs c 5 λxs c r4=>Q [.tt] (Sm (r1-2)∧Sm (r4-2)∧Sm (r2-2)∧Sm (r3-2)∧iB (decide ((r1-2)*(r4-2)=(r2-2)*(r3-2))) (spD [] k aa xs c 4 λxs c r5=>iB (decide (0<r5)) (spE k aa xs c λxs c e f=>Q [.s 1] (Sm gr∧Sm (r2-2)∧Sm gr∧Q [.s 0] (Sm gr∧Q [.s 1] (Sm gr∧spK K loc ai am g k aa xs c ⟨1*gr,(r2-2)*gr,0*gr,1*gr,e,f⟩)))) (spE k aa xs c (spP K loc ai am g k aa gr r1 r2 r3 r4))) (spE k aa xs c (spP K loc ai am g k aa gr r1 r2 r3 r4))):=by kernel_rfl
theorem av6 (x y:Int):ao (j7 w h) (n+4) true (.fr (.lit (.ref 845))) [.fr (.int x),.fr (.int y)] S K X=
 (iB (decide (y<0)) (Bg (-x)∧Bg (-y) ∧ -y≠0∧K (.fr (.int (nr (-x) (-y)))) S) (Bg x∧Bg y∧y≠0∧K (.fr (.int (nr x y))) S)):=by kernel_rfl
theorem av7 (a1 a2 a3 a4 a5 a6 x y:Int):ao (j7 w h) (n+4) true (.fr (.lit (.ref 1448))) [.fr (.fl [.int a1,.int a2,.int a3,.int a4,.int a5,.int a6]),.fr (.int x),.fr (.int y)] S K X=
 (Sm a1∧Sm x∧Sm a3∧Sm y∧Bg (a1*x+a3*y)∧Bg 1000000∧Q [.n 1000000] (Sm a2∧Sm x∧Sm a4∧Sm y∧Bg (a2*x+a4*y)∧Bg 1000000∧Q [.n 1000000] (K (.fr (.az [.int (nr (a1*x+a3*y) 1000000+a5),.int (nr (a2*x+a4*y) 1000000+a6)])) S))):=by kernel_rfl
theorem av8 (a1 a2 a3 a4 a5 a6 x y:Int):ao (j7 w h) (n+4) true (.fr (.lit (.ref 873))) [.fr (.fl [.int a1,.int a2,.int a3,.int a4,.int a5,.int a6]),.fr (.int x),.fr (.int y)] S K X=
 (Sm a1∧Sm x∧Sm a3∧Sm y∧Bg (a1*x+a3*y)∧Bg 1000000∧Q [.n 1000000] (Sm a2∧Sm x∧Sm a4∧Sm y∧Bg (a2*x+a4*y)∧Bg 1000000∧Q [.n 1000000] (K (.fr (.az [.int (nr (a1*x+a3*y) 1000000+a5),.int (nr (a2*x+a4*y) 1000000+a6)])) S))):=by kernel_rfl
theorem akg (a1 a2 a3 a4 a5 a6 x y:Int):ao (j7 w h) (n+4) true (.fr (.lit (.ref 1455))) [.fr (.fl [.int a1,.int a2,.int a3,.int a4,.int a5,.int a6]),.fr (.int x),.fr (.int y)] S K X=
 (Sm a1∧Sm a4∧Sm a2∧Sm a3∧iB (decide (a1*a4-a2*a3=0)) (K (.fr .none) S) (Sm a4∧Sm (x-a5)∧Sm a3∧Sm (y-a6)∧Q [.s 1000000] (Sm (a4*(x-a5)-a3*(y-a6))∧Bg (1000000*(a4*(x-a5)-a3*(y-a6)))∧Bg (a1*a4-a2*a3)∧a1*a4-a2*a3≠0∧Sm a1∧Sm (y-a6)∧Sm a2∧Sm (x-a5)∧Q [.s 1000000] (Sm (a1*(y-a6)-a2*(x-a5))∧Bg (1000000*(a1*(y-a6)-a2*(x-a5)))∧Bg (a1*a4-a2*a3)∧a1*a4-a2*a3≠0∧K (.fr (.az [.int (nr (1000000*(a4*(x-a5)-a3*(y-a6))) (a1*a4-a2*a3)),.int (nr (1000000*(a1*(y-a6)-a2*(x-a5))) (a1*a4-a2*a3))])) S)))):=by kernel_rfl
theorem acB (a1 a2 a3 a4 a5 a6 b1 b2 b3 b4 b5 b6:Int):ao (j7 w h) (n+4) true (.fr (.lit (.ref 1462))) [.fr (.fl [.int a1,.int a2,.int a3,.int a4,.int a5,.int a6]),.fr (.fl [.int b1,.int b2,.int b3,.int b4,.int b5,.int b6])] S K X=
 (Sm b1∧Sm a1∧Sm b3∧Sm a2∧Bg (b1*a1+b3*a2)∧Bg 1000000∧Q [.n 1000000] (Sm b2∧Sm a1∧Sm b4∧Sm a2∧Bg (b2*a1+b4*a2)∧Bg 1000000∧Q [.n 1000000] (Sm b1∧Sm a3∧Sm b3∧Sm a4∧Bg (b1*a3+b3*a4)∧Bg 1000000∧Q [.n 1000000] (Sm b2∧Sm a3∧Sm b4∧Sm a4∧Bg (b2*a3+b4*a4)∧Bg 1000000∧Q [.n 1000000,.l 4 1000000] (Sm b1∧Sm a5∧Sm b3∧Sm a6∧Bg (b1*a5+b3*a6)∧Bg 1000000∧Q [.n 1000000] (Sm b2∧Sm a5∧Sm b4∧Sm a6∧Bg (b2*a5+b4*a6)∧Bg 1000000∧Q [.n 1000000,.l 6 1000000,.l 6 1000000] (K (.fr (.fl [.int (nr (b1*a1+b3*a2) 1000000),.int (nr (b2*a1+b4*a2) 1000000),.int (nr (b1*a3+b3*a4) 1000000),.int (nr (b2*a3+b4*a4) 1000000),.int (nr (b1*a5+b3*a6) 1000000+b5),.int (nr (b2*a5+b4*a6) 1000000+b6)])) S))))))):=by kernel_rfl
theorem akh (a1 a2 a3 a4 a5 a6 b1 b2 b3 b4 b5 b6:Int):ao (j7 w h) (n+4) true (.fr (.lit (.ref 852))) [.fr (.fl [.int a1,.int a2,.int a3,.int a4,.int a5,.int a6]),.fr (.fl [.int b1,.int b2,.int b3,.int b4,.int b5,.int b6])] S K X=
 (Sm a1∧Sm b1∧Sm a2∧Sm b3∧Bg (a1*b1+a2*b3)∧Bg 1000000∧Q [.n 1000000] (Sm a1∧Sm b2∧Sm a2∧Sm b4∧Bg (a1*b2+a2*b4)∧Bg 1000000∧Q [.n 1000000] (Sm a3∧Sm b1∧Sm a4∧Sm b3∧Bg (a3*b1+a4*b3)∧Bg 1000000∧Q [.n 1000000] (Sm a3∧Sm b2∧Sm a4∧Sm b4∧Bg (a3*b2+a4*b4)∧Bg 1000000∧Q [.n 1000000] (Sm a5∧Sm b1∧Sm a6∧Sm b3∧Bg (a5*b1+a6*b3)∧Bg 1000000∧Q [.n 1000000] (Sm a5∧Sm b2∧Sm a6∧Sm b4∧Bg (a5*b2+a6*b4)∧Bg 1000000∧Q [.n 1000000] (K (.fr (.fl [.int (nr (a1*b1+a2*b3) 1000000),.int (nr (a1*b2+a2*b4) 1000000),.int (nr (a3*b1+a4*b3) 1000000),.int (nr (a3*b2+a4*b4) 1000000),.int (nr (a5*b1+a6*b3) 1000000+b5),.int (nr (a5*b2+a6*b4) 1000000+b6)])) S))))))):=by kernel_rfl
end
theorem Av.sm {x:Int}(h:Av x):Sm x:=h.bg.sm
theorem cv:Bg 1000000:=by unfold Bg; decide
section
variable (w:World) (h:Heap) (n:Nat) {args:List AV} {S:St} {K:KE} {X:KX}
theorem av9 (t:j5 args S K X):ao (j7 w h) (n+4) true (.fr (.lit (.ref 845))) args S K X:=by
 refine j6 t λx y hx hy h0 t=>?_
 rw [av6]
 refine fw ⟨?_,?_,by lia,?_⟩ ⟨hx,hy,h0,t⟩
 ·unfold Bg at hx ⊢; lia
 ·unfold Bg at hy ⊢; lia
 ·rw [akf x y h0]; exact t
theorem zo {a:Addr}(e:∀a1 a2 a3 a4 a5 a6 x y,ao (j7 w h) (n+4) true (.fr (.lit (.ref a))) [.fr (.fl [.int a1,.int a2,.int a3,.int a4,.int a5,.int a6]),.fr (.int x),.fr (.int y)] S K X=
 (Sm a1∧Sm x∧Sm a3∧Sm y∧Bg (a1*x+a3*y)∧Bg 1000000∧Q [.n 1000000] (Sm a2∧Sm x∧Sm a4∧Sm y∧Bg (a2*x+a4*y)∧Bg 1000000∧Q [.n 1000000] (K (.fr (.az [.int (nr (a1*x+a3*y) 1000000+a5),.int (nr (a2*x+a4*y) 1000000+a6)])) S)))) (t:tOn args S K X):
  ao (j7 w h) (n+4) true (.fr (.lit (.ref a))) args S K X:=by
 refine fA t λm x y ⟨hm,hx,hy,t⟩=>?_
 unfold cy
 rw [e]
 exact ⟨hm.a.sm,hx.sm,hm.c.sm,hy.sm,hm.a.i6 hx hm.c hy,cv,Aa rfl ⟨hm.b.sm,hx.sm,hm.d.sm,hy.sm,hm.b.i6 hx hm.d hy,cv,Aa rfl t⟩⟩
theorem ava (t:tOn args S K X):ao (j7 w h) (n+4) true (.fr (.lit (.ref 1448))) args S K X:=zo w h n (λ_ _ _ _ _ _ _ _=>av7 ..) t
theorem avb (t:tOn args S K X):ao (j7 w h) (n+4) true (.fr (.lit (.ref 873))) args S K X:=zo w h n (λ_ _ _ _ _ _ _ _=>av8 ..) t
theorem aki (t:agL args S K X):ao (j7 w h) (n+4) true (.fr (.lit (.ref 1455))) args S K X:=by
 refine fA t λm x y ⟨hm,hx,hy,t⟩=>?_
 unfold cy
 rw [akg]
 refine ⟨hm.a.sm,hm.d.sm,hm.b.sm,hm.c.sm,?_⟩
 unfold iB at t ⊢
 have ed:m.eV=m.a*m.d-m.b*m.c:=rfl
 rw [←ed]
 split at t
 ·exact t
 ·rename_i hd
  have hd:m.eV≠0:=by simpa using hd
  have bd:Bg m.eV:=hm.a.aqr hm.d hm.b hm.c
  have ut:In 1000000 1000000:=by unfold In; lia
  have b1:In (1000000000000000000000000000000*1000000000000000000000000000000+1000000000000000000000000000000*1000000000000000000000000000000) (m.d*(x-m.e)-m.c*(y-m.f)):=(In.mul hm.d hx).sub (In.mul hm.c hy)
  have b2:In (1000000000000000000000000000000*1000000000000000000000000000000+1000000000000000000000000000000*1000000000000000000000000000000) (m.a*(y-m.f)-m.b*(x-m.e)):=(In.mul hm.a hy).sub (In.mul hm.b hx)
  exact ⟨hm.d.sm,hx.sm,hm.c.sm,hy.sm,Aa rfl ⟨(Bg.of b1 (by decide)).sm,Bg.of (ut.mul b1) (by decide),bd,hd,hm.a.sm,hy.sm,hm.b.sm,hx.sm,Aa rfl ⟨(Bg.of b2 (by decide)).sm,Bg.of (ut.mul b2) (by decide),bd,hd,t⟩⟩⟩
theorem acC (t:j8 args S K X):ao (j7 w h) (n+4) true (.fr (.lit (.ref 1462))) args S K X:=by
 refine lU t λa m ha hm t=>?_
 unfold cy
 rw [acB]
 exact ⟨hm.a.sm,ha.a.sm,hm.c.sm,ha.b.sm,hm.a.i6 ha.a hm.c ha.b,cv,Aa rfl ⟨hm.b.sm,ha.a.sm,hm.d.sm,ha.b.sm,hm.b.i6 ha.a hm.d ha.b,cv,Aa rfl ⟨hm.a.sm,ha.c.sm,hm.c.sm,ha.d.sm,hm.a.i6 ha.c hm.c ha.d,cv,Aa rfl ⟨hm.b.sm,ha.c.sm,hm.d.sm,ha.d.sm,hm.b.i6 ha.c hm.d ha.d,cv,
  Aa rfl ⟨hm.a.sm,ha.e.sm,hm.c.sm,ha.f.sm,hm.a.i6 ha.e hm.c ha.f,cv,Aa rfl ⟨hm.b.sm,ha.e.sm,hm.d.sm,ha.f.sm,hm.b.i6 ha.e hm.d ha.f,cv,Aa rfl t⟩⟩⟩⟩⟩⟩
theorem akj (t:j8 args S K X):ao (j7 w h) (n+4) true (.fr (.lit (.ref 852))) args S K X:=by
 refine lU t λa m ha hm t=>?_
 unfold cy
 rw [akh]
 unfold Sp.bf at t
 dsimp only at t
 simp only [Int.mul_comm m.a,Int.mul_comm m.b,Int.mul_comm m.c,Int.mul_comm m.d] at t
 exact ⟨ha.a.sm,hm.a.sm,ha.b.sm,hm.c.sm,ha.a.i6 hm.a ha.b hm.c,cv,Aa rfl ⟨ha.a.sm,hm.b.sm,ha.b.sm,hm.d.sm,ha.a.i6 hm.b ha.b hm.d,cv,Aa rfl ⟨ha.c.sm,hm.a.sm,ha.d.sm,hm.c.sm,ha.c.i6 hm.a ha.d hm.c,cv,Aa rfl ⟨ha.c.sm,hm.b.sm,ha.d.sm,hm.d.sm,ha.c.i6 hm.b ha.d hm.d,cv,
  Aa rfl ⟨ha.e.sm,hm.a.sm,ha.f.sm,hm.c.sm,ha.e.i6 hm.a ha.f hm.c,cv,Aa rfl ⟨ha.e.sm,hm.b.sm,ha.f.sm,hm.d.sm,ha.e.i6 hm.b ha.f hm.d,cv,Aa rfl t⟩⟩⟩⟩⟩⟩
theorem gv {L:List Tv}{k aa b m n':Nat}{xs:List FV}{c:Int}{F:List FV→Int→Int→Prop}(hL:L.all Tv.aV=true)(hn:([.j 0 (Int.ofNat n'),.i (Int.ofNat n') 1000000]:List Tv).all Tv.aV=true)(t:Af b xs c)(hb:b+(m+1)<1000000000)(h:∀xs c r,Af (b+1) xs c→(b+1)+m<1000000000→0≤r→r<Int.ofNat n'→F xs c r):spD L k aa xs c n' F:=
 Aa hL (Aa hn (.mk t (by lia) λ_ _ t _ h0 h1=>h _ _ _ t (by lia) h0 h1))
theorem sG {k aa b:Nat}{xs:List FV}{c:Int}{F:List FV→Int→Int→Int→Prop}(t:Af b xs c)(hb:b+(1+1)<1000000000)(h:∀xs c e f,Af (b+1+1) xs c→In 8000000 e→In 8000000 f→F xs c e f):spE k aa xs c F:=
 have e17:Int.ofNat 17=(17:Int):=rfl
 gv rfl rfl t hb λ_ _ r t hb r0 r1=>⟨hZ (by lia),gv rfl rfl t hb λ_ _ s t _ s0 s1=>⟨hZ (by lia),Aa rfl (h _ _ _ _ t ⟨by lia,by lia⟩ ⟨by lia,by lia⟩)⟩⟩
theorem acD (t:zk args S K X):ao (j7 w h) (n+3) true (.fr (.lit (.ref 1427))) args S K X:=by
 refine bz t λa _ q=>bZ q λg _ q=>a0 q λq=>jn q λloc ai am aa k xs c r q=>?_
 obtain ⟨g0,g1,hb,hv,t⟩:=q
 generalize c.toNat=b at hb hv t
 rw [acA]
 have sg:Sm g:=hZ (by lia)
 have i2:∀{r:Int},0≤r→r<Int.ofNat 5→In 2 (r-2):=λ{r} _ h=>have h:r<5:=h; ⟨by lia,by lia⟩
 have sd:∀{r:Int},In 2 r→Sm r:=λh=>hZ (by have:=h.1; have:=h.2; lia)
 refine gv (m:=6) rfl rfl hv (by lia) λ_ _ r1 t1 b1 l1 h1=>gv rfl rfl t1 b1 λ_ _ r2 t2 b2 l2 h2=>gv rfl rfl t2 b2 λ_ _ r3 t3 b3 l3 h3=>gv rfl rfl t3 b3 λ_ _ r4 t4 b4 l4 h4=>?_
 have q1:=i2 l1 h1
 have q2:=i2 l2 h2
 have q3:=i2 l3 h3
 have q4:=i2 l4 h4
 have pl:∀{b' xs c e f},b'≤b+7→Af b' xs c→In 8000000 e→In 8000000 f→spP K loc ai am r k aa g r1 r2 r3 r4 xs c e f:=λhb' t' he hf=>
  ⟨sd q1,sg,sd q2,sg,sd q3,sg,sd q4,sg,t _ _ (t'.up hb') _ _ _ _ _ _ _ ⟨⟨_,_,_,_,q1,q2,q3,q4,rfl,rfl,rfl,rfl⟩,he,hf⟩⟩
 exact Aa rfl ⟨sd q1,sd q4,sd q2,sd q3,fw (gv rfl rfl t4 b4 λ_ _ _ t5 b5 _ _=>fw (sG t5 (by lia) λ_ _ _ _ t6 he hf=>Aa rfl ⟨sg,sd q2,sg,Aa rfl ⟨sg,Aa rfl ⟨sg,t _ _ (t6.up (Nat.le_refl _)) _ _ _ _ _ _ _ ⟨⟨1,_,0,1,⟨by decide,by decide⟩,q2,⟨by decide,by decide⟩,⟨by decide,by decide⟩,rfl,rfl,rfl,rfl⟩,he,hf⟩⟩⟩⟩) (sG t5 (by lia) λ_ _ _ _ t6 he hf=>pl (Nat.le_refl _) t6 he hf)) (sG t4 (by lia) λ_ _ _ _ t6 he hf=>pl (Nat.le_succ _) t6 he hf)⟩
end
inductive Ab where
 |m (x y:Int)|l (x y:Int)|c (x1 y1 x2 y2 x3 y3:Int)|z
def Ab.fv:Ab→FV
 |.m x y=>.az [.str aW,.int x,.int y]
 |.l x y=>.az [.str bM,.int x,.int y]
 |.c x1 y1 x2 y2 x3 y3=>.az [.str bN,.int x1,.int y1,.int x2,.int y2,.int x3,.int y3]
 |.z=>.az [.str bk]
noncomputable def Ab.il:Ab→Bool
 |.m _ _=>true
 |_=>false
noncomputable def Ab.lV:Ab→Bool
 |.z=>true
 |_=>false
def bq (ae:List Ab):Bool:=match ae.getLast? with
 |some r=>r.lV
 |none=>false
def aO (ae:List Ab):Ab:=((ae.filter Ab.il).getLast?).getD .z
def aX (ae:List Ab)(r:Ab):List Ab:=match r with
 |.m x y=>(match ae.getLast? with|some (.m _ _)=>ae.dropLast|_=>ae)++[.m x y]
 |.z=>match ae.getLast? with
  |none=>ae
  |some .z=>ae
  |_=>ae++[.z]
 |r=>match bq ae with
  |true=>ae++[aO ae]++[r]
  |false=>ae++[r]
def wOk (u:Str):Bool:=u==aW||u==bM||u==bN||u==bk
def zp (u:Str)(ns:List FV)(P:Ab→Prop):Prop:=match u==aW with
 |true=>oQ2 ns λx y=>P (.m x y)
 |false=>match u==bM with
  |true=>oQ2 ns λx y=>P (.l x y)
  |false=>match u==bN with
   |true=>oQ6 ns λa b c d e f=>P (.c a b c d e f)
   |false=>oB (u==bk) (oE ns (P .z))
def Ab.w:Ab→Str
 |.m _ _=>aW
 |.l _ _=>bM
 |.c _ _ _ _ _ _=>bN
 |.z=>bk
noncomputable def Ab.ns:Ab→List FV
 |.m x y=>[.int x,.int y]
 |.l x y=>[.int x,.int y]
 |.c x1 y1 x2 y2 x3 y3=>[.int x1,.int y1,.int x2,.int y2,.int x3,.int y3]
 |.z=>[]
@[elab_as_elim] theorem acE {u:Str}{ns:List FV}{P:Ab→Prop}(t:zp u ns P){C:Str→List FV→Prop}(f:∀r:Ab,P r→C r.w r.ns):C u ns:=by
 unfold zp at t
 cases h1:u==aW <;> rw [h1] at t
 ·cases h2:u==bM <;> rw [h2] at t
  ·cases h3:u==bN <;> rw [h3] at t
   ·exact cA t λh4 t=>(eq_of_beq h4:u=bk)▸a0 t λt=>f .z t
   ·exact (eq_of_beq h3:u=bN)▸zc t λa b c d e g t=>f (.c a b c d e g) t
  ·exact (eq_of_beq h2:u=bM)▸sy t λx y t=>f (.l x y) t
 ·exact (eq_of_beq h1:u=aW)▸sy t λx y t=>f (.m x y) t
def AG (ks:List FV):Prop:=ks=[]∨∃w r,ks.getLast?=some (.az (.str w::r))
def agM:CT:=λargs S K _=>oC args λa l=>oX l λx l=>oE l (oZ x λl=>oC l λx l=>oE l (oT x λl=>oC l λx _=>oS x λu=>oB (wOk u) (m5 a S λbg pt ks up=>AG ks∧ks.length+2≤1500∧K (.fr .none) (up bg pt ks))))
def agN:CT:=λargs S K _=>oC args λa l=>oJ l λx l=>oJ l λy l=>oE l (m5 a S λ_ _ ks up=>∃ae:List Ab,ks=ae.map Ab.fv∧ae.length≤1000∧∀p0 p1,K (.fr .none) (up (.az [.int x,.int y]) (.az [.int p0,.int p1]) ((aX ae (.m x y)).map Ab.fv)))
def Cj (bg pt:FV)(ks:List FV)(P:Int→Int→List Ab→Prop):Prop:=∃b0 b1 p0 p1 ae,bg=.az [.int b0,.int b1]∧pt=.az [.int p0,.int p1]∧ks=ae.map Ab.fv∧ae.length≤1000∧ae≠[]∧aO ae=.m b0 b1∧P b0 b1 ae
def acF (a:AV)(S:St)(K:KE)(r:Ab):Prop:=m5 a S λbg pt ks up=>Cj bg pt ks λb0 b1 ae=>∀p0 p1,K (.fr .none) (up (.az [.int b0,.int b1]) (.az [.int p0,.int p1]) ((aX ae r).map Ab.fv))
def agO:CT:=λargs S K _=>oC args λa l=>oJ l λx l=>oJ l λy l=>oE l (acF a S K (.l x y))
def zq:CT:=λargs S K _=>oC args λa l=>oJ l λx1 l=>oJ l λy1 l=>oJ l λx2 l=>oJ l λy2 l=>oJ l λx3 l=>oJ l λy3 l=>oE l (acF a S K (.c x1 y1 x2 y2 x3 y3))
def zr:CT:=λargs S K _=>oC args λa l=>oE l (acF a S K .z)
def aqs (f:Nat→Nat)(o:Nat→AO)(r:OL):OL:=acz f o ((13,f 9,o 9)::(9,f 10,o 10)::(10,f 11,o 11)::r)
def uu (a:AV)(S:St)(P:List FV→(List FV→St)→Prop):Prop:=oO 14 a λk=>oV S λup g=>oW g λp9 g=>oH 13 g λka oa g=>oH 9 g λkb ob g=>oH 10 g λkc oc g=>oH 14 g λaM o g=>oL o λxs=>
 k=aM∧P xs λys=>up (p9 ((13,ka,oa)::(9,kb,ob)::(10,kc,oc)::(14,aM,.list ys)::g))
def fV (f:Nat→Nat)(o:Nat→AO)(k:Nat)(xs:List FV)(g:OL):OL:=aqs f o ((14,k,.list xs)::g)
@[elab_as_elim] theorem zt {a:AV}{S:St}{P:List FV→(List FV→St)→Prop}(t:uu a S P){C:AV→St→Prop}(c:∀loc ai am aa f o k xs g,P xs (λys=>⟨loc,ai,am,fV f o k ys g,aa⟩)→C (.own 14 k) ⟨loc,ai,am,fV f o k xs g,aa⟩):C a S:=by
 refine hV t λk t=>uo t λloc ai am aa g t=>agK t λf o g t=>bD t λka oa g t=>bD t λkb ob g t=>bD t λkc oc g t=>bD t λaM o' g t=>pG t λxs t=>?_
 cases t.1
 exact c _ _ _ _ (λi=>[f 0,f 1,f 2,f 3,f 4,f 5,f 6,f 7,f 8,ka,kb,kc].getD i 0) (λi=>[o 0,o 1,o 2,o 3,o 4,o 5,o 6,o 7,o 8,oa,ob,oc].getD i (.list [])) _ _ _ t.2
def zu:CT:=λargs S K _=>oC args λa l=>oX l λu l=>oS u λu=>oX l λn l=>oE l (oZ n λns=>zp u ns λr=>uu a S λxs up=>∃ae b0 b1,xs=ae.map Ab.fv∧ae.length≤1000∧(bq ae=true→aO ae=.m b0 b1)∧K (.fr .none) (up ((aX ae r).map Ab.fv)))
def zv:FV→Bool
 |.az (.str w::_)=>w==aW
 |_=>false
def fB (x:FV):Option FV:=match zv x with
 |true=>some x
 |false=>none
def akk (v:Str):AI:=λaA aV items S K=>match S with
 |⟨[],ai,am,af,aa⟩=>∃xs:List FV,items=xs.map .fr∧(∀x∈xs,∃w r,x=.az (.str w::r))∧(∀loc,aV ⟨loc,ai,am,af,aa⟩)∧
  (∀w r K',K' (fB (.az (.str w::r))) ⟨[(v,.fr (.az (.str w::r)))],ai,am,af,aa⟩→aA (.fr (.az (.str w::r))) ⟨[],ai,am,af,aa⟩ K')∧
  (∀w r b K',K' (fB (.az (.str w::r))) ⟨[(v,.fr (.az (.str w::r)))],ai,am,af,aa⟩→aA (.fr (.az (.str w::r))) ⟨[(v,b)],ai,am,af,aa⟩ K')∧
  ∀loc,K (xs.filterMap fB) ⟨loc,ai,am,af,aa⟩
 |_=>False
theorem acG (v:Str):AA (akk v):=by
 intro aA aV items S K h
 unfold akk at h
 split at h
 ·rename_i ai am af aa
  obtain ⟨xs,rfl,hx,hc,h1,h2,hK⟩:=h
  have key:∀(xs:List FV) (aJ:List FV) (loc:List (Str×AV)),(∀x∈xs,∃w r,x=FV.az (.str w::r))→(loc=[]∨∃b,loc=[(v,b)])→(∀loc,K (aJ++xs.filterMap fB) ⟨loc,ai,am,af,aa⟩)→oU aV aA (xs.map .fr) aJ ⟨loc,ai,am,af,aa⟩ K:=by
   intro xs
   induction xs with
   |nil=>intro aJ loc _ _ k; exact ⟨hc _,by have:=k loc; rw [List.filterMap_nil,List.append_nil] at this; exact this⟩
   |cons x xs ih=>
    intro aJ loc hx hl k
    obtain ⟨w,r,rfl⟩:=hx x (.head _)
    refine ⟨hc _,?_⟩
    have go:∀K',K' (fB (.az (.str w::r))) ⟨[(v,.fr (.az (.str w::r)))],ai,am,af,aa⟩→aA (.fr (.az (.str w::r))) ⟨loc,ai,am,af,aa⟩ K':=λK' k'=>by
     rcases hl with rfl|⟨b,rfl⟩
     ·exact h1 w r K' k'
     ·exact h2 w r b K' k'
    refine go _ ?_
    cases hs:fB (.az (.str w::r)) with
    |some y=>exact ih _ _ (λx h=>hx x (.tail _ h)) (.inr ⟨_,rfl⟩) λloc=>by have:=k loc; rw [List.filterMap_cons,hs] at this; simpa using this
    |none=>exact ih _ _ (λx h=>hx x (.tail _ h)) (.inr ⟨_,rfl⟩) λloc=>by have:=k loc; rw [List.filterMap_cons,hs] at this; exact this
  exact key xs [] [] hx (.inl rfl) λloc=>by simpa using hK loc
 ·exact h.elim
section
variable (w:World) (h:Heap) (n:Nat) (aa:Nat) (loc:List (Str×AV)) (ai:List (Str×Nat×Nat)) (am g:OL) (S:St) (K:KE) (X:KX)
theorem acH (f:Nat→Nat)(o:Nat→AO)(aT k9 a7:Nat)(bg pt:FV)(ks r:List FV):ao (j7 w h) (n+4) true (.fr (.lit (.ref 1207))) [.own 9 k9,.fr (.fl [.az (.str aW::r)])] ⟨loc,ai,am,aQ f o aT k9 a7 bg pt ks g,aa⟩ K X=
 (Q [.k k9,.k aT,.k a7] (ks.length≤1000000∧Q [.k k9,.k aT,.k a7] (iB (!ks.isEmpty) (Q [.k k9,.k aT,.k a7] (∃w r,ks.getLast?=some (.az (FV.str w::r))∧Q [.tt] (iB (decide (w=aW)) (Q [.tt,.k k9,.k aT] (iB (decide (1500<Int.ofNat ks.length+0)) (X (.bytes #[108,105,109,105,116,99,104,101,99,107]) (St.mk loc ai am (aQ f o aT k9 a7 bg pt ks g) aa)) (K (.fr .none) (St.mk loc ai am (aQ f o aT k9 a7 bg pt ks g) aa)))) (Q [.tt,.k k9,.k aT] (iB (decide (1500<Int.ofNat ks.length+1)) (X (.bytes #[108,105,109,105,116,99,104,101,99,107]) (St.mk loc ai am (aQ f o aT k9 a7 bg pt ks g) aa)) (K (.fr .none) (St.mk loc ai am (aQ f o aT k9 a7 bg pt ks g) aa))))))) (Q [.tt,.tt,.k k9,.k aT] (iB (decide (1500<Int.ofNat ks.length+1)) (X (.bytes #[108,105,109,105,116,99,104,101,99,107]) (St.mk loc ai am (aQ f o aT k9 a7 bg pt ks g) aa)) (K (.fr .none) (St.mk loc ai am (aQ f o aT k9 a7 bg pt ks g) aa))))))):=by kernel_rfl
theorem acI (f:Nat→Nat)(o:Nat→AO)(aT k9 a7:Nat)(bg pt:FV)(ks r:List FV):ao (j7 w h) (n+4) true (.fr (.lit (.ref 1207))) [.own 9 k9,.fr (.fl [.az (.str bM::r)])] ⟨loc,ai,am,aQ f o aT k9 a7 bg pt ks g,aa⟩ K X=
 (Q [.k k9,.k aT,.k a7] (ks.length≤1000000∧Q [.k k9,.k aT,.k a7] (iB (!ks.isEmpty) (Q [.k k9,.k aT,.k a7] (∃w r,ks.getLast?=some (.az (FV.str w::r))∧Q [.tt] (iB (decide (w=bk)) (Q [.tt,.k k9,.k aT] (iB (decide (1500<Int.ofNat ks.length+2)) (X (.bytes #[108,105,109,105,116,99,104,101,99,107]) (St.mk loc ai am (aQ f o aT k9 a7 bg pt ks g) aa)) (K (.fr .none) (St.mk loc ai am (aQ f o aT k9 a7 bg pt ks g) aa)))) (Q [.tt,.k k9,.k aT] (iB (decide (1500<Int.ofNat ks.length+1)) (X (.bytes #[108,105,109,105,116,99,104,101,99,107]) (St.mk loc ai am (aQ f o aT k9 a7 bg pt ks g) aa)) (K (.fr .none) (St.mk loc ai am (aQ f o aT k9 a7 bg pt ks g) aa))))))) (Q [.tt,.tt,.k k9,.k aT] (iB (decide (1500<Int.ofNat ks.length+1)) (X (.bytes #[108,105,109,105,116,99,104,101,99,107]) (St.mk loc ai am (aQ f o aT k9 a7 bg pt ks g) aa)) (K (.fr .none) (St.mk loc ai am (aQ f o aT k9 a7 bg pt ks g) aa))))))):=by kernel_rfl
theorem acJ (f:Nat→Nat)(o:Nat→AO)(aT k9 a7:Nat)(bg pt:FV)(ks r:List FV):ao (j7 w h) (n+4) true (.fr (.lit (.ref 1207))) [.own 9 k9,.fr (.fl [.az (.str bN::r)])] ⟨loc,ai,am,aQ f o aT k9 a7 bg pt ks g,aa⟩ K X=
 (Q [.k k9,.k aT,.k a7] (ks.length≤1000000∧Q [.k k9,.k aT,.k a7] (iB (!ks.isEmpty) (Q [.k k9,.k aT,.k a7] (∃w r,ks.getLast?=some (.az (FV.str w::r))∧Q [.tt] (iB (decide (w=bk)) (Q [.tt,.k k9,.k aT] (iB (decide (1500<Int.ofNat ks.length+2)) (X (.bytes #[108,105,109,105,116,99,104,101,99,107]) (St.mk loc ai am (aQ f o aT k9 a7 bg pt ks g) aa)) (K (.fr .none) (St.mk loc ai am (aQ f o aT k9 a7 bg pt ks g) aa)))) (Q [.tt,.k k9,.k aT] (iB (decide (1500<Int.ofNat ks.length+1)) (X (.bytes #[108,105,109,105,116,99,104,101,99,107]) (St.mk loc ai am (aQ f o aT k9 a7 bg pt ks g) aa)) (K (.fr .none) (St.mk loc ai am (aQ f o aT k9 a7 bg pt ks g) aa))))))) (Q [.tt,.tt,.k k9,.k aT] (iB (decide (1500<Int.ofNat ks.length+1)) (X (.bytes #[108,105,109,105,116,99,104,101,99,107]) (St.mk loc ai am (aQ f o aT k9 a7 bg pt ks g) aa)) (K (.fr .none) (St.mk loc ai am (aQ f o aT k9 a7 bg pt ks g) aa))))))):=by kernel_rfl
theorem acK (f:Nat→Nat)(o:Nat→AO)(aT k9 a7:Nat)(bg pt:FV)(ks r:List FV):ao (j7 w h) (n+4) true (.fr (.lit (.ref 1207))) [.own 9 k9,.fr (.fl [.az (.str bk::r)])] ⟨loc,ai,am,aQ f o aT k9 a7 bg pt ks g,aa⟩ K X=
 (Q [.k k9,.k aT,.k a7] (ks.length≤1000000∧Q [.k k9,.k aT,.k a7] (iB (!ks.isEmpty) (Q [.k k9,.k aT,.k a7] (∃w r,ks.getLast?=some (.az (FV.str w::r))∧Q [.tt] (iB (match decide (w=bk) with|true=>true|false=>false) (Q [.tt,.k k9,.k aT] (iB (decide (1500<Int.ofNat ks.length+0)) (X (.bytes #[108,105,109,105,116,99,104,101,99,107]) (St.mk loc ai am (aQ f o aT k9 a7 bg pt ks g) aa)) (K (.fr .none) (St.mk loc ai am (aQ f o aT k9 a7 bg pt ks g) aa)))) (Q [.tt,.k k9,.k aT] (iB (decide (1500<Int.ofNat ks.length+1)) (X (.bytes #[108,105,109,105,116,99,104,101,99,107]) (St.mk loc ai am (aQ f o aT k9 a7 bg pt ks g) aa)) (K (.fr .none) (St.mk loc ai am (aQ f o aT k9 a7 bg pt ks g) aa))))))) (Q [.tt,.tt,.k k9,.k aT] (iB (decide (1500<Int.ofNat ks.length+0)) (X (.bytes #[108,105,109,105,116,99,104,101,99,107]) (St.mk loc ai am (aQ f o aT k9 a7 bg pt ks g) aa)) (K (.fr .none) (St.mk loc ai am (aQ f o aT k9 a7 bg pt ks g) aa))))))):=by kernel_rfl
end
theorem iX:∀{b:Bool} {A B:Prop},(b=true→A)→(b=false→B)→iB b A B
 |true,_,_,h,_=>h rfl
 |false,_,_,_,h=>h rfl
theorem h9 {b:Bool}{A B:Prop}(h:b=false)(hB:B):iB b A B:=by subst h; exact hB
theorem jg {b:Bool}{A B:Prop}(h:b=true)(hA:A):iB b A B:=by subst h; exact hA
section
variable (w:World) (h:Heap) (n:Nat) {args:List AV} {S:St} {K:KE} {X:KX}
theorem akl (t:agM args S K X):ao (j7 w h) (n+4) true (.fr (.lit (.ref 1207))) args S K X:=by
 refine bz t λa _ q=>de q λx _ q=>a0 q λq=>iW q λ_ q=>bz q λx _ q=>a0 q λq=>aqn q λ_ q=>bz q λx r q=>pF q λu q=>cA q λhu q=>iL q λloc ai am aa f o aT k9 a7 bg pt ks g ⟨hl,hn,t⟩=>?_
 have el:∀k:Nat,Int.ofNat k=(k:Int):=λ_=>rfl
 have f0:¬(1500:Int)<Int.ofNat ks.length+0:=by rw [el]; lia
 have f1:¬(1500:Int)<Int.ofNat ks.length+1:=by rw [el]; lia
 have f2:¬(1500:Int)<Int.ofNat ks.length+2:=by rw [el]; lia
 unfold wOk at hu
 simp only [Bool.or_eq_true,beq_iff_eq] at hu
 rcases hu with ((rfl|rfl)|rfl)|rfl
 ·rw [acH]
  refine Aa rfl ⟨by lia,Aa rfl ?_⟩
  rcases hl with rfl|⟨v,q,hl⟩
  ·exact h9 rfl (Aa rfl (cF f1 t))
  ·exact jg (by cases ks; cases hl; rfl) (Aa rfl ⟨v,q,hl,Aa rfl (fw (Aa rfl (cF f0 t)) (Aa rfl (cF f1 t)))⟩)
 ·rw [acI]
  refine Aa rfl ⟨by lia,Aa rfl ?_⟩
  rcases hl with rfl|⟨v,q,hl⟩
  ·exact h9 rfl (Aa rfl (cF f1 t))
  ·exact jg (by cases ks; cases hl; rfl) (Aa rfl ⟨v,q,hl,Aa rfl (fw (Aa rfl (cF f2 t)) (Aa rfl (cF f1 t)))⟩)
 ·rw [acJ]
  refine Aa rfl ⟨by lia,Aa rfl ?_⟩
  rcases hl with rfl|⟨v,q,hl⟩
  ·exact h9 rfl (Aa rfl (cF f1 t))
  ·exact jg (by cases ks; cases hl; rfl) (Aa rfl ⟨v,q,hl,Aa rfl (fw (Aa rfl (cF f2 t)) (Aa rfl (cF f1 t)))⟩)
 ·rw [acK]
  refine Aa rfl ⟨by lia,Aa rfl ?_⟩
  rcases hl with rfl|⟨v,q,hl⟩
  ·exact h9 rfl (Aa rfl (cF f0 t))
  ·exact jg (by cases ks; cases hl; rfl) (Aa rfl ⟨v,q,hl,Aa rfl (fw (Aa rfl (cF f0 t)) (Aa rfl (cF f1 t)))⟩)
end
def E1:List (Addr×CT):=(1427,zk)::(845,j5)::(1448,tOn)::(873,tOn)::(1455,agL)::(1462,j8)::(852,j8)::(1207,agM)::E0
theorem BO {w:World}{h:Heap}(Y:YL w h):AN w h 10 E1:=by
 have z:AB (j7 w h) 2:=akd Y
 exact .cons (λB=>(aC z rfl rfl 3 (λ_ _ _ _ t=>acD w h 0 t) B).up 2) (.cons (aC z rfl rfl 4 λ_ _ _ _ t=>av9 w h 0 t) (.cons (aC z rfl rfl 4 λ_ _ _ _ t=>ava w h 0 t) (.cons (aC z rfl rfl 4 λ_ _ _ _ t=>avb w h 0 t) (.cons (aC z rfl rfl 4 λ_ _ _ _ t=>aki w h 0 t)
  (.cons (aC z rfl rfl 4 λ_ _ _ _ t=>acC w h 0 t) (.cons (aC z rfl rfl 4 λ_ _ _ _ t=>akj w h 0 t) (.cons (aC z rfl rfl 4 λ_ _ _ _ t=>akl w h 0 t) ((Bl Y).up 8))))))))
def fC (p:Pos):AI:=match eQ [(892,19,56)] p with
 |true=>akk dM
 |false=>acs p
theorem cw (p:Pos):AA (fC p):=by
 unfold fC
 split
 ·exact acG _
 ·exact mZ p
abbrev pI (w:World)(h:Heap):Cf:=cf w h (du E1) dr fC j3 iM
theorem akm {w:World}{h:Heap}(Y:YL w h):AB (pI w h) 10:=cq Y cw bo cI cu (BO Y).f6
def akn (k9 aT a7:Nat)(ks:List FV)(m r:FV)(F:List FV→Prop):Prop:=Q [.k k9,.k aT,.k k9,.k aT,.k k9,.k aT,.k k9,.k aT,.k k9,.k aT,.k k9,.k aT,.k a7] (AG ks∧ks.length+2≤1500∧Q [.k k9,.k aT,.k a7] (∃w q,ks.getLast?=some (.az (FV.str w::q))∧iB (decide (w=bk)) (Q [.k k9,.k aT,.k a7,.k k9,.k aT,.k k9,.k aT,.k a7,.k a7] (ks.length≤1000000∧Q [.k k9,.k aT,.k a7,.k a7,.k a7] ((ks++[m]).length≤1000000∧Q [.k k9,.k aT] (F (ks++[m]++[r]))))) (Q [.k k9,.k aT,.k a7,.k a7,.k a7] (ks.length≤1000000∧Q [.k k9,.k aT] (F (ks++[r]))))))
def pJ (k n:Nat)(xs:List FV)(P:Prop):Prop:=Q [.k k] (n≤1000000∧n+1≤1000000∧Q [.k k,.k k] (xs.length≤1000000∧P))
def aqt (s:AV→St)(u:Str)(r:List FV)(K':Option FV→St→Prop):Prop:=K' (fB (.az (FV.str u::r))) (s (.fr (.az (FV.str u::r))))→iB (decide (u=aW)) (K' (some (.az (FV.str u::r))) (s (.fr (.az (FV.str u::r))))) (K' none (s (.fr (.az (FV.str u::r)))))
def ako (k n:Nat)(xs:List FV)(s:AV→St)(r:FV)(F:List FV→Prop):Prop:=Q [.k k] (iB (!xs.isEmpty) (Q [.k k] (∃w q,xs.getLast?=some (.az (FV.str w::q))∧iB (decide (w=bk)) (Q [.k k,.k k] ((List.map AV.fr xs).length≤100000∧∃ys,List.map AV.fr xs=List.map AV.fr ys∧(∀x∈ys,∃w r,x=.az (FV.str w::r))∧(List (Str×AV)→Q [.k k] (xs=xs))∧(∀u r K',aqt s u r K')∧(∀u r,AV→∀K',aqt s u r K')∧(List (Str×AV)→∃y,(List.filterMap fB ys).getLast?=some y∧Q [.k k,.k k] (xs.length≤1000000∧pJ k n (xs++[y]) (F (xs++[y]++[r])))))) (pJ k n xs (F (xs++[r]))))) (pJ k n xs (F (xs++[r]))))
section
variable (w:World) (h:Heap) (n:Nat) (aa:Nat) (loc:List (Str×AV)) (ai:List (Str×Nat×Nat)) (am g:OL) (S:St) (K:KE) (X:KX)
theorem aqu (a1 a2 a3 a4 a5 a6 x y:Int):ao (pI w h) (n+6) true (.fr (.lit (.ref 887))) [.fr (.fl [.int a1,.int a2,.int a3,.int a4,.int a5,.int a6]),.fr (.int x),.fr (.int y)] S K X=
 (Sm a1∧Sm a4∧Sm a2∧Sm a3∧iB (decide (a1*a4-a2*a3=0)) (X (.bytes #[117,110,100,101,102,105,110,101,100,114,101,115,117,108,116]) S) (Sm a4∧Sm (x-a5)∧Sm a3∧Sm (y-a6)∧Sm (a4*(x-a5)-a3*(y-a6))∧Q [.s 1000000] (Bg ((a4*(x-a5)-a3*(y-a6))*1000000)∧Bg (a1*a4-a2*a3)∧a1*a4-a2*a3≠0∧Sm a1∧Sm (y-a6)∧Sm a2∧Sm (x-a5)∧Sm (a1*(y-a6)-a2*(x-a5))∧Q [.s 1000000] (Bg ((a1*(y-a6)-a2*(x-a5))*1000000)∧Bg (a1*a4-a2*a3)∧a1*a4-a2*a3≠0∧K (.fr (.az [.int (nr ((a4*(x-a5)-a3*(y-a6))*1000000) (a1*a4-a2*a3)),.int (nr ((a1*(y-a6)-a2*(x-a5))*1000000) (a1*a4-a2*a3))])) S)))):=by kernel_rfl
theorem akp (f:Nat→Nat)(o:Nat→AO)(aT k9 a7:Nat)(bg pt:FV)(ks:List FV)(x y:Int):ao (pI w h) (n+6) true (.fr (.lit (.ref 1214))) [.own 9 k9,.fr (.int x),.fr (.int y)] ⟨loc,ai,am,aQ f o aT k9 a7 bg pt ks g,aa⟩ K X=
 (Q [.k k9,.k aT,.k k9,.k aT,.k a7] (AG ks∧ks.length+2≤1500∧Q [.k k9,.k aT,.k a7] (iB (!ks.isEmpty) (Q [.k k9,.k aT,.k a7] (∃w r,ks.getLast?=some (.az (FV.str w::r))∧iB (decide (w=aW)) (Q [.k k9,.k aT,.k a7,.k a7] (ks.length≤1000000∧∃ys y_1,ks=ys++[y_1]∧Q [.k k9,.k aT,.k a7,.k a7,.k a7] (ys.length≤1000000∧Q [.k k9,.k aT,.k k9,.k aT] (K (.fr .none) (St.mk loc ai am (aQ f o aT k9 a7 (.az [.int x,.int y]) (.az [.int x,.int y]) (ys++[FV.az [.str aW,.int x,.int y]]) g) aa))))) (Q [.k k9,.k aT,.k a7,.k a7,.k a7] (ks.length≤1000000∧Q [.k k9,.k aT,.k k9,.k aT] (K (.fr .none) (St.mk loc ai am (aQ f o aT k9 a7 (.az [.int x,.int y]) (.az [.int x,.int y]) (ks++[FV.az [.str aW,.int x,.int y]]) g) aa)))))) (Q [.k k9,.k aT,.k a7,.k a7,.k a7] (ks.length≤1000000∧Q [.k k9,.k aT,.k k9,.k aT] (K (.fr .none) (St.mk loc ai am (aQ f o aT k9 a7 (.az [.int x,.int y]) (.az [.int x,.int y]) (ks++[FV.az [.str aW,.int x,.int y]]) g) aa))))))):=by kernel_rfl
theorem akq (f:Nat→Nat)(o:Nat→AO)(aT k9 a7:Nat)(ks:List FV)(b0 b1 p0 p1 x y:Int):ao (pI w h) (n+6) true (.fr (.lit (.ref 1228))) [.own 9 k9,.fr (.int x),.fr (.int y)] ⟨loc,ai,am,aQ f o aT k9 a7 (.az [.int b0,.int b1]) (.az [.int p0,.int p1]) ks g,aa⟩ K X=
 akn k9 aT a7 ks (Ab.m b0 b1).fv (Ab.l x y).fv λks=>K (.fr .none) ⟨loc,ai,am,aQ f o aT k9 a7 (.az [.int b0,.int b1]) (.az [.int x,.int y]) ks g,aa⟩:=by kernel_rfl
theorem acL (f:Nat→Nat)(o:Nat→AO)(aT k9 a7:Nat)(ks:List FV)(b0 b1 p0 p1 x1 y1 x2 y2 x3 y3:Int):ao (pI w h) (n+6) true (.fr (.lit (.ref 1235))) [.own 9 k9,.fr (.int x1),.fr (.int y1),.fr (.int x2),.fr (.int y2),.fr (.int x3),.fr (.int y3)] ⟨loc,ai,am,aQ f o aT k9 a7 (.az [.int b0,.int b1]) (.az [.int p0,.int p1]) ks g,aa⟩ K X=
 akn k9 aT a7 ks (Ab.m b0 b1).fv (Ab.c x1 y1 x2 y2 x3 y3).fv λks=>K (.fr .none) ⟨loc,ai,am,aQ f o aT k9 a7 (.az [.int b0,.int b1]) (.az [.int x3,.int y3]) ks g,aa⟩:=by kernel_rfl
theorem acM (f:Nat→Nat)(o:Nat→AO)(aT k9 a7:Nat)(ks:List FV)(b0 b1 p0 p1:Int):ao (pI w h) (n+6) true (.fr (.lit (.ref 1242))) [.own 9 k9] ⟨loc,ai,am,aQ f o aT k9 a7 (.az [.int b0,.int b1]) (.az [.int p0,.int p1]) ks g,aa⟩ K X=
 (Q [.k k9,.k aT,.k k9,.k aT,.k a7] (∃w r,ks.getLast?=some (.az (FV.str w::r))∧iB (decide (w=bk)) (K (.fr .none) (St.mk loc ai am (aQ f o aT k9 a7 (.az [.int b0,.int b1]) (.az [.int p0,.int p1]) ks g) aa)) (Q [.k k9,.k aT,.k k9,.k aT,.k a7] (AG ks∧ks.length+2≤1500∧Q [.k k9,.k aT,.k a7,.k a7,.k a7] (ks.length≤1000000∧Q [.k k9,.k aT,.k k9,.k aT] (K (.fr .none) (St.mk loc ai am (aQ f o aT k9 a7 (.az [.int b0,.int b1]) (.az [.int b0,.int b1]) (ks++[FV.az [.str bk]]) g) aa))))))):=by kernel_rfl
theorem akr (f:Nat→Nat)(o:Nat→AO)(k:Nat)(xs:List FV)(x y:Int):ao (pI w h) (n+6) true (.fr (.lit (.ref 1474))) [.own 14 k,.fr (.str aW),.fr (.fl [.int x,.int y])] ⟨loc,ai,am,fV f o k xs g,aa⟩ K X=
 (Q [.k k] (iB (!xs.isEmpty) (Q [.k k] (∃w r,xs.getLast?=some (.az (FV.str w::r))∧iB (decide (w=aW)) (Q [.k k,.k k] (xs.length≤1000000∧∃ys z,xs=ys++[z]∧pJ k 2 ys (K (.fr .none) ⟨loc,ai,am,fV f o k (ys++[(Ab.m x y).fv]) g,aa⟩))) (pJ k 2 xs (K (.fr .none) ⟨loc,ai,am,fV f o k (xs++[(Ab.m x y).fv]) g,aa⟩)))) (pJ k 2 xs (K (.fr .none) ⟨loc,ai,am,fV f o k (xs++[(Ab.m x y).fv]) g,aa⟩)))):=by kernel_rfl
theorem aks (f:Nat→Nat)(o:Nat→AO)(k:Nat)(xs:List FV)(x y:Int):ao (pI w h) (n+6) true (.fr (.lit (.ref 1474))) [.own 14 k,.fr (.str bM),.fr (.fl [.int x,.int y])] ⟨loc,ai,am,fV f o k xs g,aa⟩ K X=
 ako k 2 xs (λv=>⟨[(dM,v)],[],[],fV f o k xs g,aa⟩) (Ab.l x y).fv λks=>K (.fr .none) ⟨loc,ai,am,fV f o k ks g,aa⟩:=by kernel_rfl
theorem akt (f:Nat→Nat)(o:Nat→AO)(k:Nat)(xs:List FV)(x1 y1 x2 y2 x3 y3:Int):ao (pI w h) (n+6) true (.fr (.lit (.ref 1474))) [.own 14 k,.fr (.str bN),.fr (.fl [.int x1,.int y1,.int x2,.int y2,.int x3,.int y3])] ⟨loc,ai,am,fV f o k xs g,aa⟩ K X=
 ako k 6 xs (λv=>⟨[(dM,v)],[],[],fV f o k xs g,aa⟩) (Ab.c x1 y1 x2 y2 x3 y3).fv λks=>K (.fr .none) ⟨loc,ai,am,fV f o k ks g,aa⟩:=by kernel_rfl
theorem aku (f:Nat→Nat)(o:Nat→AO)(k:Nat)(xs:List FV):ao (pI w h) (n+6) true (.fr (.lit (.ref 1474))) [.own 14 k,.fr (.str bk),.fr (.fl [])] ⟨loc,ai,am,fV f o k xs g,aa⟩ K X=
 (Q [.k k] (iB (!xs.isEmpty) (Q [.k k] (∃w r,xs.getLast?=some (.az (FV.str w::r))∧iB (match decide (w=Str.mk (Array.mk [])) with|true=>true|false=>match decide (w=bk) with|true=>true|false=>false) (K (.fr .none) (St.mk loc ai am (fV f o k xs g) aa)) (Q [.k k,.l 0 1000000,.l 1 1000000,.k k,.k k] (xs.length≤1000000∧K (.fr .none) (St.mk loc ai am (fV f o k (xs++[FV.az [.str bk]]) g) aa))))) (K (.fr .none) (St.mk loc ai am (fV f o k xs g) aa)))):=by kernel_rfl
end
theorem Ab.pK (r:Ab):r.fv=.az (.str r.w::r.ns):=by cases r <;> rfl
theorem zw (r:Ab):decide (r.w=aW)=r.il:=by
 cases r
 ·show decide (aW=aW)=true; simp
 ·show decide (bM=aW)=false; kernel_rfl
 ·show decide (bN=aW)=false; kernel_rfl
 ·show decide (bk=aW)=false; kernel_rfl
theorem uv (r:Ab):decide (r.w=bk)=r.lV:=by
 cases r
 ·show decide (aW=bk)=false; kernel_rfl
 ·show decide (bM=bk)=false; kernel_rfl
 ·show decide (bN=bk)=false; kernel_rfl
 ·show decide (bk=bk)=true; simp
theorem akv (r:Ab):decide (r.w=Str.mk (Array.mk []))=false:=by
 cases r
 ·show decide (aW=Str.mk (Array.mk []))=false; kernel_rfl
 ·show decide (bM=Str.mk (Array.mk []))=false; kernel_rfl
 ·show decide (bN=Str.mk (Array.mk []))=false; kernel_rfl
 ·show decide (bk=Str.mk (Array.mk []))=false; kernel_rfl
theorem iN (ae:List Ab):ae=[]∨∃ys y,ae=ys++[y]:=by
 rcases List.eq_nil_or_concat ae with h|⟨ys,y,h⟩
 ·exact .inl h
 ·exact .inr ⟨ys,y,by simpa using h⟩
theorem fM (ys:List Ab)(y:Ab):((ys++[y]).map Ab.fv).getLast?=some (.az (.str y.w::y.ns)):=by rw [List.map_append,List.map_cons,List.map_nil,List.getLast?_concat,Ab.pK]
theorem AG.ae (ae:List Ab):AG (ae.map Ab.fv):=by
 rcases iN ae with rfl|⟨ys,y,rfl⟩
 ·exact .inl rfl
 ·exact .inr ⟨_,_,fM ys y⟩
theorem zz (ys:List Ab)(y:Ab)(a b:Int):aX (ys++[y]) (.m a b)=match y.il with|true=>ys++[.m a b]|false=>ys++[y]++[.m a b]:=by
 unfold aX
 simp only [List.getLast?_concat]
 cases y <;> simp [Ab.il]
theorem zA (ys:List Ab)(y:Ab):aX (ys++[y]) .z=match y.lV with|true=>ys++[y]|false=>ys++[y]++[.z]:=by
 unfold aX
 simp only [List.getLast?_concat]
 cases y <;> simp [Ab.lV]
theorem acN (ys:List Ab)(y:Ab):bq (ys++[y])=y.lV:=by
 unfold bq
 simp only [List.getLast?_concat]
theorem wm (ae:List Ab):List.filterMap fB (ae.map Ab.fv)=(ae.filter Ab.il).map Ab.fv:=by
 induction ae with
 |nil=>rfl
 |cons r ae ih=>
  have:fB r.fv=match r.il with|true=>some r.fv|false=>none:=by
   have e:zv r.fv=r.il:=by
    rw [←zw,Ab.pK]
    unfold zv
    dsimp only
    rw [Bool.eq_iff_iff]
    simp
   unfold fB
   rw [e]
   all_goals cases r.il <;> rfl
  rw [List.map_cons,List.filterMap_cons,List.filter_cons,this,ih]
  cases r.il <;> rfl
theorem sH {ae:List Ab}{b0 b1:Int}(h:aO ae=.m b0 b1):(List.filterMap fB (ae.map Ab.fv)).getLast?=some (.az [.str aW,.int b0,.int b1]):=by
 rw [wm,List.getLast?_map]
 unfold aO at h
 cases hl:(ae.filter Ab.il).getLast? with
 |none=>rw [hl] at h; cases h
 |some r=>
  rw [hl] at h
  have h:r=.m b0 b1:=h
  subst h
  rfl
theorem zB {ae:List Ab}{r:Ab}(h1:r.il=false)(h2:r.lV=false)(h:bq ae=true):(aX ae r).map Ab.fv=ae.map Ab.fv++[(aO ae).fv]++[r.fv]:=by
 have e:aX ae r=ae++[aO ae]++[r]:=by
  cases r with
  |m _ _=>exact nomatch h1
  |z=>exact nomatch h2
  |_=>unfold aX; dsimp only; rw [h]
 rw [e,List.map_append,List.map_append]
 rfl
theorem zC {ae:List Ab}{r:Ab}(h1:r.il=false)(h2:r.lV=false)(h:bq ae=false):(aX ae r).map Ab.fv=ae.map Ab.fv++[r.fv]:=by
 have e:aX ae r=ae++[r]:=by
  cases r with
  |m _ _=>exact nomatch h1
  |z=>exact nomatch h2
  |_=>unfold aX; dsimp only; rw [h]
 rw [e,List.map_append]
 rfl
theorem pN {ae:List Ab}(lB:ae≠[]){A:Str→Prop}(a:∀u,decide (u=bk)=bq ae→A u):∃w q,(ae.map Ab.fv).getLast?=some (.az (FV.str w::q))∧A w:=by
 rcases iN ae with rfl|⟨ys,y,rfl⟩
 ·exact absurd rfl lB
 ·exact ⟨_,_,fM ys y,a _ ((uv y).trans (acN ys y).symm)⟩
theorem uw {k9 aT a7:Nat}{ae:List Ab}{b0 b1:Int}{r:Ab}{F:List FV→Prop}(hl:ae.length≤1000)(lB:ae≠[])(hM:aO ae=.m b0 b1)(h1:r.il=false)(h2:r.lV=false)(t:F ((aX ae r).map Ab.fv)):akn k9 aT a7 (ae.map Ab.fv) (Ab.m b0 b1).fv r.fv F:=by
 have l:(ae.map Ab.fv).length≤1000:=by rw [List.length_map]; exact hl
 refine Aa rfl ⟨AG.ae _,Nat.le_trans (Nat.add_le_add_right l 2) (by decide),Aa rfl (pN lB λu e=>e▸iX (λh=>?_) λh=>?_)⟩
 ·rw [zB h1 h2 h,hM] at t
  exact Aa rfl ⟨Nat.le_trans l (by decide),Aa rfl ⟨by rw [List.length_append]; exact Nat.le_trans (Nat.add_le_add_right l 1) (by decide),Aa rfl t⟩⟩
 ·rw [zC h1 h2 h] at t
  exact Aa rfl ⟨Nat.le_trans l (by decide),Aa rfl t⟩
@[elab_as_elim] theorem m7 {a:AV}{S:St}{K:KE}{r:Ab}(t:acF a S K r){C:AV→St→Prop}(c:∀loc ai am aa f o aT k9 a7 b0 b1 p0 p1 (ae:List Ab) g,ae.length≤1000→ae≠[]→aO ae=.m b0 b1→(∀p0 p1,K (.fr .none) ⟨loc,ai,am,aQ f o aT k9 a7 (.az [.int b0,.int b1]) (.az [.int p0,.int p1]) ((aX ae r).map Ab.fv) g,aa⟩)→C (.own 9 k9) ⟨loc,ai,am,aQ f o aT k9 a7 (.az [.int b0,.int b1]) (.az [.int p0,.int p1]) (ae.map Ab.fv) g,aa⟩):C a S:=by
 refine iL t λloc ai am aa f o aT k9 a7 bg pt ks g t=>?_
 obtain ⟨b0,b1,p0,p1,ae,rfl,rfl,rfl,hl,lB,hM,u⟩:=t
 exact c _ _ _ _ _ _ _ _ _ _ _ _ _ _ _ hl lB hM u
section
variable (w:World) (h:Heap) (n:Nat) {args:List AV} {S:St} {K:KE} {X:KX}
theorem aqv (t:zm args S K X):ao (pI w h) (n+6) true (.fr (.lit (.ref 887))) args S K X:=by
 refine fA t λm x y ⟨hm,hx,hy,t⟩=>?_
 unfold cy
 rw [aqu]
 refine ⟨hm.a.sm,hm.d.sm,hm.b.sm,hm.c.sm,?_⟩
 unfold iB at t ⊢
 have ed:m.eV=m.a*m.d-m.b*m.c:=rfl
 rw [←ed]
 split at t
 ·exact t
 ·rename_i hd
  have hd:m.eV≠0:=by simpa using hd
  have bd:Bg m.eV:=hm.a.aqr hm.d hm.b hm.c
  have ut:In 1000000 1000000:=by unfold In; lia
  have b1:In (1000000000000000000000000000000*1000000000000000000000000000000+1000000000000000000000000000000*1000000000000000000000000000000) (m.d*(x-m.e)-m.c*(y-m.f)):=(In.mul hm.d hx).sub (In.mul hm.c hy)
  have b2:In (1000000000000000000000000000000*1000000000000000000000000000000+1000000000000000000000000000000*1000000000000000000000000000000) (m.a*(y-m.f)-m.b*(x-m.e)):=(In.mul hm.a hy).sub (In.mul hm.b hx)
  unfold Sp.aq at t
  dsimp only at t
  rw [Int.mul_comm 1000000,Int.mul_comm 1000000] at t
  exact ⟨hm.d.sm,hx.sm,hm.c.sm,hy.sm,(Bg.of b1 (by decide)).sm,Aa rfl ⟨Bg.of (b1.mul ut) (by decide),bd,hd,hm.a.sm,hy.sm,hm.b.sm,hx.sm,(Bg.of b2 (by decide)).sm,Aa rfl ⟨Bg.of (b2.mul ut) (by decide),bd,hd,t⟩⟩⟩
theorem akw (t:agN args S K X):ao (pI w h) (n+6) true (.fr (.lit (.ref 1214))) args S K X:=by
 refine bz t λa _ q=>bZ q λx _ q=>bZ q λy _ q=>a0 q λq=>iL q λloc ai am aa f o aT k9 a7 bg pt ks g ⟨ae,hk,hl,t⟩=>?_
 subst hk
 rw [akp]
 refine Aa rfl ⟨AG.ae ae,by rw [List.length_map]; lia,Aa rfl ?_⟩
 have t:=t x y
 rcases iN ae with rfl|⟨ys,r,rfl⟩
 ·exact h9 rfl (Aa rfl ⟨by simp,Aa rfl t⟩)
 ·rw [List.length_append] at hl
  have l1:((ys++[r]).map Ab.fv).length≤1000000:=by rw [List.length_map,List.length_append]; lia
  refine jg (by simp) (Aa rfl ⟨_,_,fM ys r,?_⟩)
  rw [zw]
  rw [zz] at t
  cases hr:r.il with
  |true=>
   rw [hr] at t
   refine jg rfl (Aa rfl ⟨l1,ys.map Ab.fv,r.fv,by simp,Aa rfl ⟨by rw [List.length_map]; lia,Aa rfl ?_⟩⟩)
   rw [List.map_append] at t
   exact t
  |false=>
   rw [hr] at t
   refine h9 rfl (Aa rfl ⟨l1,Aa rfl ?_⟩)
   rw [List.map_append] at t
   exact t
theorem akx (t:agO args S K X):ao (pI w h) (n+6) true (.fr (.lit (.ref 1228))) args S K X:=
 bz t λ_ _ q=>bZ q λx _ q=>bZ q λy _ q=>a0 q λq=>m7 q λ_ _ _ _ _ _ _ _ _ _ _ _ _ _ _ hl lB hM t=>(akq ..).mpr (uw hl lB hM rfl rfl (t x y))
theorem acO (t:zq args S K X):ao (pI w h) (n+6) true (.fr (.lit (.ref 1235))) args S K X:=
 bz t λ_ _ q=>bZ q λ_ _ q=>bZ q λ_ _ q=>bZ q λ_ _ q=>bZ q λ_ _ q=>bZ q λx _ q=>bZ q λy _ q=>a0 q λq=>m7 q λ_ _ _ _ _ _ _ _ _ _ _ _ _ _ _ hl lB hM t=>(acL ..).mpr (uw hl lB hM rfl rfl (t x y))
theorem acP (t:zr args S K X):ao (pI w h) (n+6) true (.fr (.lit (.ref 1242))) args S K X:=by
 refine bz t λa _ q=>a0 q λq=>m7 q λloc ai am aa f o aT k9 a7 b0 b1 p0 p1 ae g hl lB hM t=>?_
 rw [acM]
 rcases iN ae with rfl|⟨ys,r,rfl⟩
 ·exact absurd rfl lB
 ·rw [List.length_append] at hl
  have l1:((ys++[r]).map Ab.fv).length≤1100:=by rw [List.length_map,List.length_append]; simp at hl ⊢; lia
  refine Aa rfl ⟨_,_,fM ys r,?_⟩
  rw [uv]
  rw [zA] at t
  cases hr:r.lV with
  |true=>
   rw [hr] at t
   exact jg rfl (t p0 p1)
  |false=>
   rw [hr] at t
   refine h9 rfl (Aa rfl ⟨AG.ae _,by lia,Aa rfl ⟨by lia,Aa rfl ?_⟩⟩)
   have t:=t b0 b1
   rw [List.map_append] at t
   exact t
end
theorem zD (u:Str)(r:List FV)(K':Option FV→St→Prop)(S:St)(k:K' (fB (.az (.str u::r))) S):iB (decide (u=aW)) (K' (some (.az (.str u::r))) S) (K' none S):=by
 refine fu (λq=>?_) (λq=>?_)
 ·rw [show fB (.az (.str u::r))=some (.az (.str u::r)) by unfold fB zv; simp [q]] at k
  exact k
 ·rw [show fB (.az (.str u::r))=none by unfold fB zv; dsimp only; rw [show (u==aW)=false by simpa using q]] at k
  exact k
theorem zE (ae:List Ab):∀x∈ae.map Ab.fv,∃u q,x=FV.az (.str u::q):=λx hx=>by
 obtain ⟨r,_,rfl⟩:=List.mem_map.mp hx
 exact ⟨_,_,r.pK⟩
theorem ia {k n:Nat}{xs:List FV}{P:Prop}(hn:n≤6)(hl:xs.length≤1001)(p:P):pJ k n xs P:=
 Aa rfl ⟨Nat.le_trans hn (by decide),Nat.le_trans (Nat.succ_le_succ hn) (by decide),Aa rfl ⟨Nat.le_trans hl (by decide),p⟩⟩
theorem ux {k n:Nat}{ae:List Ab}{b0 b1:Int}{r:Ab}{s:AV→St}{F:List FV→Prop}(hn:n≤6)(hl:ae.length≤1000)(hM:bq ae=true→aO ae=.m b0 b1)(h1:r.il=false)(h2:r.lV=false)(t:F ((aX ae r).map Ab.fv)):ako k n (ae.map Ab.fv) s r.fv F:=by
 have l:(ae.map Ab.fv).length≤1000:=by rw [List.length_map]; exact hl
 have l':=Nat.le_succ_of_le l
 have z:bq ae=false→pJ k n (ae.map Ab.fv) (F (ae.map Ab.fv++[r.fv])):=λh=>ia hn l' (by rw [zC h1 h2 h] at t; exact t)
 refine Aa rfl (iX (λlB=>Aa rfl (pN (λe=>by rw [e] at lB; exact nomatch lB) λu e=>e▸iX (λh=>?_) z)) λhe=>z ?_)
 ·rw [zB h1 h2 h,hM h] at t
  exact Aa rfl ⟨by rw [List.length_map]; exact Nat.le_trans l (by decide),_,rfl,zE _,λ_=>Aa rfl rfl,λu r K' k'=>zD u r K' _ k',λu r _ K' k'=>zD u r K' _ k',λ_=>⟨_,sH (hM h),Aa rfl ⟨Nat.le_trans l (by decide),ia hn (by rw [List.length_append]; exact Nat.succ_le_succ l) t⟩⟩⟩
 ·cases ae with
  |nil=>rfl
  |cons _ _=>exact nomatch he
section
variable (w:World) (h:Heap) (n:Nat) {args:List AV} {S:St} {K:KE} {X:KX}
theorem aqw (t:zu args S K X):ao (pI w h) (n+6) true (.fr (.lit (.ref 1474))) args S K X:=by
 refine bz t λa _ q=>de q λu _ q=>pF q λu q=>de q λu _ q=>a0 q λq=>iW q λns q=>acE q λr0 q=>zt q λloc ai am aa f o k xs g q=>q.elim λae q=>q.elim λb0 q=>q.elim λb1 q=>?_
 obtain ⟨rfl,hl,hM,t⟩:=q
 have l1:(ae.map Ab.fv).length≤1001:=by rw [List.length_map]; exact Nat.le_succ_of_le hl
 cases r0 with
 |l x y=>exact (aks ..).mpr (ux (by decide) hl hM rfl rfl t)
 |c x1 y1 x2 y2 x3 y3=>exact (akt ..).mpr (ux (by decide) hl hM rfl rfl t)
 |m x y=>
  refine (akr ..).mpr ?_
  rcases iN ae with rfl|⟨ys,r,rfl⟩
  ·exact Aa rfl (h9 rfl (ia (by decide) l1 t))
  ·refine Aa rfl (jg (by simp) (Aa rfl ⟨_,_,fM ys r,?_⟩))
   rw [zw]
   rw [zz] at t
   refine iX (λhr=>?_) λhr=>?_
   ·rw [hr,List.map_append] at t
    rw [List.map_append,List.length_append] at l1
    exact Aa rfl ⟨by rw [List.map_append,List.length_append]; exact Nat.le_trans l1 (by decide),ys.map Ab.fv,r.fv,by rw [List.map_append]; rfl,ia (by decide) (Nat.le_of_add_right_le l1) t⟩
   ·rw [hr,List.map_append] at t
    exact ia (by decide) l1 t
 |z=>
  refine (aku ..).mpr ?_
  rcases iN ae with rfl|⟨ys,r,rfl⟩
  ·exact Aa rfl (h9 rfl t)
  ·refine Aa rfl (jg (by simp) (Aa rfl ⟨_,_,fM ys r,?_⟩))
   rw [zA] at t
   rw [akv]
   cases hr:r.lV with
   |true=>
    rw [hr] at t
    refine jg ?_ t
    dsimp only
    rw [uv,hr]
   |false=>
    rw [hr,List.map_append] at t
    refine h9 ?_ (Aa rfl ⟨Nat.le_trans l1 (by decide),t⟩)
    dsimp only
    rw [uv,hr]
end
def E2:List (Addr×CT):=(887,zm)::(1214,agN)::(1228,agO)::(1235,zq)::(1242,zr)::(1474,zu)::E1
theorem Bs {w:World}{h:Heap}(Y:YL w h):AN w h 22 E2:=by
 have z:AB (pI w h) 10:=akm Y
 exact .cons (aC z rfl rfl 6 λ_ _ _ _ t=>aqv w h 0 t) (.cons (aC z rfl rfl 6 λ_ _ _ _ t=>akw w h 0 t) (.cons (aC z rfl rfl 6 λ_ _ _ _ t=>akx w h 0 t) (.cons (aC z rfl rfl 6 λ_ _ _ _ t=>acO w h 0 t) (.cons (aC z rfl rfl 6 λ_ _ _ _ t=>acP w h 0 t) (.cons (aC z rfl rfl 6 λ_ _ _ _ t=>aqw w h 0 t) ((BO Y).up 12))))))
def j9 (k:Nat)(kind:Str)(v:FV)(e:Bool)(a:Int):FV:=.rc k 101 [(rX,.str kind),(ph,v),(kT,.bool e),(mN,.int a)]
def oM (i:Int)(P:Nat→Prop):Prop:=match i with
 |.ofNat n=>P n
 |.negSucc _=>False
@[elab_as_elim] theorem zF {i:Int}{P:Nat→Prop}(t:oM i P){C:Int→Prop}(f:∀n,P n→C (.ofNat n)):C i:=by
 cases i with
 |ofNat n=>exact f n t
 |negSucc n=>exact t.elim
noncomputable def few (m:Nat):Bool:=Nat.beq m 3||(Nat.beq m 4||Nat.beq m 5)
def drawn (m:Nat)(P:Int→Prop):Prop:=match Nat.beq m 3 with
 |true=>P 0∧P 1∧P 2
 |false=>match Nat.beq m 4 with
  |true=>P 0∧P 1∧P 2∧P 3
  |false=>P 0∧P 1∧P 2∧P 3∧P 4
theorem zG {m:Nat}{P:Int→Prop}(h:few m=true)(t:drawn m P)(r:Int)(h0:0≤r)(h1:r<Int.ofNat m):P r:=by
 have:m=3∨m=4∨m=5:=by
  unfold few at h
  simp only [Bool.or_eq_true,Nat.beq_eq] at h
  exact h
 have e:Int.ofNat m=(m:Int):=rfl
 rw [e] at h1
 have z:r.toNat<m:=by lia
 have q:r=(r.toNat:Int):=by lia
 rw [q]
 generalize r.toNat=k at z ⊢
 rcases this with rfl|rfl|rfl
 ·exact match k,z with
  |0,_=>t.1
  |1,_=>t.2.1
  |2,_=>t.2.2
 ·exact match k,z with
  |0,_=>t.1
  |1,_=>t.2.1
  |2,_=>t.2.2.1
  |3,_=>t.2.2.2
 ·exact match k,z with
  |0,_=>t.1
  |1,_=>t.2.1
  |2,_=>t.2.2.1
  |3,_=>t.2.2.2.1
  |4,_=>t.2.2.2.2
def sI:CT:=λargs S K _=>oC args λa l=>oJ l λbO l=>oE l (oM bO λbO=>wk a S λxs c n up=>match few bO with
 |true=>As 1000000000 1 xs c λeU c'=>drawn bO λr=>K (.fr (.int r)) (up eU c' n)
 |false=>0<Int.ofNat bO∧Int.ofNat bO≤1000000∧As 1000000000 1 xs c λeU c'=>∀r,0≤r→r<Int.ofNat bO→K (.fr (.int r)) (up eU c' n))
theorem agP {m:Nat}(h:few m=true):0<Int.ofNat m∧Int.ofNat m≤1000000:=by
 unfold few at h
 simp only [Bool.or_eq_true,Nat.beq_eq] at h
 rcases h with rfl|rfl|rfl <;> decide
theorem pP {args:List AV}{S:St}{K:KE}{X:KX}(t:sI args S K X):eP args S K X:=by
 refine bz t λa _ t=>bZ t λbO _ t=>a0 t λt=>zF t λbO t=>jn t λloc ai am aa k xs c g t=>?_
 cases hf:few bO <;> rw [hf] at t
 ·exact ⟨rfl,t⟩
 ·exact ⟨rfl,(agP hf).1,(agP hf).2,t.1,t.2.1,λeU c' tv r h0 h1=>zG hf (t.2.2 eU c' tv) r h0 h1⟩
def E3:List (Addr×CT):=(1422,sI)::E2
theorem AU {w:World}{h:Heap}(Y:YL w h):AN w h 22 E3:=
 .cons (λB=>m4 (PE:=(52,B)) (vc:=only 1422 eP) (Bl Y |>.up 20 |> λe=>e (1422,eP) (by unfold E0; exact .head _) B) λ_ _ _ _ t=>⟨rfl,pP t⟩) (Bs Y)
abbrev wF (w:World)(h:Heap):Cf:=cf w h (du E3) dr fC j3 iM
theorem zH {w:World}{h:Heap}(Y:YL w h):AB (wF w h) 22:=cq Y cw bo cI cu (AU Y).f6
section
structure Pv where
 (k ks kr:Nat) (items:List FV) (n aJ:Int)
def ib (ks kr:Nat)(items:List FV)(n:Int):FV:=.rc ks 164 [(mP,.rc kr 143 [(cQ,.int 1),(bK,.fl items),(fU,.bool false),(jZ,.int 0)]),(j1,.int 0),(cR,.int n)]
def bC (p:Pv):FV:=j9 p.k gW (ib p.ks p.kr p.items p.n) true p.aJ
def sJ (p1 p2 p3 p4:Pv):FV:=.ds [(aW,bC p1),(bM,bC p2),(bN,bC p3),(bk,bC p4)]
noncomputable def aqx:Str:=Str.mk (Array.mk [108,111,111,112])
def aqy:Str:=kU
def paO (pr ae zI:FV)(i:Int):AO:=.be [(eg,.fr (.str aqx)),(kU,.fr pr),(jc,.fr ae),(px,.fr zI),(eG,.fr (.int i))]
def ppO (q:FV)(j:Int):AO:=.be [(eg,.fr (.str aqy)),(kU,.fr q),(eG,.fr (.int j))]
def cS (κ:Ky)(tx:List FV)(tc:Int)(k5:Nat)(xs:List FV)(sn:Int)(sb:Bool)(aH:FV)(m:Sp)(bg pt:FV)(ks:List FV)(aM:Nat)(own:List FV)(t:OL):OL:=gl κ tx tc k5 xs sn sb aH (.list []) (cy m) bg pt ks ((14,aM,.list own)::t)
def kY (κ:Ky)(tx:List FV)(tc:Int)(k5:Nat)(xs:List FV)(sn:Int)(sb:Bool)(aH:FV)(m:Sp)(bg pt:FV)(ks:List FV)(aM:Nat)(own:List FV)(b8 ce:Nat)(pr ae zI:FV)(i:Int)(t:OL):OL:=gl κ tx tc k5 xs sn sb aH (.a9 [(20,ce)]) (cy m) bg pt ks ((14,aM,.list own)::(21,b8,paO pr ae zI i)::(20,ce,.inst 1124 21 b8)::t)
end
def kg (m:Nat)(l:OL):Nat:=match eY m l with
 |some p=>p.1
 |none=>0
def eq (l:OL)(kl:Nat):Ky:=⟨kg 12 l,kg 4 l,kg 3 l,kg 2 l,kg 1 l,kg 11 l,kg 8 l,kg 7 l,kg 13 l,kg 9 l,kg 10 l,kl⟩
def sK:SubL:=λa i S K=>match a with
 |.fr (.fl xs)=>match i with
  |.fr (.int k)=>fits k∧((∃x y,itemAt xs k=some (.az [.str aW,.int x,.int y])∧K (.fr (.az [.str aW,.int x,.int y])) S)∨(∃x y,itemAt xs k=some (.az [.str bM,.int x,.int y])∧K (.fr (.az [.str bM,.int x,.int y])) S)∨
   (∃x1 y1 x2 y2 x3 y3,itemAt xs k=some (.az [.str bN,.int x1,.int y1,.int x2,.int y2,.int x3,.int y3])∧K (.fr (.az [.str bN,.int x1,.int y1,.int x2,.int y2,.int x3,.int y3])) S)∨(itemAt xs k=some (.az [.str bk])∧K (.fr (.az [.str bk])) S))
  |_=>False
 |_=>False
theorem wn:Aw sK:=λa i S K h=>by
 unfold sK at h
 split at h
 ·split at h
  ·obtain ⟨hf,h⟩:=h
   unfold cZ
   refine gH ⟨hf,?_⟩
   dsimp only
   rcases h with ⟨_,_,e,h⟩|⟨_,_,e,h⟩|⟨_,_,_,_,_,_,e,h⟩|⟨e,h⟩ <;> (rw [e]; exact h)
  ·exact h.elim
 ·exact h.elim
def aqz:BK:=λT Bd S K X=>jX T Bd 3 S K X
theorem acQ:Bk aqz:=λ_ _ _ _ _ h=>⟨3,h⟩
def acR (p:Pos):SubL:=match eQ [(643,24,42)] p with
 |true=>sK
 |false=>iM p
theorem uy (p:Pos):Aw (acR p):=by
 unfold acR
 split
 ·exact wn
 ·exact cu p
def fW (p:Pos):BK:=match Nat.beq p.line 277 with
 |true=>aqz
 |false=>j3 p
theorem cJ (p:Pos):Bk (fW p):=by
 unfold fW
 split
 ·exact acQ
 ·exact cI p
def aqA (x:FV)(P:Nat→FV→FV→FV→FV→Prop):Prop:=oK 101 x λk fs=>oP rX fs λa fs=>oP ph fs λb fs=>oP kT fs λc fs=>oP mN fs λd fs=>oE fs (P k a b c d)
@[elab_as_elim] theorem acS {x:FV}{P:Nat→FV→FV→FV→FV→Prop}(t:aqA x P){C:FV→Prop}(f:∀k a b c d,P k a b c d→C (.rc k 101 [(rX,a),(ph,b),(kT,c),(mN,d)])):C x:=
 y9 t λk _ t=>cr t λa _ t=>cr t λb _ t=>cr t λc _ t=>cr t λd _ t=>a0 t (f k a b c d)
def aqB:CT:=λargs S K _=>oX args λx l=>oE l (aqA x λ_ a _ _ d=>oS a λu=>oB (u==gW) (oI d λa=>1≤a∧K (.fr (.bool true)) S))
def agQ:CT:=λargs S K _=>lT args λm x y=>m.eV≠0∧AL m∧Av (x-m.e)∧Av (y-m.f)∧K (.fr (.az [.int (m.aq x y).1,.int (m.aq x y).2])) S
def agR:CT:=λargs S _ X=>lT args λm x y=>m.eV=0∧AL m∧Av (x-m.e)∧Av (y-m.f)∧X (.bytes #[117,110,100,101,102,105,110,101,100,114,101,115,117,108,116]) S
section
variable (w:World) (h:Heap) (n:Nat) (aa:Nat) (loc:List (Str×AV)) (ai:List (Str×Nat×Nat)) (am g:OL) (S:St) (K:KE) (X:KX)
theorem zJ (k:Nat)(v e:FV)(a:Int):ao (wF w h) (n+5) true (.fr (.lit (.ref 268))) [.fr (.rc k 101 [(rX,.str gW),(ph,v),(kT,e),(mN,.int a)])] S K X=
 (K (.fr (.bool (decide (1≤a)))) S):=by kernel_rfl
end
theorem aqC (w:World)(h:Heap)(n:Nat){args:List AV}{S:St}{K:KE}{X:KX}(t:aqB args S K X):ao (wF w h) (n+5) true (.fr (.lit (.ref 268))) args S K X:=by
 refine de t λ_ _ t=>a0 t λt=>acS t λk _ b c _ t=>pF t λu t=>cA t λhu t=>f9 t λa t=>?_
 rw [eq_of_beq hu,zJ,decide_eq_true t.1]
 exact t.2
theorem acT {args:List AV}{S:St}{K:KE}{X:KX}(t:agQ args S K X):zm args S K X:=
 fA t λm x y t=>(⟨t.2.1,t.2.2.1,t.2.2.2.1,cF t.1 t.2.2.2.2⟩:_∧_∧_∧iB _ _ _)
theorem acU {args:List AV}{S:St}{K:KE}{X:KX}(t:agR args S K X):zm args S K X:=
 fA t λm x y t=>(⟨t.2.1,t.2.2.1,t.2.2.2.1,ze t.1 t.2.2.2.2⟩:_∧_∧_∧iB _ _ _)
theorem AN.kh {w:World}{h:Heap}{l:Nat}{E:List (Addr×CT)}(e:AN w h l E){a:Addr}{T T':CT}(hm:(a,T)∈E)(hT:∀args S K X,T' args S K X→T args S K X):∀B,Ag (je w h) (52,B) l true (only a T'):=
 λB=>m4 (vc:=only a T) (e _ hm B) λ_ _ _ _ t=>⟨rfl,hT _ _ _ _ t⟩
def E4:List (Addr×CT):=(268,aqB)::(887,agQ)::E3
theorem zK:(887,zm)∈E3:=by unfold E3 E2; exact .tail _ (.head _)
theorem Ck {w:World}{h:Heap}(Y:YL w h):AN w h 32 E4:=by
 have z:AB (wF w h) 22:=zH Y
 exact .cons (aC z rfl rfl 5 λ_ _ _ _ t=>aqC w h 0 t) (.cons (((AU Y).up 10).kh zK λ_ _ _ _ t=>acT t) ((AU Y).up 10))
noncomputable def lAt:List FV→Nat→Option FV
 | [],_=>none
 |x::_,0=>some x
 |_::r,n+1=>lAt r n
def oY {α:Type}(o:Option α)(P:α→Prop):Prop:=match o with
 |some x=>P x
 |none=>False
def zL:CT:=λargs S K _=>oX args λx l=>oJ l λj l=>oE l (oM j λj=>oK 164 x λk fs=>oP mP fs λr fs=>oP j1 fs λs fs=>oP cR fs λn fs=>oE fs (oK 143 r λkr rs=>oP cQ rs λa rs=>oP bK rs λit rs=>oP fU rs λb rs=>oP jZ rs λc rs=>oE rs (oZ it λitems=>oI s λs=>oB (decide (s=0)) (oI n λn=>oB (Nat.ble j 2) (Int.ofNat j<n∧oY (lAt items j) λx=>K (.fr x) S)))))
@[elab_as_elim] theorem zM {args:List AV}{S:St}{K:KE}{X:KX}(t:zL args S K X){C:List AV→Prop}(f:∀k kr a b c items n j x,j≤2→Int.ofNat j<n→lAt items j=some x→K (.fr x) S→C [.fr (.rc k 164 [(mP,.rc kr 143 [(cQ,a),(bK,.fl items),(fU,b),(jZ,c)]),(j1,.int 0),(cR,.int n)]),.fr (.int (.ofNat j))]):C args:=by
 refine de t λx _ t=>bZ t λj _ t=>a0 t λt=>zF t λj t=>y9 t λk _ t=>cr t λr _ t=>cr t λs _ t=>cr t λn _ t=>a0 t λt=>y9 t λkr _ t=>cr t λa _ t=>cr t λit _ t=>cr t λb _ t=>cr t λc _ t=>a0 t λt=>iW t λitems t=>f9 t λs t=>cA t λhs t=>f9 t λn t=>cA t λhj u=>?_
 cases (of_decide_eq_true hs:s=0)
 cases e:lAt items j with
 |none=>rw [e] at u; exact u.2.elim
 |some x=>rw [e] at u; exact f k kr a b c items n j x (Nat.le_of_ble_eq_true hj) u.1 e u.2
def qp (k0 k1 k2 k3 k4 k5:Nat)(o0:AO)(xs:List FV)(v1:AV)(mr:List (Str×AV))(g:OL):OL:=(12,k0,o0)::(4,k4,.be [(gp,.fr (.int 200)),(bK,.own 5 k5)])::(3,k3,.inst 995 4 k4)::(5,k5,.list xs)::(2,k2,.be ((pn,v1)::(jb,.own 3 k3)::mr))::(1,k1,.inst 766 2 k2)::g
def uz (a:AV)(S:St)(P:List FV→(List FV→St)→Prop):Prop:=oO 1 a λk=>oV S λup g=>ak3 g λk0 k3 k4 sB k5 jf o0 xs g=>oH 2 g λk2 o g=>oD o λl=>oP pn l λv1 l=>oP jb l λv l=>oO 3 v λk3'=>oH 1 g λk1 o g=>oN 766 2 o λk2'=>
 k=k1∧k2'=k2∧k3'=k3∧sB=k4∧k5=jf∧P xs λys=>up (stR k0 k3 k4 sB k5 jf o0 ys ((2,k2,.be ((pn,v1)::(jb,.own 3 k3')::l))::(1,k1,.inst 766 2 k2')::g))
@[elab_as_elim] theorem ki {a:AV}{S:St}{P:List FV→(List FV→St)→Prop}(t:uz a S P){C:AV→St→Prop}(f:∀loc ai am aa k0 k1 k2 k3 k4 k5 o0 xs v1 mr g,P xs (λys=>⟨loc,ai,am,qp k0 k1 k2 k3 k4 k5 o0 ys v1 mr g,aa⟩)→C (.own 1 k1) ⟨loc,ai,am,qp k0 k1 k2 k3 k4 k5 o0 xs v1 mr g,aa⟩):C a S:=by
 refine hV t λk q=>uo q λloc ai am aa g q=>uq q λk0 k3 k4 sB k5 jf o0 xs g q=>bD q λk2 o g q=>y' q λl q=>cr q λv1 l q=>cr q λv l q=>hV q λk3' q=>bD q λk1 o g q=>za q λk2' q=>?_
 obtain ⟨rfl,rfl,rfl,rfl,rfl,u⟩:=q
 exact f _ _ _ _ _ _ _ _ _ _ _ _ _ _ _ u
def agS:CT:=λargs S K _=>oC args λa l=>oJ l λn l=>oE l (uz a S λxs up=>xs.length≤1000000∧n≤Int.ofNat xs.length∧K (.fr .none) (up xs))
def tAt:CT:=λargs S K _=>oC args λa l=>oJ l λi l=>oE l (oB (decide (i=0)) (dR a S λxs up=>xs.length≤1000∧∃ys x,xs=ys++[x]∧K (.fr x) (up xs)))
def sO:CT:=λargs S K _=>oC args λa l=>oE l (dR a S λxs up=>xs.length≤1000∧∃ys x,xs=ys++[x]∧K (.fr x) (up ys))
def zO:SubL:=λa i S K=>match i with
 |.fr (.int k)=>match a with
  |.own m j=>match S.get m with
   |some (j',.list xs)=>j=j'∧fits k∧∃x,itemAt xs k=some x∧K (.fr x) S
   |_=>False
  |_=>False
 |_=>False
theorem zP:Aw zO:=λa i S K h=>by
 unfold zO at h
 split at h
 ·split at h
  ·split at h
   ·rename_i e
    obtain ⟨rfl,hf,x,hx,h⟩:=h
    unfold cZ
    dsimp only
    rw [e]
    refine gH ⟨hf,rfl,?_⟩
    rw [hx]
    exact h
   ·exact h.elim
  ·exact h.elim
 ·exact h.elim
def sQ (p:Pos):SubL:=match eQ [(542,15,56)] p with
 |true=>zO
 |false=>acR p
theorem acV (p:Pos):Aw (sQ p):=by
 unfold sQ
 split
 ·exact zP
 ·exact uy p
abbrev jh (w:World)(h:Heap):Cf:=cf w h (du E3) dr fC fW sQ
theorem acW {w:World}{h:Heap}(Y:YL w h):AB (jh w h) 22:=cq Y cw bo cJ acV (AU Y).f6
section
variable (w:World) (h:Heap) (n:Nat) (aa:Nat) (loc:List (Str×AV)) (ai:List (Str×Nat×Nat)) (am g:OL) (S:St) (K:KE) (X:KX)
theorem acX (k kr:Nat)(a b c q0:FV)(r:List FV)(v:Int):ao (jh w h) (n+6) true (.fr (.lit (.ref 303))) [.fr (.rc k 164 [(mP,.rc kr 143 [(cQ,a),(bK,.fl (q0::r)),(fU,b),(jZ,c)]),(j1,.int 0),(cR,.int v)]),.fr (.int 0)] S K X=
 (iB (decide (v<1)) (X (.bytes #[114,97,110,103,101,99,104,101,99,107]) S) (jH (Cf.mk (je w h) 52 y8 pD [64] (du E3) dr fC fW sQ).G.K 143 122∧K (.fr q0) S)):=by kernel_rfl
theorem acY (k kr:Nat)(a b c q0 q1:FV)(r:List FV)(v:Int):ao (jh w h) (n+6) true (.fr (.lit (.ref 303))) [.fr (.rc k 164 [(mP,.rc kr 143 [(cQ,a),(bK,.fl (q0::q1::r)),(fU,b),(jZ,c)]),(j1,.int 0),(cR,.int v)]),.fr (.int 1)] S K X=
 (iB (decide (v<2)) (X (.bytes #[114,97,110,103,101,99,104,101,99,107]) S) (jH (Cf.mk (je w h) 52 y8 pD [64] (du E3) dr fC fW sQ).G.K 143 122∧K (.fr q1) S)):=by kernel_rfl
theorem acZ (k kr:Nat)(a b c q0 q1 q2:FV)(r:List FV)(v:Int):ao (jh w h) (n+6) true (.fr (.lit (.ref 303))) [.fr (.rc k 164 [(mP,.rc kr 143 [(cQ,a),(bK,.fl (q0::q1::q2::r)),(fU,b),(jZ,c)]),(j1,.int 0),(cR,.int v)]),.fr (.int 2)] S K X=
 (iB (decide (v<3)) (X (.bytes #[114,97,110,103,101,99,104,101,99,107]) S) (jH (Cf.mk (je w h) 52 y8 pD [64] (du E3) dr fC fW sQ).G.K 143 122∧K (.fr q2) S)):=by kernel_rfl
theorem aky (k0 k1 k2 k3 k4 k5:Nat)(o0:AO)(v1:AV)(xs:List FV)(mr:List (Str×AV))(v:Int):ao (jh w h) (n+6) true (.fr (.lit (.ref 1006))) [.own 1 k1,.fr (.int v)] ⟨loc,ai,am,qp k0 k1 k2 k3 k4 k5 o0 xs v1 mr g,aa⟩ K X=
 (Q [.k k1,.k k2,.k k3,.k k4,.k k3,.k k4,.k k5] (xs.length≤1000000∧iB (decide (Int.ofNat xs.length<v)) (X (.bytes #[115,116,97,99,107,117,110,100,101,114,102,108,111,119]) ⟨loc,ai,am,qp k0 k1 k2 k3 k4 k5 o0 xs v1 mr g,aa⟩) (K (.fr .none) ⟨loc,ai,am,qp k0 k1 k2 k3 k4 k5 o0 xs v1 mr g,aa⟩))):=by kernel_rfl
theorem avc (k0 k3 k4 k5:Nat)(o0:AO)(xs:List FV):ao (jh w h) (n+6) true (.fr (.lit (.ref 943))) [.own 3 k3,.fr (.int 0)] ⟨loc,ai,am,qm k0 k3 k4 k5 o0 xs g,aa⟩ K X=
 (Q [.k k3,.k k4,.k k5] (xs.length≤1000000∧iB (decide (Int.ofNat xs.length≤0)) (X (.bytes #[115,116,97,99,107,117,110,100,101,114,102,108,111,119]) (St.mk loc ai am (qm k0 k3 k4 k5 o0 xs g) aa)) (Q [.k k3,.k k4,.k k3,.k k4,.k k5] (xs.length≤1000000∧Q [.k k5] (fits (Int.ofNat xs.length-1-0)∧∃x,itemAt xs (Int.ofNat xs.length-1-0)=some x∧K (.fr x) (St.mk loc ai am (qm k0 k3 k4 k5 o0 xs g) aa)))))):=by kernel_rfl
theorem aqD (k0 k3 k4 k5:Nat)(o0:AO)(xs:List FV):ao (jh w h) (n+6) true (.fr (.lit (.ref 936))) [.own 3 k3] ⟨loc,ai,am,qm k0 k3 k4 k5 o0 xs g,aa⟩ K X=
 (Q [.k k3,.k k4,.k k5] (iB xs.isEmpty (X (.bytes #[115,116,97,99,107,117,110,100,101,114,102,108,111,119]) (St.mk loc ai am (qm k0 k3 k4 k5 o0 xs g) aa)) (Q [.k k3,.k k4,.k k5,.k k5] (xs.length≤1000000∧∃ys y,xs=ys++[y]∧K (.fr y) (St.mk loc ai am (qm k0 k3 k4 k5 o0 ys g) aa))))):=by kernel_rfl
end
theorem zQ (P:Params):jH (kL P) 143 122:=⟨by kernel_rfl,by kernel_rfl,by kernel_rfl,by kernel_rfl,by kernel_rfl,by kernel_rfl,by kernel_rfl⟩
section
variable (w:World) (h:Heap) (n:Nat) {args:List AV} {S:St} {K:KE} {X:KX}
theorem akz (t:zL args S K X):ao (jh w h) (n+6) true (.fr (.lit (.ref 303))) args S K X:=by
 refine zM t λk kr a b c items v j x hj hv hx t=>?_
 have ej:Int.ofNat j=(j:Int):=rfl
 have nt:jH (Cf.mk (je w h) 52 y8 pD [64] (du E3) dr fC fW sQ).G.K 143 122:=zQ w.params
 match j,items,hx with
 |0,_::_,rfl=>exact (acX ..).mpr (cF (by lia) ⟨nt,t⟩)
 |1,_::_::_,rfl=>exact (acY ..).mpr (cF (by lia) ⟨nt,t⟩)
 |2,_::_::_::_,rfl=>exact (acZ ..).mpr (cF (by lia) ⟨nt,t⟩)
 |j+3,_,_=>lia
theorem akA (t:agS args S K X):ao (jh w h) (n+6) true (.fr (.lit (.ref 1006))) args S K X:=
 bz t λ_ _ q=>bZ q λ_ _ q=>a0 q λq=>ki q λ_ _ _ _ _ _ _ _ _ _ _ _ _ _ _ q=>(aky ..).mpr (Aa rfl ⟨q.1,cF (Int.not_lt.mpr q.2.1) q.2.2⟩)
theorem avd (t:tAt args S K X):ao (jh w h) (n+6) true (.fr (.lit (.ref 943))) args S K X:=by
 refine bz t λa _ q=>bZ q λi _ q=>a0 q λq=>cA q λhi q=>fx q λloc ai am aa k0 k3 k4 k5 o0 xs g ⟨hl,ys,x,hx,t⟩=>?_
 cases (of_decide_eq_true hi:i=0)
 subst hx
 rw [avc]
 have el:∀k:Nat,Int.ofNat k=(k:Int):=λ_=>rfl
 have e1:Int.ofNat (ys++[x]).length-1-0=Int.ofNat ys.length:=by rw [el,el,List.length_append,List.length_singleton]; lia
 have l2:(ys++[x]).length=ys.length+1:=by rw [List.length_append,List.length_singleton]
 refine Aa rfl ⟨by lia,cF (by rw [el]; lia) (Aa rfl ⟨by lia,Aa rfl ⟨?_,x,?_,t⟩⟩)⟩
 ·rw [e1]; unfold fits; rw [el]; lia
 ·rw [e1]; show (ys++[x])[ys.length]?=some x; simp
theorem aqE (t:sO args S K X):ao (jh w h) (n+6) true (.fr (.lit (.ref 936))) args S K X:=by
 refine bz t λa _ q=>a0 q λq=>fx q λloc ai am aa k0 k3 k4 k5 o0 xs g ⟨hl,ys,x,hx,t⟩=>?_
 subst hx
 rw [aqD]
 exact Aa rfl (h9 (by simp) (Aa rfl ⟨by lia,ys,x,rfl,t⟩))
end
structure Ar where
 (d d1 d2 r1 r2 r3 r4 r5 r6:Nat) (m:Sp)
def kZ (a:Ar):FV:=j9 a.d gW (ib a.d1 a.d2 [j9 a.r1 dp (.int a.m.a) false 3,j9 a.r2 dp (.int a.m.b) false 3,j9 a.r3 dp (.int a.m.c) false 3,j9 a.r4 dp (.int a.m.d) false 3,j9 a.r5 dp (.int a.m.e) false 3,j9 a.r6 dp (.int a.m.f) false 3] 6) false 3
def zR (xs:List FV)(G:List FV→FV→Prop):Prop:=∃ys a,xs=ys++[kZ a]∧G ys (kZ a)
theorem pQ {xs:List FV}{G:List FV→FV→Prop}(t:zR xs G):∃ys x,xs=ys++[x]∧G ys x:=t.elim λys t=>t.elim λ_ t=>⟨ys,_,t⟩
def aqF:CT:=λargs S K _=>oC args λa l=>oJ l λi l=>oE l (oB (decide (i=0)) (dR a S λxs up=>xs.length≤1000∧zR xs λys x=>K (.fr x) (up xs)))
def agT:CT:=λargs S K _=>oC args λa l=>oE l (dR a S λxs up=>xs.length≤1000∧zR xs λys x=>K (.fr x) (up ys))
theorem zS (loc:List (Str×AV))(ai:List (Str×Nat×Nat))(am g:OL)(aa k0 k3 k4 k5:Nat)(o0:AO)(xs:List FV)(P:List FV→(List FV→St)→Prop):dR (.own 3 k3) ⟨loc,ai,am,qm k0 k3 k4 k5 o0 xs g,aa⟩ P=(k3=k3∧k4=k4∧k5=k5∧P xs λys=>⟨loc,ai,am,qm k0 k3 k4 k5 o0 ys g,aa⟩):=by kernel_rfl
theorem eH {a:AV}{S:St}{P P':List FV→(List FV→St)→Prop}(h:∀xs up,P xs up→P' xs up)(t:dR a S P):dR a S P':=
 fx t λloc ai am aa k0 k3 k4 k5 o0 xs g p=>(zS ..).mpr ⟨rfl,rfl,rfl,h _ _ p⟩
theorem zT (a:AV)(S:St)(K:KE)(X:KX):tAt [a,.fr (.int 0)] S K X=dR a S λxs up=>xs.length≤1000∧∃ys x,xs=ys++[x]∧K (.fr x) (up xs):=by kernel_rfl
theorem uA (a:AV)(S:St)(K:KE)(X:KX):sO [a] S K X=dR a S λxs up=>xs.length≤1000∧∃ys x,xs=ys++[x]∧K (.fr x) (up ys):=by kernel_rfl
theorem akB {args:List AV}{S:St}{K:KE}{X:KX}(t:aqF args S K X):tAt args S K X:=
 bz t λa _ q=>bZ q λi _ q=>a0 q λq=>cA q λhi q=>(of_decide_eq_true hi:i=0)▸(zT ..).mpr (eH (λxs up q=>⟨q.1,pQ q.2⟩) q)
theorem ad0 {args:List AV}{S:St}{K:KE}{X:KX}(t:agT args S K X):sO args S K X:=
 bz t λa _ t=>a0 t λt=>by
  rw [uA]
  exact eH (λxs up q=>⟨q.1,pQ q.2⟩) t
def B8:List (Addr×CT):=(303,zL)::(1006,agS)::(943,tAt)::(936,sO)::E4
theorem A5 {w:World}{h:Heap}(Y:YL w h):AN w h 34 B8:=by
 have z:AB (jh w h) 22:=acW Y
 exact .cons (aC z rfl rfl 6 λ_ _ _ _ t=>akz w h 0 t) (.cons (aC z rfl rfl 6 λ_ _ _ _ t=>akA w h 0 t) (.cons (aC z rfl rfl 6 λ_ _ _ _ t=>avd w h 0 t) (.cons (aC z rfl rfl 6 λ_ _ _ _ t=>aqE w h 0 t) ((Ck Y).up 2))))
def E5:List (Addr×CT):=(943,aqF)::(936,agT)::B8
theorem BC {w:World}{h:Heap}(Y:YL w h):AN w h 34 E5:=
 .cons ((A5 Y).kh (T:=tAt) (by unfold B8; exact .tail _ (.tail _ (.head _))) λ_ _ _ _ t=>akB t) (.cons ((A5 Y).kh (T:=sO) (by unfold B8; exact .tail _ (.tail _ (.tail _ (.head _)))) λ_ _ _ _ t=>ad0 t) (A5 Y))
abbrev cf5 (w:World)(h:Heap):Cf:=cf w h (du E5) dr fC fW acR
theorem akC {w:World}{h:Heap}(Y:YL w h):AB (cf5 w h) 34:=cq Y cw bo cJ uy (BC Y).f6
def m8:SubL:=λa i S K=>match a with
 |.fr (.fl xs)=>match i with
  |.fr (.int k)=>fits k∧((∃x y,itemAt xs k=some (.az [.str aW,.int x,.int y])∧K (.fr (.az [.str aW,.int x,.int y])) S)∨(∃x y,itemAt xs k=some (.az [.str bM,.int x,.int y])∧K (.fr (.az [.str bM,.int x,.int y])) S)∨
   (∃x1 y1 x2 y2 x3 y3,itemAt xs k=some (.az [.str bN,.int x1,.int y1,.int x2,.int y2,.int x3,.int y3])∧K (.fr (.az [.str bN,.int x1,.int y1,.int x2,.int y2,.int x3,.int y3])) S))
  |_=>False
 |_=>False
theorem sR:Aw m8:=λa i S K h=>by
 unfold m8 at h
 split at h
 ·split at h
  ·obtain ⟨hf,h⟩:=h
   unfold cZ
   refine gH ⟨hf,?_⟩
   dsimp only
   rcases h with ⟨_,_,e,h⟩|⟨_,_,e,h⟩|⟨_,_,_,_,_,_,e,h⟩ <;> (rw [e]; exact h)
  ·exact h.elim
 ·exact h.elim
def zU (p:Pos):SubL:=match eQ [(643,24,42)] p with
 |true=>m8
 |false=>iM p
theorem zV (p:Pos):Aw (zU p):=by
 unfold zU
 split
 ·exact sR
 ·exact cu p
def C9:List (Addr×CT):=(887,agR)::E5
theorem BY {w:World}{h:Heap}(Y:YL w h):AN w h 34 C9:=.cons (((AU Y).up 12).kh zK λ_ _ _ _ t=>acU t) (BC Y)
abbrev akD (w:World)(h:Heap):Cf:=cf w h (du C9) dr fC fW zU
theorem ad1 {w:World}{h:Heap}(Y:YL w h):AB (akD w h) 34:=cq Y cw bo cJ zV (BY Y).f6
noncomputable def zOp:Str:=Str.mk (Array.mk [111,112,101,114,97,116,111,114])
def dI (o:Nat)(b:Array UInt8):FV:=j9 o zOp (.bytes b) true 3
def bQ (c:Nat)(v:Int):FV:=j9 c v6 (.int v) false 3
def cB (c:Nat)(v:Int):FV:=j9 c dp (.int v) false 3
def eX (k a b:Nat)(items:List FV)(n aJ:Int):FV:=j9 k gW (ib a b items n) true aJ
section
noncomputable def bUR:Array UInt8:=#[117,110,100,101,102,105,110,101,100,114,101,115,117,108,116]
structure P4 where
 (p1 p2 p3 p4:Pv)
abbrev P4.l (p:P4):List FV:=[bC p.p1,bC p.p2,bC p.p3,bC p.p4]
abbrev P4.v (p:P4):FV:=sJ p.p1 p.p2 p.p3 p.p4
def P4.aJ (p:P4):Prop:=1≤p.p1.aJ∧1≤p.p2.aJ∧1≤p.p3.aJ∧1≤p.p4.aJ
structure D4 where
 (w1 w2 w3 w4:Int) (a1 a2 a3 a4:FV) (p:P4)
def aqG (ke:Nat)(L:Int):List (Str×AV):=[(yP,.fr (.int 0)),(yO,.fr (.int 900)),(aB,.own 1 ke),(abQ,.fr (.int L))]
structure GS where
 (tx:List FV) (tc:Int) (k5:Nat) (xs:List FV) (sn:Int) (aH mx bg pt:FV) (ks:List FV) (r:OL) (aa:Nat)
def GS.g (γ:GS)(κ:Ky)(b:Bool)(fr:AO):OL:=gl κ γ.tx γ.tc γ.k5 γ.xs γ.sn b γ.aH fr γ.mx γ.bg γ.pt γ.ks γ.r
def jp (κ:Ky)(L:Int)(γ:GS)(b:Bool)(fr:AO):St:=⟨aqG κ.e L,[],[],γ.g κ b fr,γ.aa⟩
structure Rn where
 (tx:List FV) (tc:Int) (k5:Nat) (aH:FV) (b8 ce wo wq:Nat) (pr:FV) (g:OL) (aa:Nat)
structure Rf where
 (κ:Ky) (L:Int) (aM:Nat) (own:List FV) (ae:List Ab) (d:D4)
structure Rp where
 (m:Sp) (bg pt:FV) (ks:List FV)
abbrev Rf.r (φ:Rf):List FV:=φ.ae.map Ab.fv
def iY (φ:Rf)(ν:Rn)(ψ:Rp)(xs:List FV)(sn i:Int):St:=jp φ.κ φ.L ⟨ν.tx,ν.tc,ν.k5,xs,sn,ν.aH,cy ψ.m,ψ.bg,ψ.pt,ψ.ks,(14,φ.aM,.list φ.own)::(21,ν.b8,paO ν.pr (.fl φ.r) φ.d.p.v i)::(20,ν.ce,.inst 1124 21 ν.b8)::ν.g,ν.aa⟩ false (.a9 [(20,ν.ce)])
def kj (φ:Rf)(ν:Rn)(ψ:Rp)(xs:List FV)(sn i:Int)(q:FV)(j:Int):St:=jp φ.κ φ.L ⟨ν.tx,ν.tc,ν.k5,xs,sn,ν.aH,cy ψ.m,ψ.bg,ψ.pt,ψ.ks,(14,φ.aM,.list φ.own)::(21,ν.b8,paO ν.pr (.fl φ.r) φ.d.p.v i)::(20,ν.ce,.inst 1124 21 ν.b8)::(23,ν.wo,ppO q j)::(22,ν.wq,.inst 462 23 ν.wo)::ν.g,ν.aa⟩ false (.a9 [(20,ν.ce),(22,ν.wq)])
def noS (φ:Rf)(ν:Rn)(ψ:Rp)(xs:List FV)(sn:Int):St:=jp φ.κ φ.L ⟨ν.tx,ν.tc,ν.k5,xs,sn,ν.aH,cy ψ.m,ψ.bg,ψ.pt,ψ.ks,(14,φ.aM,.list φ.own)::ν.g,ν.aa⟩ false (.list [])
abbrev S5 (w:World)(h:Heap)(φ:Rf)(S:St)(K:KE)(X:KX):Prop:=ao (cf5 w h) (0+14) true (.fr (.lit (.ref 720))) [.own 1 φ.κ.e] S K X
abbrev Da (w:World)(h:Heap)(φ:Rf)(S:St)(K:KE)(X:KX):Prop:=ao (akD w h) (0+14) true (.fr (.lit (.ref 720))) [.own 1 φ.κ.e] S K X
def sP (L:List Tv)(m:Sp)(x y:Int)(P:Prop):Prop:=Q L (m.eV≠0∧AL m∧Av (x-m.e)∧Av (y-m.f)∧P)
def sVs:Nat→List Int→Prop→Prop
 |_,[],P=>P
 |o,v::r,P=>an v≤1000000000000000000000∧Q [.z o 0x1212121212,.tt] (sVs (o+2) r P)
noncomputable def rlV:Nat→List Int→List FV
 |_,[]=>[]
 |o,v::r=>cB o v::rlV (o+2) r
section
variable (φ:Rf) (ν:Rn) (ψ:Rp) (xs:List FV) (sn i:Int)
noncomputable def k2s:List Tv:=[.k ν.ce,.k ν.b8,.k ν.ce,.k ν.b8,.k ν.ce,.k ν.b8]
def sL (p:Pv)(l:List Int)(o:Nat)(K:KE):Prop:=
 Q [.z ν.aa 0x11,.y φ.κ 0x2345] (l.length≤100000∧Q [.tt] (sVs (ν.aa+1) l (Q [.y φ.κ 0x23,.k ν.k5] (xs.length+l.length≤200∧Q (k2s ν) (Q [.k ν.ce,.k ν.b8,.y φ.κ 0x45,.k ν.ce,.k ν.b8,.y φ.κ 0x45] (1≤p.aJ∧iB (decide (0<p.n)) (Q [.y φ.κ 0x45,.z o 0x121212,.y φ.κ 0x645,.l 1 1000000,.y φ.κ 0x664545,.l 1 1000000] (K (.fr .none) (kj φ {ν with aH:=.none,pr:=bC p,wo:=o,wq:=o+1,g:=[],aa:=o+2} ψ (xs++rlV (ν.aa+2) l) (sn+1) (i+1) (bC p) 0))) (K (.fr .none) (iY φ {ν with aH:=.none,pr:=bC p,aa:=o} ψ (xs++rlV (ν.aa+2) l) (sn+1) (i+1)))))))))
def sM (u:Str)(p:Pv)(K:KE):Prop:=∃x y,itemAt φ.r i=some (.az [.str u,.int x,.int y])∧sP [.l 3 1000000,.n 2,.s 2,.bb,.n 2,.tt,.k ν.aa,.y φ.κ 0x7845] ψ.m x y (Q [.k ν.aa,.l 2 1000000,.tt] (sL φ ν ψ xs sn i p [(ψ.m.aq x y).1,(ψ.m.aq x y).2] (ν.aa+5) K))
def aqH (K:KE):Prop:=Q [.y φ.κ 0x64545,.l 1 1000000,.n (-1),.s (-1),.bb,.n (-1),.tt,.y φ.κ 0x645,.k ν.ce,.k ν.ce,.y φ.κ 0x6645,.l 1 1000000] (K (.fr .none) (noS φ {ν with aH:=.none,g:=(21,ν.b8,paO ν.pr (.fl φ.r) φ.d.p.v i)::(20,ν.ce,.inst 1124 21 ν.b8)::ν.g} ψ xs (sn+1)))
def akE (A B:Prop):Prop:=Q [.y φ.κ 0x645454545] (Q (k2s ν) (Q [.k ν.ce,.k ν.b8] (φ.r.length≤1000000∧iB (decide (i<Int.ofNat φ.r.length)) (Q (k2s ν) (fits i∧A)) B)))
def sX (X:KX):Prop:=∀(e:Addr),Q [.y φ.κ 0x45] (Value.ref e=Value.ref e∧X (.bytes bUR) (iY φ {ν with aH:=.none,aa:=ν.aa+1} ψ xs (sn+1) i)∧(Value→X (.bytes bUR) (iY φ {ν with aH:=.none,aa:=ν.aa+1} ψ xs (sn+1) i)))
def sB0 (L:List Tv)(x y:Int)(X:KX):Prop:=Q L (ψ.m.eV=0∧AL ψ.m∧Av (x-ψ.m.e)∧Av (y-ψ.m.f)∧sX φ ν ψ xs sn i X)
def sMS (u:Str)(X:KX):Prop:=∃x y,itemAt φ.r i=some (.az [.str u,.int x,.int y])∧sB0 φ ν ψ xs sn i [.l 3 1000000,.n 2,.s 2,.bb,.n 2,.tt,.k ν.aa,.y φ.κ 0x7845] x y X
end
section
variable (w:World) (h:Heap) (K:KE) (X:KX) (φ:Rf) (ν:Rn) (ψ:Rp) (xs:List FV) (sn i:Int)
theorem pR:S5 w h φ (iY φ ν ψ xs sn i) K X=
 akE φ ν i (sM φ ν ψ xs sn i aW φ.d.p.p1 K∨sM φ ν ψ xs sn i bM φ.d.p.p2 K∨(∃x1 y1 x2 y2 x3 y3,itemAt φ.r i=some (.az [.str bN,.int x1,.int y1,.int x2,.int y2,.int x3,.int y3])∧sP [.l 7 1000000,.n 2,.s 2,.bb,.n 2,.tt,.k ν.aa,.y φ.κ 0x7845] ψ.m x1 y1 (sP [.k ν.aa,.l 2 1000000,.tt,.k ν.aa,.y φ.κ 0x7845] ψ.m x2 y2 (sP [.k ν.aa,.l 4 1000000,.tt,.k ν.aa,.y φ.κ 0x7845] ψ.m x3 y3 (Q [.k ν.aa,.l 6 1000000,.tt] (sL φ ν ψ xs sn i φ.d.p.p3 [(ψ.m.aq x1 y1).1,(ψ.m.aq x1 y1).2,(ψ.m.aq x2 y2).1,(ψ.m.aq x2 y2).2,(ψ.m.aq x3 y3).1,(ψ.m.aq x3 y3).2] (ν.aa+13) K)))))∨itemAt φ.r i=some (.az [.str bk])∧Q [.l 1 1000000,.n 2,.s 2,.bb,.n 2,.tt] (sL φ ν ψ xs sn i φ.d.p.p4 [] (ν.aa+1) K)) (aqH φ ν ψ xs sn i K):=by kernel_rfl
theorem zW:Da w h φ (iY φ ν ψ xs sn i) K X=
 akE φ ν i (sMS φ ν ψ xs sn i aW X∨sMS φ ν ψ xs sn i bM X∨∃x1 y1 x2 y2 x3 y3,itemAt φ.r i=some (.az [.str bN,.int x1,.int y1,.int x2,.int y2,.int x3,.int y3])∧sB0 φ ν ψ xs sn i [.l 7 1000000,.n 2,.s 2,.bb,.n 2,.tt,.k ν.aa,.y φ.κ 0x7845] x1 y1 X) (aqH φ ν ψ xs sn i K):=by kernel_rfl
end
section
variable (φ:Rf) (ν:Rn)
def pf (a b:Int)(P:Prop):Prop:=Q [.y φ.κ 0x645454545,.k ν.wq,.k ν.wo,.k ν.wq,.k ν.wo,.k ν.wq,.k ν.wo,.j a b,.k ν.wq,.k ν.wo,.k ν.wq,.k ν.wo,.k ν.wq,.k ν.wo] P
def pfE (P:Prop):Prop:=Q [.y φ.κ 0x64545,.l 2 1000000,.n (-1),.s (-1),.bb,.n (-1),.tt,.y φ.κ 0x645,.k ν.wq,.k ν.wq,.y φ.κ 0x6645,.l 2 1000000] P
def psh (xs:List FV)(P:Prop):Prop:=Q [.y φ.κ 0x2323454545,.k ν.k5] (xs.length<200∧Q [.y φ.κ 0x4545] P)
abbrev Rn.pop (q:FV)(j:Int)(aH:FV):Rn:={ν with aH:=aH,g:=(23,ν.wo,ppO q j)::(22,ν.wq,.inst 462 23 ν.wo)::ν.g}
def lAr (xs:List FV)(P:List FV→Ar→Prop):Prop:=Q [.y φ.κ 0x232345,.k ν.k5] (xs.length≤1000∧∃ys a,xs=ys++[kZ a]∧P ys a)
def sAs:List Int→Prop→Prop
 | [],P=>Q [.tt] P
 |v::r,P=>Q [.tt] (an v≤1000000000000000000000∧sAs r P)
end
section
variable (w:World) (h:Heap) (K:KE) (X:KX) (φ:Rf) (ν:Rn) (ψ:Rp) (xs:List FV) (sn i:Int) (k a b:Nat) (aJ:Int)
theorem aqI (c:Nat)(v:Int):S5 w h φ (kj φ ν ψ xs sn i (eX k a b [bQ c v] 1 aJ) 0) K X=
 pf φ ν 0 1 (pfE φ ν (psh φ ν xs (K (.fr .none) (iY φ (ν.pop (eX k a b [bQ c v] 1 aJ) 1 .none) ψ (xs++[bQ c v]) (sn+1) i)))):=by kernel_rfl
theorem aqJ (d:Ar)(q1 q2:FV):S5 w h φ (kj φ ν ψ xs sn i (eX k a b [kZ d,q1,q2] 3 aJ) 0) K X=
 pf φ ν 0 3 (psh φ ν xs (K (.fr .none) (kj φ {ν with aH:=.none} ψ (xs++[kZ d]) (sn+1) i (eX k a b [kZ d,q1,q2] 3 aJ) 1))):=by kernel_rfl
theorem aqK (o:Nat)(q0 q2:FV):S5 w h φ (kj φ ν ψ xs sn i (eX k a b [q0,dI o #[99,111,110,99,97,116],q2] 3 aJ) 1) K X=
 pf φ ν 1 3 (Q [.y φ.κ 0x23234545454545,.k ν.k5] (xs.length≤1000000∧Q [.y φ.κ 0x645,.l 2 1000000,.y φ.κ 0x23454545,.k ν.k5] (xs.length≤1000000∧1≤Int.ofNat xs.length∧lAr φ ν xs λ_ _=>lAr φ ν xs λys d=>Q [.l 6 1000000,.i 0 0,.i 0 6,.i 6 6,.l 6 1000000,.l 6 100000,.tt,.tt,.tt,.tt,.tt,.tt,.tt,.l 6 1000000,.l 6 100000,.tt,.tt,.tt,.tt,.tt,.tt,.tt,.y φ.κ 0x7845] (AL d.m∧AL ψ.m∧Q [.l 6 100000] (sAs [(d.m.bf ψ.m).a,(d.m.bf ψ.m).b,(d.m.bf ψ.m).c,(d.m.bf ψ.m).d,(d.m.bf ψ.m).e,(d.m.bf ψ.m).f] (Q [.y φ.κ 0x45457845] (K (.fr .none) (kj φ {ν with aH:=dI o #[99,111,110,99,97,116]} {ψ with m:=d.m.bf ψ.m} ys (sn+1) i (eX k a b [q0,dI o #[99,111,110,99,97,116],q2] 3 aJ) 2)))))))):=by kernel_rfl
theorem akF (c:Nat)(v:Int)(q0 q1:FV):S5 w h φ (kj φ ν ψ xs sn i (eX k a b [q0,q1,bQ c v] 3 aJ) 2) K X=
 pf φ ν 2 3 (pfE φ ν (psh φ ν xs (K (.fr .none) (iY φ (ν.pop (eX k a b [q0,q1,bQ c v] 3 aJ) 3 .none) ψ (xs++[bQ c v]) (sn+1) i)))):=by kernel_rfl
theorem akG (c:Nat)(v:Int)(q1:FV):S5 w h φ (kj φ ν ψ xs sn i (eX k a b [bQ c v,q1] 2 aJ) 0) K X=
 pf φ ν 0 2 (psh φ ν xs (K (.fr .none) (kj φ {ν with aH:=.none} ψ (xs++[bQ c v]) (sn+1) i (eX k a b [bQ c v,q1] 2 aJ) 1))):=by kernel_rfl
theorem akH (o:Nat)(q0:FV):S5 w h φ (kj φ ν ψ xs sn i (eX k a b [q0,dI o #[101,120,105,116]] 2 aJ) 1) K X=
 pf φ ν 1 2 (pfE φ ν (Q [.y φ.κ 0x23234545454545,.k ν.k5] (xs.length≤1000000∧Q [.y φ.κ 0x645,.l 1 1000000,.y φ.κ 0x645454545,.l 1 1000000,.n (-1),.s (-1),.bb,.n (-1),.tt,.y φ.κ 0x645,.k ν.ce,.k ν.b8,.y φ.κ 0x64545,.l 1 1000000,.y φ.κ 0x6645,.l 1 1000000,.k ν.ce,.k ν.b8,.y φ.κ 0x645,.l 0 1000000,.y φ.κ 0x4545] (K (.fr .none) (noS φ {ν with aH:=dI o #[101,120,105,116],g:=(21,ν.b8,paO ν.pr (.fl φ.r) φ.d.p.v i)::(20,ν.ce,.inst 1124 21 ν.b8)::(23,ν.wo,ppO (eX k a b [q0,dI o #[101,120,105,116]] 2 aJ) 2)::(22,ν.wq,.inst 462 23 ν.wo)::ν.g} ψ xs (sn+1)))))):=by kernel_rfl
end
section
variable (φ:Rf) (ν:Rn)
def sBo (m:Sp)(x y:Int)(k:Nat)(P:Prop):Prop:=AL m∧Av x∧Av y∧Q [.k k] (an (m.on x y).fst≤1000000000000000000000∧an (m.on x y).snd≤1000000000000000000000∧P)
def sLo (n:Nat)(f:Int)(P:Prop):Prop:=pf φ ν 0 1 (pfE φ ν (Q [.y φ.κ 0x23234545454545,.k ν.k5,.l n 1000000,.y φ.κ 0x645,.l 1 1000000,.y φ.κ 0x4545,.s 2,.s f,.y φ.κ 0x2345,.k ν.k5,.l n 1000000,.i n n,.s 2,.s f,.y φ.κ 0x232345,.k ν.k5,.l n 1000000,.y φ.κ 0x2323,.k ν.k5,.l n 1000000,.k ν.k5,.l n 1000000,.i 0 0,.l n 100000] (Q (List.replicate (n+1) .tt) (Q [.y φ.κ 0x23232345,.k ν.k5,.l n 1000000,.y φ.κ 0x2323,.k ν.k5,.l n 1000000,.k ν.k5,.l n 1000000,.i 0 0,.y φ.κ 0x2323,.k ν.k5,.l n 1000000,.y φ.κ 0x23,.k ν.k5,.l n 1000000,.i 0 0,.y φ.κ 0x23,.s 2,.s f,.n 2,.s 2,.bb,.n 2,.tt,.y φ.κ 0x7845] P))))
def sTo (ψ:Rp)(F:Int→Int→List Ab→Int→Int→Prop):Prop:=∃b0 b1 p0 p1 r1,ψ.bg=.az [.int b0,.int b1]∧ψ.pt=.az [.int p0,.int p1]∧ψ.ks=List.map Ab.fv r1∧r1.length≤1000∧r1≠[]∧aO r1=Ab.m b0 b1∧∀(p0 p1:Int),F b0 b1 r1 p0 p1
def sKo (m:Sp)(sn i:Int)(q:FV)(K:KE)(ν':Rn)(xs:List FV)(b0 b1 p0 p1:Int)(r1:List Ab)(r:Ab):Prop:=Q [.y φ.κ 0x4545] (K (.fr .none) (iY φ (ν'.pop q 1 ν'.aH) ⟨m,.az [.int b0,.int b1],.az [.int p0,.int p1],List.map Ab.fv (aX r1 r)⟩ xs (sn+1) i))
end
section
variable (w:World) (h:Heap) (K:KE) (X:KX) (φ:Rf) (ν:Rn) (ψ:Rp) (xs:List FV) (sn i:Int) (k a b:Nat) (aJ:Int) (o:Nat)
theorem aqL (c1 c2:Nat)(x y:Int):S5 w h φ (kj φ ν ψ [cB c1 x,cB c2 y] sn i (eX k a b [dI o #[109,111,118,101,116,111]] 1 aJ) 0) K X=
 sLo φ ν 2 1 (sBo ψ.m x y (ν.aa+1) (Q [.z ν.aa 0x22,.l 0 1000000,.tt,.k (ν.aa+1),.y φ.κ 0xb9a9a7845] (∃r1,ψ.ks=List.map Ab.fv r1∧r1.length≤1000∧∀(p0 p1:Int),sKo φ ψ.m sn i (eX k a b [dI o #[109,111,118,101,116,111]] 1 aJ) K {ν with aH:=dI o #[109,111,118,101,116,111],k5:=ν.aa,aa:=ν.aa+2} [] (ψ.m.on x y).1 (ψ.m.on x y).2 p0 p1 r1 (.m (ψ.m.on x y).1 (ψ.m.on x y).2)))):=by kernel_rfl
theorem aqM (c1 c2:Nat)(x y:Int):S5 w h φ (kj φ ν ψ [cB c1 x,cB c2 y] sn i (eX k a b [dI o #[108,105,110,101,116,111]] 1 aJ) 0) K X=
 sLo φ ν 2 1 (sBo ψ.m x y (ν.aa+1) (Q [.z ν.aa 0x22,.l 0 1000000,.tt,.k (ν.aa+1),.y φ.κ 0xb9a9a7845] (sTo ψ λb0 b1 r1 p0 p1=>sKo φ ψ.m sn i (eX k a b [dI o #[108,105,110,101,116,111]] 1 aJ) K {ν with aH:=dI o #[108,105,110,101,116,111],k5:=ν.aa,aa:=ν.aa+2} [] b0 b1 p0 p1 r1 (.l (ψ.m.on x y).1 (ψ.m.on x y).2)))):=by kernel_rfl
theorem aqN (c1 c2 c3 c4 c5 c6:Nat)(x1 y1 x2 y2 x3 y3:Int):S5 w h φ (kj φ ν ψ [cB c1 x1,cB c2 y1,cB c3 x2,cB c4 y2,cB c5 x3,cB c6 y3] sn i (eX k a b [dI o #[99,117,114,118,101,116,111]] 1 aJ) 0) K X=
 sLo φ ν 6 3 (sBo ψ.m x1 y1 (ν.aa+1) (Q [.z ν.aa 0x22,.l 0 1000000,.tt,.y φ.κ 0x7845] (sBo ψ.m x2 y2 (ν.aa+1) (Q [.z ν.aa 0x22,.l 1 1000000,.tt,.y φ.κ 0x7845] (sBo ψ.m x3 y3 (ν.aa+1) (Q [.z ν.aa 0x22,.l 2 1000000,.tt,.k (ν.aa+1),.y φ.κ 0xb9a9a7845] (sTo ψ λb0 b1 r1 p0 p1=>sKo φ ψ.m sn i (eX k a b [dI o #[99,117,114,118,101,116,111]] 1 aJ) K {ν with aH:=dI o #[99,117,114,118,101,116,111],k5:=ν.aa,aa:=ν.aa+2} [] b0 b1 p0 p1 r1 (.c (ψ.m.on x1 y1).1 (ψ.m.on x1 y1).2 (ψ.m.on x2 y2).1 (ψ.m.on x2 y2).2 (ψ.m.on x3 y3).1 (ψ.m.on x3 y3).2)))))))):=by kernel_rfl
theorem aqO:S5 w h φ (kj φ ν ψ xs sn i (eX k a b [dI o #[99,108,111,115,101,112,97,116,104]] 1 aJ) 0) K X=
 pf φ ν 0 1 (pfE φ ν (Q [.y φ.κ 0x23234545454545,.k ν.k5] (xs.length≤1000000∧Q [.y φ.κ 0x645,.l 1 1000000,.y φ.κ 0xb9a9a78454545] (sTo ψ λb0 b1 r1 p0 p1=>sKo φ ψ.m sn i (eX k a b [dI o #[99,108,111,115,101,112,97,116,104]] 1 aJ) K {ν with aH:=dI o #[99,108,111,115,101,112,97,116,104]} xs b0 b1 p0 p1 r1 .z)))):=by kernel_rfl
end
end
set_option backward.match.sparseCases false
theorem aqP {G:Ah}{PE:Addr×Nat}{l:Nat}{q:Bool}{a:Addr}{T1 T2:CT}(h1:Ag G PE l q (only a T1))(h2:Ag G PE l q (only a T2)):Ag G PE l q (only a λargs S K X=>T1 args S K X∨T2 args S K X):=by
 intro A fs env sc cl L r f v args vs c S s aj hf hv K X Q E k p x
 refine jm (Z:=λf=>VR G.prog G.w c f v→_) k (λb k hf=>?_) hf
 obtain ⟨e,k⟩:=k
 subst e
 exact k.elim (λk=>h1 A fs env sc cl L r _ v args vs c S s aj hf hv K X Q E ⟨rfl,k⟩ p x) λk=>h2 A fs env sc cl L r _ v args vs c S s aj hf hv K X Q E ⟨rfl,k⟩ p x
def km (w:World)(h:Heap):CT:=λargs S K X=>ao (cf5 w h) (0+14) true (.fr (.lit (.ref 720))) args S K X∨ao (akD w h) (0+14) true (.fr (.lit (.ref 720))) args S K X
def E6 (w:World)(h:Heap):List (Addr×CT):=(720,km w h)::E5
theorem BP {w:World}{h:Heap}(Y:YL w h):AN w h 62 (E6 w h):=
 .cons (λB=>aqP (aC (akC Y) rfl rfl 14 (λ_ _ _ _ t=>t) B) (aC (ad1 Y) rfl rfl 14 (λ_ _ _ _ t=>t) B)) ((BC Y).up 28)
def Az (w:World)(h:Heap)(κ:Ky)(L:Int)(XF:KX)(Fin:St→Prop)(n:Nat)(S:St):Prop:=∀(V:Nat→St→Prop) (X:KX),(∀x S',XF x S'→X x S')→
 (∀n γ b,Fin (jp κ L γ b (.list []))→V (n+1) (jp κ L γ b (.list [])))→
 (∀n (γ:GS) b p ps,γ.sn<L→ps.length≤1000→km w h [.own 1 κ.e] (jp κ L γ b (.a9 (p::ps))) (λ_ S'=>V n S') X→V (n+1) (jp κ L γ b (.a9 (p::ps))))→V n S
theorem Az.aw {w:World}{h:Heap}{κ:Ky}{L:Int}{XF Db:KX}{Fin Cl:St→Prop}{n:Nat}{S:St}(g:Az w h κ L XF Fin n S)(hx:∀x S,XF x S→Db x S)(hf:∀S,Fin S→Cl S):Az w h κ L Db Cl n S:=
 λV X h1 h2 h3=>g V X (λx S k=>h1 x S (hx x S k)) (λn γ b k=>h2 n γ b (hf _ k)) h3
def agU (w:World)(h:Heap):BK:=λT Bd S K X=>∃κ L,
 (∀(γ:GS) b p ps (Kn Kf:St→Prop) (Kr:AV→St→Prop) (X':KX),γ.sn<L→ps.length≤1000→km w h [.own 1 κ.e] (jp κ L γ b (.a9 (p::ps))) (λ_ S'=>Kn S') X'→
  T (jp κ L γ b (.a9 (p::ps))) (λb S1=>match b with
   |false=>Kf S1
   |true=>Bd S1 (λf S2=>match f with
    |.next=>Kn S2
    |.cont=>Kn S2
    |.brk=>Kf S2
    |.ret v=>Kr v S2) X') X')∧
 (∀γ b (Kf KT:St→Prop) (X':KX),Kf (jp κ L γ b (.list []))→T (jp κ L γ b (.list [])) (λb S1=>match b with
   |false=>Kf S1
   |true=>KT S1) X')∧
 ∃N,Az w h κ L X (λS'=>∃γ,S'=jp κ L γ false (.list [])∧K .next (jp κ L γ false (.list []))) N S
theorem zX (w:World)(h:Heap):Bk (agU w h):=by
 intro T Bd S K X ⟨κ,L,h1,h2,N,hr⟩
 refine ⟨N,hr (λn S=>jX T Bd n S K X) X (λ_ _ k=>k) (λn γ b dJ=>?_) λn γ b p ps hs hp st=>?_⟩
 ·obtain ⟨γ',e,dJ⟩:=dJ
  unfold jX
  rw [←e] at dJ
  exact h2 γ b (λS1=>K .next S1) _ X dJ
 ·unfold jX
  exact h1 γ b p ps (λS2=>jX T Bd n S2 K X) (λS1=>K .next S1) (λv S2=>K (.ret v) S2) X hs hp st
def akI (w:World)(h:Heap)(p:Pos):BK:=match Nat.beq p.line 417 with
 |true=>agU w h
 |false=>fW p
theorem ad2 (w:World)(h:Heap)(p:Pos):Bk (akI w h p):=by
 unfold akI
 split
 ·exact zX w h
 ·exact cJ p
abbrev cf6 (w:World)(h:Heap):Cf:=cf w h (du (E6 w h)) dr fC (akI w h) iM
theorem akJ {w:World}{h:Heap}(Y:YL w h):AB (cf6 w h) 62:=cq Y cw bo (ad2 w h) cu (BP Y).f6
set_option backward.match.sparseCases true
section
variable (w:World) (h:Heap) (n:Nat) (loc:List (Str×AV)) (ai:List (Str×Nat×Nat)) (am:OL) (K:KE) (X:KX)
theorem ave (κ:Ky)(γ:GS)(sb:Bool)(p:Nat×Nat)(ps:List (Nat×Nat)):ao (cf6 w h) (n+3) true (.fr (.lit (.ref 728))) [.own 1 κ.e,.fr (.int 900)] ⟨loc,ai,am,γ.g κ sb (.a9 (p::ps)),γ.aa⟩ K X=
 (Q [.y κ 0x4545] (∃κ' L,(∀(γ:GS) (b:Bool) (p:Nat×Nat) (ps:List (Nat×Nat)) (Kn Kf:St→Prop) (Kr:AV→St→Prop) (X':KX),γ.sn<L→ps.length≤1000→km w h [.own 1 κ'.e] (jp κ' L γ b (.a9 (p::ps))) (λx S'=>Kn S') X'→Q [.k κ'.e,.k κ'.d,.k κ'.f] ((p::ps).length≤1000000∧iB (decide (0<Int.ofNat (p::ps).length)) (Q [.y κ' 0x45] (iB (decide (L≤γ.sn)) (Kr (.fr (.str abR)) (jp κ' L γ b (.a9 (p::ps)))) (Q [.y κ' 0x45] (km w h [.own 1 κ'.e] (jp κ' L γ b (.a9 (p::ps))) (λx S1=>Kn S1) λx S1=>X' x S1)))) (Kf (jp κ' L γ b (.a9 (p::ps))))))∧(∀(γ:GS) (b:Bool) (Kf KT:St→Prop) (X':KX),Kf (jp κ' L γ b (.list []))→Q [.k κ'.e,.k κ'.d,.k κ'.f,.l 0 1000000] (Kf (jp κ' L γ b (.list []))))∧∃N,Az w h κ' L (λx S1=>X x (St.mk loc ai am S1.af S1.aa)) (λS'=>∃γ,S'=jp κ' L γ false (.list [])∧Q [.y κ' 0x45] (K (.fr (.str (Str.mk (Array.mk [100,111,110,101])))) (St.mk loc ai am (γ.g κ' false (.list [])) γ.aa))) N (jp κ (γ.sn+900) γ false (.a9 (p::ps))))):=by kernel_rfl
end
noncomputable def uB:Str:=Str.mk (Array.mk [100,111,110,101])
def tGo (w:World)(h:Heap):CT:=λargs S K X=>∃(kl:Nat) (γ:GS) (sb:Bool) (p:Nat×Nat) (ps:List (Nat×Nat)) (N:Nat),args=[.own 1 (eq S.af kl).e,.fr (.int 900)]∧S.af=γ.g (eq S.af kl) sb (.a9 (p::ps))∧S.aa=γ.aa∧
 Az w h (eq S.af kl) (γ.sn+900) (λx S'=>X x ⟨S.loc,S.ai,S.am,S'.af,S'.aa⟩) (λS'=>∃δ,S'=jp (eq S.af kl) (γ.sn+900) δ false (.list [])∧K (.fr (.str uB)) ⟨S.loc,S.ai,S.am,δ.g (eq S.af kl) false (.list []),δ.aa⟩) N (jp (eq S.af kl) (γ.sn+900) γ false (.a9 (p::ps)))
theorem avf (w:World)(h:Heap)(n:Nat){args:List AV}{S:St}{K:KE}{X:KX}(t:tGo w h args S K X):ao (cf6 w h) (n+3) true (.fr (.lit (.ref 728))) args S K X:=by
 obtain ⟨kl,γ,sb,p,ps,N,rfl,e,en,g⟩:=t
 obtain ⟨loc,ai,am,af,aa⟩:=S
 dsimp only at e en g ⊢
 generalize eq af kl=κ at e g ⊢
 subst e en
 rw [ave]
 have el:∀k:Nat,Int.ofNat k=(k:Int):=λ_=>rfl
 exact Aa rfl ⟨κ,γ.sn+900,λγ b p ps Kn Kf Kr X' hs hp st=>Aa rfl ⟨Nat.le_trans (Nat.succ_le_succ hp) (by decide),ze (by rw [el,List.length_cons]; lia) (Aa rfl (cF (Int.not_le.mpr hs) (Aa rfl st)))⟩,λγ b Kf KT X' k=>Aa rfl k,N,g.aw (λx S' k=>k) λS' k=>k.elim λδ k=>⟨δ,k.1,Aa rfl k.2⟩⟩
set_option backward.match.sparseCases false
def sS:SubL:=λa i S K=>gw i λi=>match i with
 |.int k=>gw a λa=>wN a λxs=>fits k∧∃v,itemAt xs k=some (.int v)∧K (.fr (.int v)) S
 |.str u=>gw a λa=>ah6 a λfs=>∃v,fs.lookup u=some (.int v)∧K (.fr (.int v)) S
 |_=>False
theorem lW:Aw sS:=λa i S K h=>by
 refine aZ (P:=λi=>cZ a i S K) h λi h=>?_
 cases i with
 |int k=>exact aZ (P:=λa=>cZ a (.fr (.int k)) S K) h λa h=>nK (P:=λa=>cZ (.fr a) (.fr (.int k)) S K) h λxs h=>gH ⟨h.1,let ⟨v,hv,h⟩:=h.2; gu hv h⟩
 |str u=>exact aZ (P:=λa=>cZ a (.fr (.str u)) S K) h λa h=>ty (P:=λa=>cZ (.fr a) (.fr (.str u)) S K) h λfs h=>let ⟨v,hv,h⟩:=h; gu hv h
 |_=>exact h.elim
def akK (p:Pos):SubL:=match eQ [(916,48,77),(913,29,46)] p with
 |true=>sS
 |false=>iM p
theorem ad3 (p:Pos):Aw (akK p):=by
 unfold akK
 split
 ·exact lW
 ·exact cu p
def zY:CT:=λargs S K X=>oC args λa l=>oJ l λm l=>oE l (oM m λm=>match Nat.beq m 5 with
 |true=>sI [a,.fr (.int (.ofNat m))] S K X
 |false=>eP [a,.fr (.int (.ofNat m))] S K X)
theorem zZ {args:List AV}{S:St}{K:KE}{X:KX}(t:zY args S K X):eP args S K X:=by
 refine bz t λa _ t=>bZ t λm _ t=>a0 t λt=>zF t λm t=>?_
 cases h:Nat.beq m 5 <;> rw [h] at t
 ·exact t
 ·exact pP t
def EP:List (Addr×CT):=(1422,zY)::E2
theorem ad4:(1422,eP)∈E2:=by unfold E2 E1 E0; simp
theorem Cm {w:World}{h:Heap}(Y:YL w h):AN w h 22 EP:=.cons ((Bs Y).kh ad4 λ_ _ _ _ t=>zZ t) (Bs Y)
abbrev cfP (w:World)(h:Heap):Cf:=cf w h (du EP) dr fC j3 akK
theorem akL {w:World}{h:Heap}(Y:YL w h):AB (cfP w h) 22:=cq Y cw bo cI ad3 (Cm Y).f6
set_option backward.match.sparseCases true
section
variable (w:World) (h:Heap) (n:Nat) (aa:Nat) (loc:List (Str×AV)) (ai:List (Str×Nat×Nat)) (am g:OL) (S:St) (K:KE) (X:KX)
theorem akM (k:Nat)(c:Int)(xs:List FV)(u:Str):ao (cfP w h) (n+9) true (.fr (.lit (.ref 1497))) [.own 12 k,.fr (.str u)] ⟨loc,ai,am,(12,k,.list [.fl xs,.int c])::g,aa⟩ K X=
 (Q [.k k] (As 1000000000 1 xs c λeU c'=>Q [.k aa] (∃v,(match decide (u=aW) with|true=>some (FV.int 1)|false=>match decide (u=bM) with|true=>some (FV.int 2)|false=>match decide (u=bN) with|true=>some (FV.int 3)|false=>match decide (u=bk) with|true=>some (FV.int 4)|false=>none)=some (FV.int v)∧Q [.z aa 0x112323232323,.l 0 1000000,.k k,.j 0 3,.i 3 1000000] (As 1000000000 1 eU c' λeU c'=>∀(r:Int),0≤r→r<3→fits r∧∃v_1,itemAt [FV.int 3,.int 2,.int 1] r=some (FV.int v_1)∧Q [.z aa 0x4511,.l 1 1000000,.z aa 0x45454545,.l 1 1000000,.z aa 0x898989898967676767] (K (.fr (.az [.int 0,.none,eX (aa+8) (aa+6) (aa+4) [bQ (aa+2) v] 1 v_1])) (St.mk loc ai am ((12,k,.list [.fl eU,.int c'])::g) (aa+9)))))∧Q [.k k,.j 0 3,.i 3 1000000] (As 1000000000 1 eU c' λeU c'=>∀(r:Int),0≤r→r<3→fits r∧∃v,itemAt [FV.int 3,.int 2,.int 1] r=some (FV.int v)∧Q [.z aa 0x2311,.l 0 1000000,.z aa 0x23232323,.l 0 1000000,.z aa 0x676767676745454545] (K (.fr (.az [.int 1,.none,eX (aa+6) (aa+4) (aa+2) [] 0 v])) (St.mk loc ai am ((12,k,.list [.fl eU,.int c'])::g) (aa+7))))∧Q [.k k,.i 0 1000000,.i 1000000 1000000] (As 900000000 7 eU c' λeU c'=>∀(a1 a2 a3 a4 a5 a6:Int) (ay:Nat),Br 1000000 (Sp.mk a1 a2 a3 a4 a5 a6)→Q [.l 6 100000,.tt,.z ay 0x1212121212,.tt,.z ay 0x3434343434,.tt,.z ay 0x5656565656,.tt,.z ay 0x7878787878,.tt,.z ay 0x9a9a9a9a9a,.tt,.z ay 0xbcbcbcbcbc,.tt,.z ay 0xde,.l 6 1000000,.z ay 0xdededede,.l 6 1000000,.k (ay+15),.k (ay+14),.k (ay+15),.k (ay+14),.k (ay+15),.k (ay+14),.k (ay+15),.k (ay+14),.k (ay+17),.k (ay+16),.k (ay+17),.k (ay+16),.k (ay+17),.k (ay+16),.k (ay+17),.k (ay+16),.k (ay+17),.k (ay+16),.k (ay+19),.k (ay+18),.k (ay+19),.k (ay+18),.k (ay+19),.k (ay+18),.k (ay+19),.k (ay+18),.k (ay+19),.k (ay+18),.k (ay+20)] (∃v,(match decide (u=aW) with|true=>some (FV.int 1)|false=>match decide (u=bM) with|true=>some (FV.int 2)|false=>match decide (u=bN) with|true=>some (FV.int 3)|false=>match decide (u=bk) with|true=>some (FV.int 4)|false=>none)=some (FV.int v)∧Q [.k (ay+22),.k (ay+21),.k (ay+22),.k (ay+21),.k (ay+22),.k (ay+21),.k (ay+22),.k (ay+21),.k (ay+22),.k (ay+21),.k (ay+20),.k (ay+20),.l 2 1000000,.k k,.j 0 3,.i 3 1000000] (As 1000000000 1 eU c' λeU c'=>∀(r:Int),0≤r→r<3→fits r∧∃v_1,itemAt [FV.int 3,.int 2,.int 1] r=some (FV.int v_1)∧Q [.k (ay+20),.k (ay+20),.k (ay+24),.k (ay+23),.l 3 1000000,.k (ay+24),.k (ay+23),.k (ay+24),.k (ay+23),.k (ay+24),.k (ay+23),.k (ay+24),.k (ay+23),.l 3 1000000,.k (ay+26),.k (ay+25),.k (ay+26),.k (ay+25),.k (ay+26),.k (ay+25),.k (ay+26),.k (ay+25),.k (ay+28),.k (ay+27),.k (ay+28),.k (ay+27),.k (ay+28),.k (ay+27),.k (ay+28),.k (ay+27),.k (ay+28),.k (ay+27)] (K (.fr (.az [.int 2,.fl [.int a1,.int a2,.int a3,.int a4,.int a5,.int a6],eX (ay+28) (ay+26) (ay+24) [j9 (ay+17) gW (ib (ay+15) (ay+13) [cB (ay+1) a1,cB (ay+3) a2,cB (ay+5) a3,cB (ay+7) a4,cB (ay+9) a5,cB (ay+11) a6] 6) false 3,dI (ay+19) #[99,111,110,99,97,116],bQ (ay+22) v] 3 v_1])) (St.mk loc ai am ((12,k,.list [.fl eU,.int c'])::g) (ay+29))))))∧Q [.k aa] (∃v,(match decide (u=aW) with|true=>some (FV.int 1)|false=>match decide (u=bM) with|true=>some (FV.int 2)|false=>match decide (u=bN) with|true=>some (FV.int 3)|false=>match decide (u=bk) with|true=>some (FV.int 4)|false=>none)=some (FV.int v)∧Q [.z aa 0x112323232323,.l 0 1000000,.z aa 0x1145454545451,.l 1 1000000,.k k,.j 0 3,.i 3 1000000] (As 1000000000 1 eU c' λeU c'=>∀(r:Int),0≤r→r<3→fits r∧∃v_1,itemAt [FV.int 3,.int 2,.int 1] r=some (FV.int v_1)∧Q [.z aa 0x6711,.l 2 1000000,.z aa 0x67676767,.l 2 1000000,.z aa 0xababababab89898989] (K (.fr (.az [.int 3,.none,eX (aa+10) (aa+8) (aa+6) [bQ (aa+2) v,dI (aa+4) #[101,120,105,116]] 2 v_1])) (St.mk loc ai am ((12,k,.list [.fl eU,.int c'])::g) (aa+11)))))∧Q [.k aa] (∃v,(match decide (u=aW) with|true=>some (FV.int 1)|false=>match decide (u=bM) with|true=>some (FV.int 2)|false=>match decide (u=bN) with|true=>some (FV.int 3)|false=>match decide (u=bk) with|true=>some (FV.int 4)|false=>none)=some (FV.int v)∧Q [.z aa 0x112323232323,.l 0 1000000,.k k,.j 0 3,.i 3 1000000] (As 1000000000 1 eU c' λeU c'=>∀(r:Int),0≤r→r<3→fits r∧∃v_1,itemAt [FV.int 3,.int 2,.int 1] r=some (FV.int v_1)∧Q [.z aa 0x4511,.l 1 1000000,.z aa 0x45454545,.l 1 1000000,.z aa 0x898989898967676767] (K (.fr (.az [.int 4,.none,eX (aa+8) (aa+6) (aa+4) [bQ (aa+2) v] 1 v_1])) (St.mk loc ai am ((12,k,.list [.fl eU,.int c'])::g) (aa+9))))))):=by kernel_rfl
end
def wr (u:Str):Option Int:=match u==aW with
 |true=>some 1
 |false=>match u==bM with
  |true=>some 2
  |false=>match u==bN with
   |true=>some 3
   |false=>match u==bk with
    |true=>some 4
    |false=>none
def AM (u:Str)(dH:Int)(ah:FV)(items:List FV)(n:Int):Prop:=∃v,wr u=some v∧
 (((dH=0∨dH=4)∧ah=.none∧n=1∧∃c,items=[bQ c v])∨(dH=1∧ah=.none∧n=0∧items=[])∨
 (dH=2∧n=3∧∃a o c,BG a.m∧ah=cy a.m∧items=[kZ a,dI o #[99,111,110,99,97,116],bQ c v])∨
 (dH=3∧ah=.none∧n=2∧∃c o,items=[bQ c v,dI o #[101,120,105,116]]))
def agV:CT:=λargs S K _=>oC args λa l=>oX l λu l=>oE l (oS u λu=>oB (wr u).isSome (wk a S λxs c _ up=>As 800000000 10 xs c λeU c'=>∀dH ah k0 ka kb items n aJ ay,AM u dH ah items n→1≤aJ→aJ≤3→K (.fr (.az [.int dH,ah,eX k0 ka kb items n aJ])) (up eU c' ay)))
theorem ic {u:Str}{v:Int}(h:wr u=some v):(match decide (u=aW) with|true=>some (FV.int 1)|false=>match decide (u=bM) with|true=>some (FV.int 2)|false=>match decide (u=bN) with|true=>some (FV.int 3)|false=>match decide (u=bk) with|true=>some (FV.int 4)|false=>none)=some (FV.int v):=by
 unfold wr at h
 by_cases h1:u=aW
 ·simp only [h1,decide_true]; simp [h1] at h; rw [h]
 ·have e1:(u==aW)=false:=by simpa using h1
  rw [e1] at h
  simp only [h1,decide_false]
  by_cases h2:u=bM
  ·simp only [h2,decide_true]; simp [h2] at h; rw [h]
  ·have e2:(u==bM)=false:=by simpa using h2
   rw [e2] at h
   simp only [h2,decide_false]
   by_cases h3:u=bN
   ·simp only [h3,decide_true]; simp [h3] at h; rw [h]
   ·have e3:(u==bN)=false:=by simpa using h3
    rw [e3] at h
    simp only [h3,decide_false]
    by_cases h4:u=bk
    ·simp only [h4,decide_true]; simp [h4] at h; rw [h]
    ·have e4:(u==bk)=false:=by simpa using h4
     rw [e4] at h
     cases h
theorem fD {r:Int}(h0:0≤r)(h1:r<3):∃v,itemAt [FV.int 3,.int 2,.int 1] r=some (.int v)∧1≤v∧v≤3:=by
 have:r=0∨r=1∨r=2:=by lia
 rcases this with rfl|rfl|rfl
 ·exact ⟨3,rfl,by decide,by decide⟩
 ·exact ⟨2,rfl,by decide,by decide⟩
 ·exact ⟨1,rfl,by decide,by decide⟩
theorem lX {r:Int}(h0:0≤r)(h1:r<3):fits r:=by unfold fits; lia
theorem akN (w:World)(h:Heap)(n:Nat){args:List AV}{S:St}{K:KE}{X:KX}(t:agV args S K X):ao (cfP w h) (n+9) true (.fr (.lit (.ref 1497))) args S K X:=by
 refine bz t λa _ q=>de q λu _ q=>a0 q λq=>pF q λu q=>cA q λhu q=>jn q λloc ai am aa k xs c g ⟨hb,tv,t⟩=>?_
 generalize c.toNat=b at hb tv t
 obtain ⟨v,hv⟩:=Option.isSome_iff_exists.mp hu
 rw [akM]
 refine Aa rfl (.mk tv (by lia) λx1 c1 t1=>⟨?_,?_,?_,?_,?_⟩)
 ·refine Aa rfl ⟨v,ic hv,Aa rfl (.mk t1 (by lia) λx2 c2 t2 r h0 h1=>⟨lX h0 h1,?_⟩)⟩
  obtain ⟨a,ha,a1,a3⟩:=fD h0 h1
  exact ⟨a,ha,Aa rfl (t _ _ (t2.up (by lia)) 0 _ _ _ _ _ _ _ _ ⟨v,hv,.inl ⟨.inl rfl,rfl,rfl,_,rfl⟩⟩ a1 a3)⟩
 ·refine Aa rfl (.mk t1 (by lia) λx2 c2 t2 r h0 h1=>⟨lX h0 h1,?_⟩)
  obtain ⟨a,ha,a1,a3⟩:=fD h0 h1
  exact ⟨a,ha,Aa rfl (t _ _ (t2.up (by lia)) 1 _ _ _ _ _ _ _ _ ⟨v,hv,.inr (.inl ⟨rfl,rfl,rfl,rfl⟩)⟩ a1 a3)⟩
 ·refine Aa rfl (.mk t1 (by lia) λx2 c2 t2 a1 a2 a3 a4 a5 a6 ay hS=>Aa rfl ⟨v,ic hv,Aa rfl (.mk t2 (by lia) λx3 c3 t3 r h0 h1=>⟨lX h0 h1,?_⟩)⟩)
  obtain ⟨a,ha,b1,b3⟩:=fD h0 h1
  exact ⟨a,ha,Aa rfl (t _ _ (t3.up (by lia)) 2 _ _ _ _ _ _ _ _ ⟨v,hv,.inr (.inr (.inl ⟨rfl,rfl,⟨_,_,_,_,_,_,_,_,_,⟨a1,a2,a3,a4,a5,a6⟩⟩,_,_,hS.qo,rfl,rfl⟩))⟩ b1 b3)⟩
 ·refine Aa rfl ⟨v,ic hv,Aa rfl (.mk t1 (by lia) λx2 c2 t2 r h0 h1=>⟨lX h0 h1,?_⟩)⟩
  obtain ⟨a,ha,a1,a3⟩:=fD h0 h1
  exact ⟨a,ha,Aa rfl (t _ _ (t2.up (by lia)) 3 _ _ _ _ _ _ _ _ ⟨v,hv,.inr (.inr (.inr ⟨rfl,rfl,rfl,_,_,rfl⟩))⟩ a1 a3)⟩
 ·refine Aa rfl ⟨v,ic hv,Aa rfl (.mk t1 (by lia) λx2 c2 t2 r h0 h1=>⟨lX h0 h1,?_⟩)⟩
  obtain ⟨a,ha,a1,a3⟩:=fD h0 h1
  exact ⟨a,ha,Aa rfl (t _ _ (t2.up (by lia)) 4 _ _ _ _ _ _ _ _ ⟨v,hv,.inl ⟨.inr rfl,rfl,rfl,_,rfl⟩⟩ a1 a3)⟩
noncomputable def pS:Str:=Str.mk (Array.mk [111,119,110])
noncomputable def agW:Str:=Str.mk (Array.mk [116,117,114,110])
def pSt (κ:Ky)(kc aM:Nat)(ex:List (Str×AV))(tx:List FV)(tc:Int)(k5:Nat)(aH:FV)(m:Sp)(bg pt:FV)(ae:List Ab)(aa:Nat):St:=
 ⟨(b7,.own 1 κ.e)::(pS,.own 14 aM)::ex,[(yW,300,kc)],[(300,kc,.cell (some (.own 12 κ.a)))],gl κ tx tc k5 [] 0 false aH (.list []) (cy m) bg pt (ae.map Ab.fv) [(14,aM,.list (ae.map Ab.fv))],aa⟩
def Ab.iZ (B:Int):Ab→Prop
 |.m x y=>In B x∧In B y
 |.l x y=>In B x∧In B y
 |.c x1 y1 x2 y2 x3 y3=>In B x1∧In B y1∧In B x2∧In B y2∧In B x3∧In B y3
 |.z=>True
structure AJ (b i:Nat)(tx:List FV)(tc:Int)(b0 b1:Int)(ae:List Ab):Prop where
 aqQ:Af (b+8*i) tx tc
 iZ:∀r∈ae,r.iZ 20000000
 kq:aO ae=.m b0 b1
 head:∃x y r,ae=.m x y::r
 len:2*ae.length+(match bq ae with|true=>1|false=>0)+1≤3*i
structure DP where
 (κ:Ky) (kc aM:Nat) (tx:List FV) (tc:Int) (k5:Nat) (aH:FV) (m:Sp) (b aa N:Nat)
abbrev DP.s0 (π:DP):St:=pSt π.κ π.kc π.aM [] π.tx π.tc π.k5 π.aH π.m .none .none [] π.aa
abbrev DP.s (π:DP)(e1 e2 e3:AV)(tx:List FV)(tc:Int)(k5:Nat)(aH:FV)(b0 b1 p0 p1:Int)(ae:List Ab)(aa:Nat):St:=pSt π.κ π.kc π.aM [(agW,e1),(eg,e2),(gs,e3)] tx tc k5 aH π.m (.az [.int b0,.int b1]) (.az [.int p0,.int p1]) ae aa
def DP.Kn (π:DP)(K':KF)(i:Nat):Prop:=∀(e1 e2 e3:AV) (tx:List FV) (tc:Int) (k5:Nat) (aH:FV) (b0 b1 p0 p1:Int) (ae:List Ab) (aa:Nat),AJ π.b i tx tc b0 b1 ae→K' .next (π.s e1 e2 e3 tx tc k5 aH b0 b1 p0 p1 ae aa)
def pU:AX:=λaA aV items S K X=>∃π:DP,S=π.s0∧items=(List.range π.N).map (λi=>.fr (.int (Int.ofNat i)))∧π.N≤7∧Af π.b π.tx π.tc∧(∀S,aV S)∧
 (∀(K':KF) (X':KX),π.Kn K' 1→aA (.fr (.int 0)) π.s0 K' X')∧
 (∀(i:Nat) e1 e2 e3 tx tc k5 aH b0 b1 p0 p1 ae aa (K':KF) (X':KX),i<6→AJ π.b (i+1) tx tc b0 b1 ae→π.Kn K' (i+2)→
  aA (.fr (.int (Int.ofNat (i+1)))) (π.s e1 e2 e3 tx tc k5 aH b0 b1 p0 p1 ae aa) K' X')∧
 K .next π.s0∧
 π.Kn K π.N
theorem pV:AK pU:=by
 intro aA aV items S K X h
 refine h.elim λπ H=>?_
 have eS:=H.1
 have eI:=H.2.1
 have hN:=H.2.2.1
 have hc:=H.2.2.2.2.1
 have h1:=H.2.2.2.2.2.1
 have h2:=H.2.2.2.2.2.2.1
 have hK0:=H.2.2.2.2.2.2.2.1
 have hK:=H.2.2.2.2.2.2.2.2
 clear H h
 subst eS eI
 have pW:∀(l:List Nat) (i:Nat) e1 e2 e3 tx tc k5 aH b0 b1 p0 p1 ae aa,l=List.range' i (π.N-i)→i≤π.N→1≤i→AJ π.b i tx tc b0 b1 ae→
   ee aV aA (l.map λi=>.fr (.int (Int.ofNat i))) (π.s e1 e2 e3 tx tc k5 aH b0 b1 p0 p1 ae aa) K X:=by
  intro l
  induction l with
  |nil=>
   intro i e1 e2 e3 tx tc k5 aH b0 b1 p0 p1 ae aa hl hi h1i wG
   have:π.N-i=0:=by
    have:=congrArg List.length hl
    simpa using this.symm
   have:i=π.N:=by lia
   subst this
   exact ⟨hc _,hK _ _ _ _ _ _ _ _ _ _ _ _ _ wG⟩
  |cons a l ih=>
   intro i e1 e2 e3 tx tc k5 aH b0 b1 p0 p1 ae aa hl hi h1i wG
   have iD:(π.N-i)≠0:=by
    intro h0
    rw [h0] at hl
    cases hl
   obtain ⟨j,hj⟩:=Nat.exists_eq_succ_of_ne_zero iD
   rw [hj,List.range'_succ] at hl
   injection hl with ha hl
   subst ha
   obtain ⟨a,rfl⟩:∃a',a=a'+1:=⟨a-1,by lia⟩
   refine ⟨hc _,h2 a e1 e2 e3 tx tc k5 aH b0 b1 p0 p1 ae aa _ _ (by lia) wG λe1 e2 e3 tx tc k5 aH b0 b1 p0 p1 ae aa wG=>?_⟩
   exact ih (a+1+1) e1 e2 e3 tx tc k5 aH b0 b1 p0 p1 ae aa (by rw [hl]; congr 1; lia) (by lia) (by lia) wG
 cases hn:π.N with
 |zero=>exact ⟨hc _,hK0⟩
 |succ N=>
  rw [List.range_eq_range',List.range'_succ,List.map_cons]
  refine ⟨hc _,h1 _ _ λe1 e2 e3 tx tc k5 aH b0 b1 p0 p1 ae aa wG=>?_⟩
  exact pW (List.range' 1 N) 1 e1 e2 e3 tx tc k5 aH b0 b1 p0 p1 ae aa (by rw [hn]; rfl) (by lia) (Nat.le_refl _) wG
def akO (p:Pos):AX:=match Nat.beq p.line 899 with
 |true=>pU
 |false=>dr p
theorem ad5 (p:Pos):AK (akO p):=by
 unfold akO
 split
 ·exact pV
 ·exact bo p
abbrev cf7 (w:World)(h:Heap):Cf:=cf w h (du E3) akO fC j3 iM
theorem akP {w:World}{h:Heap}(Y:YL w h):AB (cf7 w h) 22:=cq Y cw ad5 cI cu (AU Y).f6
section
def pT (π:DP)(L:List Tv)(xs:List FV)(c:Int)(F:List FV→Int→Int→Prop):Prop:=Q L (Q [.k π.kc,.k π.κ.a,.j 0 17,.i 17 1000000] (As 1000000000 1 xs c λxs c=>∀(r:Int),0≤r→r<17→Sm (r-8)∧F xs c ((r-8)*250000)))
def pB (π:DP)(L:List Tv)(v w:Int)(G:Prop):Prop:=Q L (AL π.m∧Av v∧Av w∧G)
def pO (π:DP)(L:List Tv)(v w:Int)(k:Nat)(G:Prop):Prop:=pB π L v w (Q [.k k] (an (π.m.on v w).fst≤1000000000000000000000∧an (π.m.on v w).snd≤1000000000000000000000∧G))
def pM (ae:List Ab)(F:List Ab→Int→Int→Prop):Prop:=∃r1,List.map Ab.fv ae=List.map Ab.fv r1∧r1.length≤1000∧∀(p0 p1:Int),F r1 p0 p1
def pL (ae:List Ab)(b0 b1 p0 p1:Int)(F:Int→Int→List Ab→Int→Int→Prop):Prop:=∃c0 c1 d0 d1 r1,FV.az [.int b0,.int b1]=.az [.int c0,.int c1]∧FV.az [.int p0,.int p1]=.az [.int d0,.int d1]∧List.map Ab.fv ae=List.map Ab.fv r1∧r1.length≤1000∧r1≠[]∧aO r1=Ab.m c0 c1∧∀(p0 p1:Int),F c0 c1 r1 p0 p1
def pE (K':KF)(ae:List Ab)(S:List Ab→St):Prop:=∃r2 b0 b1,List.map Ab.fv ae=List.map Ab.fv r2∧r2.length≤1000∧(bq r2=true→aO r2=Ab.m b0 b1)∧K' .next (S r2)
def pX (π:DP)(aA:Int)(u:Str)(vs:List FV)(xs:List FV)(c:Int)(k5:Nat)(aH:FV)(b0 b1 p0 p1:Int)(r1 r2:List Ab)(row:Ab)(aa:Nat):St:=St.mk [(b7,.own 1 π.κ.e),(pS,.own 14 π.aM),(agW,.fr (.int aA)),(eg,.fr (.str u)),(gs,.fr (.fl vs))] [(yW,300,π.kc)] [(300,π.kc,.cell (some (.own 12 π.κ.a)))] (gl π.κ xs c k5 [] 0 false aH (.list []) (cy π.m) (.az [.int b0,.int b1]) (.az [.int p0,.int p1]) (List.map Ab.fv (aX r1 row)) [(14,π.aM,.list (List.map Ab.fv (aX r2 row)))]) aa
noncomputable def pQ2 (π:DP)(aa k5:Nat):List Tv:=[.s 250000,.tt,.y π.κ 0x2345,.l 2 100000,.tt,.z aa 0x1212121212,.tt,.z aa 0x3434343434,.tt,.y π.κ 0x23,.k k5,.l 2 200,.y π.κ 0x45,.z aa 0x5656565656,.y π.κ 0x2323454545,.k k5,.l 2 1000000,.y π.κ 0x645,.l 0 1000000,.y π.κ 0x4545,.s 2,.s 1,.y π.κ 0x232345,.k k5,.l 2 1000000,.s 2,.s 1,.y π.κ 0x232345,.k k5,.l 2 1000000,.y π.κ 0x2323,.k k5,.l 2 1000000,.k k5,.l 2 1000000,.i 0 0,.l 2 100000,.tt,.tt,.tt,.y π.κ 0x23232345,.k k5,.l 2 1000000,.y π.κ 0x2323,.k k5,.l 2 1000000,.k k5,.l 2 1000000,.i 0 0,.y π.κ 0x2323,.k k5,.l 2 1000000,.y π.κ 0x23,.k k5,.l 2 1000000,.i 0 0,.y π.κ 0x23,.s 2,.s 1,.n 2,.s 2,.bb,.n 2,.tt,.y π.κ 0x7845]
noncomputable def pQ3 (π:DP)(n:Nat):List Tv:=[.y π.κ 0x4545,.l n 1000000,.l (n+1) 1000000,.y π.κ 0x7845,.l (n+1) 1000000,.n 2,.s 2,.bb,.n 2,.tt]
noncomputable def pQ4 (k n:Nat):List Tv:=[.k k,.l 2 1000000,.k k,.l n 1000000,.tt]
def pTM (π:DP)(K':KF)(aA:Int)(xs:List FV)(c:Int)(aa k5:Nat)(ae:List Ab):Prop:=
 pT π [.bb,.n 1,.l 2 100000,.tt] xs c λxs c v=>pT π [.s 250000,.tt] xs c λxs c w=>pO π (pQ2 π aa k5) v w (aa+7) (Q [.z aa 0x88,.l 0 1000000,.tt,.k (aa+7),.y π.κ 0xb9a9a7845] (pM ae λr1 p0 p1=>pB π (pQ3 π 2) v w (Q (pQ4 (aa+8) 2) (Q [.k (aa+8),.k π.aM] (pE K' ae λr2=>pX π aA aW [.int v,.int w] xs c (aa+6) (dI (aa+5) #[109,111,118,101,116,111]) (π.m.on v w).fst (π.m.on v w).snd p0 p1 r1 r2 (.m (π.m.on v w).fst (π.m.on v w).snd) (aa+9))))))
def pTL (π:DP)(K':KF)(aA:Int)(xs:List FV)(c:Int)(aa k5:Nat)(b0 b1 p0 p1:Int)(ae:List Ab):Prop:=
 pT π [.bb,.n 1,.l 2 100000,.tt] xs c λxs c v=>pT π [.s 250000,.tt] xs c λxs c w=>pO π (pQ2 π aa k5) v w (aa+7) (Q [.z aa 0x88,.l 0 1000000,.tt,.k (aa+7),.y π.κ 0xb9a9a7845] (pL ae b0 b1 p0 p1 λb0 b1 r1 p0 p1=>pB π (pQ3 π 2) v w (Q (pQ4 (aa+8) 2) (Q [.k (aa+8),.k π.aM] (pE K' ae λr2=>pX π aA bM [.int v,.int w] xs c (aa+6) (dI (aa+5) #[108,105,110,101,116,111]) b0 b1 p0 p1 r1 r2 (.l (π.m.on v w).fst (π.m.on v w).snd) (aa+9))))))
def pTC (π:DP)(K':KF)(aA:Int)(xs:List FV)(c:Int)(aa k5:Nat)(b0 b1 p0 p1:Int)(ae:List Ab):Prop:=
 pT π [.bb,.n 1,.l 6 100000,.tt] xs c λxs c v=>pT π [.s 250000,.tt] xs c λxs c w=>pT π [.s 250000,.tt] xs c λxs c v2=>pT π [.s 250000,.tt] xs c λxs c w2=>pT π [.s 250000,.tt] xs c λxs c v3=>pT π [.s 250000,.tt] xs c λxs c w3=>pO π [.s 250000,.tt,.y π.κ 0x2345,.l 6 100000,.tt,.z aa 0x1212121212,.tt,.z aa 0x3434343434,.tt,.z aa 0x5656565656,.tt,.z aa 0x7878787878,.tt,.z aa 0x9a9a9a9a9a,.tt,.z aa 0xbcbcbcbcbc,.tt,.y π.κ 0x23,.k k5,.l 6 200,.y π.κ 0x45,.z aa 0xdedededede,.y π.κ 0x2323454545,.k k5,.l 6 1000000,.y π.κ 0x645,.l 0 1000000,.y π.κ 0x4545,.s 2,.s 3,.y π.κ 0x232345,.k k5,.l 6 1000000,.s 2,.s 3,.y π.κ 0x232345,.k k5,.l 6 1000000,.y π.κ 0x2323,.k k5,.l 6 1000000,.k k5,.l 6 1000000,.i 0 0,.l 6 100000,.tt,.tt,.tt,.tt,.tt,.tt,.tt,.y π.κ 0x23232345,.k k5,.l 6 1000000,.y π.κ 0x2323,.k k5,.l 6 1000000,.k k5,.l 6 1000000,.i 0 0,.y π.κ 0x2323,.k k5,.l 6 1000000,.y π.κ 0x23,.k k5,.l 6 1000000,.i 0 0,.y π.κ 0x23,.s 2,.s 3,.n 2,.s 2,.bb,.n 2,.tt,.y π.κ 0x7845] v w (aa+15) (pO π [.k (aa+15),.k (aa+15),.l 0 1000000,.tt,.y π.κ 0x7845] v2 w2 (aa+15) (pO π [.k (aa+15),.k (aa+15),.l 1 1000000,.tt,.y π.κ 0x7845] v3 w3 (aa+15) (Q [.k (aa+15),.k (aa+15),.l 2 1000000,.tt,.k (aa+15),.y π.κ 0xb9a9a7845] (pL ae b0 b1 p0 p1 λb0 b1 r1 p0 p1=>pB π (pQ3 π 6) v w (pB π (pQ4 (aa+16) 2) v2 w2 (pB π (pQ4 (aa+16) 4) v3 w3 (Q (pQ4 (aa+16) 6) (Q [.k (aa+16),.k π.aM] (pE K' ae λr2=>pX π aA bN [.int v,.int w,.int v2,.int w2,.int v3,.int w3] xs c (aa+14) (dI (aa+13) #[99,117,114,118,101,116,111]) b0 b1 p0 p1 r1 r2 (.c (π.m.on v w).fst (π.m.on v w).snd (π.m.on v2 w2).fst (π.m.on v2 w2).snd (π.m.on v3 w3).fst (π.m.on v3 w3).snd) (aa+17))))))))))
def pTZ (π:DP)(K':KF)(aA:Int)(xs:List FV)(c:Int)(aa k5:Nat)(b0 b1 p0 p1:Int)(ae:List Ab):Prop:=
 Q [.bb,.n 1,.l 0 100000,.tt,.y π.κ 0x2345,.l 0 100000,.tt,.y π.κ 0x23,.k k5,.l 0 200,.y π.κ 0x45,.z aa 0x1212121212,.y π.κ 0x2323454545,.k k5,.l 0 1000000,.y π.κ 0x645,.l 0 1000000,.y π.κ 0xb9a9a78454545] (pL ae b0 b1 p0 p1 λb0 b1 r1 p0 p1=>Q (pQ3 π 0) (Q [.k (aa+2),.k π.aM] (pE K' ae λr2=>pX π aA bk [] xs c k5 (dI (aa+1) #[99,108,111,115,101,112,97,116,104]) b0 b1 p0 p1 r1 r2 .z (aa+3))))
end
section
variable (w:World) (h:Heap) (n:Nat) (aa:Nat) (loc:List (Str×AV)) (ai:List (Str×Nat×Nat)) (am:OL) (K:KE) (X:KX)
theorem akQ (κ:Ky)(tx:List FV)(tc:Int)(k5:Nat)(aH:FV)(m:Sp):ao (cf7 w h) (n+12) true (.fr (.lit (.ref 1484))) [.own 1 κ.e,.own 12 κ.a] ⟨loc,ai,am,gl κ tx tc k5 [] 0 false aH (.list []) (cy m) .none .none [] [],aa⟩ K X=
 (Q [.k aa,.k κ.a,.j 0 8,.i 8 1000000] (As 1000000000 1 tx tc λxs c=>∀(r:Int),0≤r→r<8→Builtin.Range.small 0 (7-r) 1=true∧Q [.n 1] (∃(π:DP),St.mk [(b7,.own 1 κ.e),(pS,.own 14 (aa+1))] [(yW,300,aa)] [(300,aa,.cell (some (.own 12 κ.a)))] (gl κ xs c k5 [] 0 false aH (.list []) (cy m) .none .none [] [(14,aa+1,.list [])]) (aa+2)=π.s0∧List.map (λi=>AV.fr (.int i)) (iE 0 (7-r) 1)=List.map (λ(i:Nat)=>AV.fr (FV.int (Int.ofNat i))) (List.range π.N)∧π.N≤7∧Af π.b π.tx π.tc∧(St→True)∧(∀(K':KF),KX→π.Kn K' 1→pTM π K' 0 π.tx π.tc π.aa π.k5 [])∧(∀(i:Nat) (e1 e2 e3:AV) (tx:List FV) (tc:Int) (k5:Nat) (aH:FV) (b0 b1 p0 p1:Int) (ae:List Ab) (aa:Nat) (K':KF),KX→i<6→AJ π.b (i+1) tx tc b0 b1 ae→π.Kn K' (i+2)→Q [.k π.kc,.k π.κ.a] (As 1000000000 1 tx tc λxs c=>pTM π K' (Int.ofNat (i+1)) xs c aa k5 ae∧pTL π K' (Int.ofNat (i+1)) xs c aa k5 b0 b1 p0 p1 ae∧pTC π K' (Int.ofNat (i+1)) xs c aa k5 b0 b1 p0 p1 ae∧pTZ π K' (Int.ofNat (i+1)) xs c aa k5 b0 b1 p0 p1 ae))∧K (.own 14 π.aM) (St.mk loc ai am (gl π.κ π.tx π.tc π.k5 [] 0 false π.aH (.list []) (cy π.m) .none .none [] [(14,π.aM,.list [])]) π.aa)∧∀(e1 e2 e3:AV) (tx:List FV) (tc:Int) (k5:Nat) (aH:FV) (b0 b1 p0 p1:Int) (ae:List Ab) (aa:Nat),AJ π.b π.N tx tc b0 b1 ae→K (.own 14 π.aM) (St.mk loc ai am (gl π.κ tx tc k5 [] 0 false aH (.list []) (cy π.m) (.az [.int b0,.int b1]) (.az [.int p0,.int p1]) (List.map Ab.fv ae) [(14,π.aM,.list (List.map Ab.fv ae))]) aa)))):=by kernel_rfl
end
theorem uC (l:List Ab)(x y:Int):aO (l++[.m x y])=.m x y:=by
 unfold aO
 rw [List.filter_append]
 simp [Ab.il,List.filter]
theorem ku (l:List Ab){r:Ab}(h:r.il=false):aO (l++[r])=aO l:=by
 unfold aO
 rw [List.filter_append]
 simp [List.filter,h]
theorem cG {ae:List Ab}{r:Ab}{b0 b1:Int}(h:aO ae=.m b0 b1)(hr:r.il=false):aO (aX ae r)=.m b0 b1:=by
 have go:∀r:Ab,r.il=false→aO (match bq ae with|true=>ae++[aO ae]++[r]|false=>ae++[r])=.m b0 b1:=λr hr=>by
  cases bq ae with
  |true=>
   show aO (ae++[aO ae]++[r])=_
   rw [ku _ hr,h,uC]
  |false=>
   show aO (ae++[r])=_
   rw [ku _ hr,h]
 cases r with
 |m x y=>cases hr
 |l x y=>exact go _ rfl
 |c x1 y1 x2 y2 x3 y3=>exact go _ rfl
 |z=>
  unfold aX
  dsimp only
  split
  ·exact h
  ·exact h
  ·rw [ku _ rfl,h]
theorem eJ (ae:List Ab)(x y:Int):aO (aX ae (.m x y))=.m x y:=by
 unfold aX
 exact uC _ x y
def zN (ae:List Ab):Nat:=match bq ae with
 |true=>1
 |false=>0
theorem wt (l:List Ab)(r:Ab):bq (l++[r])=r.lV:=by
 unfold bq
 simp only [List.getLast?_concat]
theorem fO (ae:List Ab)(r:Ab):(∃l,aX ae r=l++[r]∧(l=ae∨l=ae.dropLast∧r.il=true)∧(bq ae=true→r.il=true))∨(aX ae r=ae++[aO ae]++[r]∧bq ae=true∧r.il=false∧r.lV=false)∨(aX ae r=ae∧r=.z∧(ae=[]∨bq ae=true)):=by
 have go:∀r:Ab,r.il=false→r.lV=false→aX ae r=(match bq ae with|true=>ae++[aO ae]++[r]|false=>ae++[r])→(∃l,aX ae r=l++[r]∧(l=ae∨l=ae.dropLast∧r.il=true)∧(bq ae=true→r.il=true))∨(aX ae r=ae++[aO ae]++[r]∧bq ae=true∧r.il=false∧r.lV=false)∨(aX ae r=ae∧r=.z∧(ae=[]∨bq ae=true)):=λr h1 h2 e=>by
  cases hz:bq ae with
  |true=>rw [hz] at e; exact .inr (.inl ⟨e,rfl,h1,h2⟩)
  |false=>rw [hz] at e; exact .inl ⟨ae,e,.inl rfl,λh=>by cases h⟩
 cases r with
 |m x y=>
  left
  unfold aX
  dsimp only
  split
  ·exact ⟨_,rfl,.inr ⟨rfl,rfl⟩,λ_=>rfl⟩
  ·exact ⟨_,rfl,.inl rfl,λ_=>rfl⟩
 |l x y=>exact go _ rfl rfl rfl
 |c x1 y1 x2 y2 x3 y3=>exact go _ rfl rfl rfl
 |z=>
  unfold aX
  dsimp only
  split
  ·rename_i h
   exact .inr (.inr ⟨rfl,rfl,.inl (List.getLast?_eq_none_iff.mp h)⟩)
  ·rename_i h
   exact .inr (.inr ⟨rfl,rfl,.inr (by unfold bq; rw [h]; rfl)⟩)
  ·rename_i h1 h2
   refine .inl ⟨ae,rfl,.inl rfl,λh=>?_⟩
   unfold bq at h
   split at h
   ·rename_i r hr
    cases r with
    |z=>exact absurd hr h2
    |m _ _=>cases h
    |l _ _=>cases h
    |c _ _ _ _ _ _=>cases h
   ·cases h
theorem uD (ae:List Ab)(r:Ab):2*(aX ae r).length+zN (aX ae r)≤2*ae.length+zN ae+3:=by
 have z1:∀l:List Ab,zN l≤1:=λl=>by unfold zN; split <;> lia
 rcases fO ae r with ⟨l,e,hl,_⟩|⟨e,hz,_,h2⟩|⟨e,_,_⟩
 ·rw [e,List.length_append,List.length_singleton]
  have hl:l.length≤ae.length:=by
   rcases hl with rfl|⟨rfl,_⟩
   ·exact Nat.le_refl _
   ·rw [List.length_dropLast]; lia
  have:=z1 (l++[r])
  lia
 ·have:zN (aX ae r)=0:=by unfold zN; rw [e,wt,h2]
  have hz':zN ae=1:=by unfold zN; rw [hz]
  rw [this,hz',e,List.length_append,List.length_append]
  simp
  lia
 ·rw [e]; lia
theorem m9 {B:Int}{ae:List Ab}{r:Ab}(h:∀q∈ae,q.iZ B)(hr:r.iZ B):∀q∈aX ae r,q.iZ B:=by
 intro q hq
 have hM:(aO ae).iZ B:=by
  unfold aO
  cases hl:(ae.filter Ab.il).getLast? with
  |none=>trivial
  |some p=>exact h _ (List.mem_filter.mp (List.mem_of_getLast? hl)).1
 rcases fO ae r with ⟨l,e,hl,_⟩|⟨e,_⟩|⟨e,_⟩
 ·rw [e] at hq
  rcases List.mem_append.mp hq with hq|hq
  ·rcases hl with rfl|⟨rfl,_⟩
   ·exact h _ hq
   ·exact h _ ((List.dropLast_sublist ae).subset hq)
  ·rw [List.mem_singleton] at hq; exact hq▸hr
 ·rw [e] at hq
  rcases List.mem_append.mp hq with hq|hq
  ·rcases List.mem_append.mp hq with hq|hq
   ·exact h _ hq
   ·rw [List.mem_singleton] at hq; exact hq▸hM
  ·rw [List.mem_singleton] at hq; exact hq▸hr
 ·rw [e] at hq; exact h _ hq
theorem pY {ae:List Ab}{r:Ab}(h:∃x y q,ae=.m x y::q):∃x y q,aX ae r=.m x y::q:=by
 obtain ⟨x,y,q,rfl⟩:=h
 rcases fO (.m x y::q) r with ⟨l,e,hl,_⟩|⟨e,_⟩|⟨e,_⟩
 ·rw [e]
  rcases hl with rfl|⟨rfl,hr⟩
  ·exact ⟨x,y,_,rfl⟩
  ·cases q with
   |nil=>
    cases r with
    |m a b=>exact ⟨a,b,_,rfl⟩
    |l _ _=>cases hr
    |c _ _ _ _ _ _=>cases hr
    |z=>cases hr
   |cons a q=>exact ⟨x,y,_,rfl⟩
 ·rw [e]; exact ⟨x,y,_,rfl⟩
 ·rw [e]; exact ⟨x,y,_,rfl⟩
theorem AJ.akR {b i:Nat}{tx pZ:List FV}{tc p5 b0 b1 x y:Int}{ae:List Ab}(v:AJ b (i+1) tx tc b0 b1 ae)(h:In 20000000 x∧In 20000000 y)(tv:Af (b+8*(i+2)) pZ p5):AJ b (i+2) pZ p5 x y (aX ae (.m x y)):=
 ⟨tv,m9 v.iZ h,eJ _ _ _,pY v.head,by
  have:=uD ae (.m x y)
  have h1:2*ae.length+zN ae+1≤3*(i+1):=v.len
  show 2*(aX ae (.m x y)).length+zN (aX ae (.m x y))+1≤3*(i+2)
  lia⟩
theorem AJ.sT {b i:Nat}{tx pZ:List FV}{tc p5 b0 b1:Int}{ae:List Ab}{r:Ab}(v:AJ b (i+1) tx tc b0 b1 ae)(hm:r.il=false)(h:r.iZ 20000000)(tv:Af (b+8*(i+2)) pZ p5):AJ b (i+2) pZ p5 b0 b1 (aX ae r):=
 ⟨tv,m9 v.iZ h,cG v.kq hm,pY v.head,by
  have:=uD ae r
  have h1:2*ae.length+zN ae+1≤3*(i+1):=v.len
  show 2*(aX ae r).length+zN (aX ae r)+1≤3*(i+2)
  lia⟩
theorem AJ.one {b:Nat}{tx:List FV}{tc x y:Int}(h:In 20000000 x∧In 20000000 y)(tv:Af (b+8*1) tx tc):AJ b 1 tx tc x y (aX [] (.m x y)):=
 ⟨tv,m9 (λq h=>nomatch h) h,eJ _ _ _,⟨x,y,[],rfl⟩,Nat.le_refl 3⟩
structure Ax (bg pt:FV)(ae:List Ab):Prop where
 st:(ae=[]∧bg=.none∧pt=.none)∨∃b0 b1 p0 p1,bg=.az [.int b0,.int b1]∧pt=.az [.int p0,.int p1]∧aO ae=.m b0 b1∧∃x y r,ae=.m x y::r
 iZ:∀r∈ae,r.iZ 20000000
 len:ae.length≤10
structure PG where
 (kl:Nat) (tx:List FV) (tc:Int) (k5:Nat) (aH:FV) (m:Sp) (gr:Int) (b:Nat)
def uE:CT:=λargs S K _=>∃p:PG,args=[.own 1 (eq S.af p.kl).e,.own 12 (eq S.af p.kl).a]∧S.af=gl (eq S.af p.kl) p.tx p.tc p.k5 [] 0 false p.aH (.list []) (cy p.m) .none .none [] []∧250000≤p.gr∧p.gr≤1000000∧Br p.gr p.m∧p.b<100000000∧Af p.b p.tx p.tc∧
 ∀pZ p5 jf ky bg pt ae ay aM,Ax bg pt ae→Af (p.b+100) pZ p5→K (.own 14 aM) ⟨S.loc,S.ai,S.am,gl (eq S.af p.kl) pZ p5 jf [] 0 false ky (.list []) (cy p.m) bg pt (ae.map Ab.fv) [(14,aM,.list (ae.map Ab.fv))],ay⟩
theorem AJ.ok {b i:Nat}{tx:List FV}{tc b0 b1 p0 p1:Int}{ae:List Ab}(v:AJ b i tx tc b0 b1 ae)(hi:i≤7):Ax (.az [.int b0,.int b1]) (.az [.int p0,.int p1]) ae:=
 ⟨.inr ⟨b0,b1,p0,p1,rfl,rfl,v.kq,v.head⟩,v.iZ,by have:=v.len; lia⟩
theorem aqR {gr:Int}{m:Sp}(h:Br gr m)(g1:250000≤gr)(g2:gr≤1000000):AL m:=(h.spK g1 g2).b (by decide)
theorem aqS {r:Int}(h0:0≤r)(h1:r<17):Av ((r-8)*250000):=⟨by lia,by lia⟩
theorem avg {r:Int}(h0:0≤r)(h1:r<17):In 2000000 ((r-8)*250000):=⟨by lia,by lia⟩
theorem avh {r:Int}(h0:0≤r)(h1:r<17):Sm (r-8):=hZ (by lia)
theorem eK {B x:Int}(h:In B x)(hB:B≤1000000000000000000000):an x≤1000000000000000000000:=by
 rw [aS]; unfold In at h; lia
theorem akS {r:Int}(h0:0≤r)(h1:r<8):Builtin.Range.small 0 (7-r) 1=true∧iE 0 (7-r) 1=(List.range (7-r).toNat).map λi=>Int.ofNat i:=by
 have:r=0∨r=1∨r=2∨r=3∨r=4∨r=5∨r=6∨r=7:=by lia
 rcases this with rfl|rfl|rfl|rfl|rfl|rfl|rfl|rfl <;> exact ⟨rfl,rfl⟩
structure Dr (v:Int):Prop where
 b:Av v
 i:In 2000000 v
def On (π:DP):Prop:=AL π.m∧∀x y,In 2000000 x→In 2000000 y→In 20000000 (π.m.on x y).1∧In 20000000 (π.m.on x y).2
section
variable {π:DP} {K':KF} {i n b aa k5:Nat} {aA v w c:Int} {xs:List FV} {ae:List Ab} {b0 b1 p0 p1:Int} {L:List Tv} {G:Prop}
theorem On.in (h:On π)(hv:Dr v)(hw:Dr w):In 20000000 (π.m.on v w).1∧In 20000000 (π.m.on v w).2:=h.2 _ _ hv.i hw.i
theorem gb {F:List FV→Int→Int→Prop}(hL:L.all Tv.aV=true)(t:Af b xs c)(hb:b+(n+1)<1000000000)(h:∀xs c v,Af (b+1) xs c→(b+1)+n<1000000000→Dr v→F xs c v):pT π L xs c F:=
 Aa hL (Aa rfl (.mk t (by lia) λ_ _ t _ h0 h1=>⟨avh h0 h1,h _ _ _ t (by lia) ⟨aqS h0 h1,avg h0 h1⟩⟩))
theorem lY (hO:On π)(hL:L.all Tv.aV=true)(hv:Dr v)(hw:Dr w)(g:G):pB π L v w G:=Aa hL ⟨hO.1,hv.b,hw.b,g⟩
theorem p6 {k:Nat}(hO:On π)(hL:L.all Tv.aV=true)(hv:Dr v)(hw:Dr w)(g:G):pO π L v w k G:=
 lY hO hL hv hw (Aa rfl ⟨eK (hO.in hv hw).1 (by decide),eK (hO.in hv hw).2 (by decide),g⟩)
theorem uF {S:List Ab→St}(hl:ae.length≤1000)(kq:bq ae=true→aO ae=.m b0 b1)(k:K' .next (S ae)):pE K' ae S:=⟨ae,b0,b1,rfl,hl,kq,k⟩
theorem aa0 (hO:On π)(t:Af b xs c)(hb:b+2<1000000000)(hl:ae.length≤1000)(kq:bq ae=true→aO ae=.m b0 b1)(k:π.Kn K' i)(wG:∀{x y xs c},In 20000000 x∧In 20000000 y→Af (b+1+1) xs c→AJ π.b i xs c x y (aX ae (.m x y))):pTM π K' aA xs c aa k5 ae:=
 gb rfl t hb λ_ _ _ t hb hv=>gb rfl t hb λ_ _ _ t _ hw=>p6 hO rfl hv hw (Aa rfl ⟨ae,rfl,hl,λ_ _=>lY hO rfl hv hw (Aa rfl (Aa rfl (uF hl kq (k _ _ _ _ _ _ _ _ _ _ _ _ _ (wG (hO.in hv hw) t)))))⟩)
variable {tx:List FV} {tc:Int} (hO:On π) (j:AJ π.b (i+1) tx tc b0 b1 ae) (k:π.Kn K' (i+2)) (hl:ae.length≤1000) (hi:i<6) (hb:b≤π.b+8*(i+1)+1) (hN:b+6<1000000000) (t:Af b xs c)
include hO j k hl hi hb hN t
theorem aa1 {F:Int→Int→List Ab→Int→Int→Prop}(h:∀p0 p1,F b0 b1 ae p0 p1):pL ae b0 b1 p0 p1 F:=
 ⟨b0,b1,p0,p1,ae,rfl,rfl,rfl,hl,(by obtain ⟨x,y,q,e⟩:=j.head; rw [e]; exact List.cons_ne_nil _ _),j.kq,h⟩
theorem akT:pTL π K' aA xs c aa k5 b0 b1 p0 p1 ae:=
 gb rfl t hN λ_ _ _ t hb hv=>gb rfl t hb λ_ _ _ t _ hw=>p6 hO rfl hv hw (Aa rfl (aa1 hO j k hl hi ‹_› ‹_› ‹_› λ_ _=>lY hO rfl hv hw (Aa rfl (Aa rfl (uF hl (λ_=>j.kq) (k _ _ _ _ _ _ _ _ _ _ _ _ _ (j.sT rfl (hO.in hv hw) (t.up (by lia)))))))))
theorem akU:pTC π K' aA xs c aa k5 b0 b1 p0 p1 ae:=
 gb rfl t hN λ_ _ _ t hb hv=>gb rfl t hb λ_ _ _ t hb hw=>gb rfl t hb λ_ _ _ t hb hv2=>gb rfl t hb λ_ _ _ t hb hw2=>gb rfl t hb λ_ _ _ t hb hv3=>gb rfl t hb λ_ _ _ t _ hw3=>p6 hO rfl hv hw (p6 hO rfl hv2 hw2 (p6 hO rfl hv3 hw3 (Aa rfl (aa1 hO j k hl hi ‹_› ‹_› ‹_› λ_ _=>lY hO rfl hv hw (lY hO rfl hv2 hw2 (lY hO rfl hv3 hw3 (Aa rfl (Aa rfl (uF hl (λ_=>j.kq) (k _ _ _ _ _ _ _ _ _ _ _ _ _ (j.sT rfl ⟨(hO.in hv hw).1,(hO.in hv hw).2,(hO.in hv2 hw2).1,(hO.in hv2 hw2).2,hO.in hv3 hw3⟩ (t.up (by lia)))))))))))))
theorem akV:pTZ π K' aA xs c aa k5 b0 b1 p0 p1 ae:=
 Aa rfl (aa1 hO j k hl hi ‹_› ‹_› ‹_› λ_ _=>Aa rfl (Aa rfl (uF hl (λ_=>j.kq) (k _ _ _ _ _ _ _ _ _ _ _ _ _ (j.sT rfl trivial (t.up (by lia)))))))
end
theorem akW (w:World)(h:Heap)(n:Nat){args:List AV}{S:St}{K:KE}{X:KX}(t:uE args S K X):ao (cf7 w h) (n+12) true (.fr (.lit (.ref 1484))) args S K X:=by
 obtain ⟨p,rfl,e,g1,g2,hS,hb,tv,t⟩:=t
 obtain ⟨loc,ai,am,af,aa⟩:=S
 dsimp only at e t ⊢
 generalize eq af p.kl=κ at e t ⊢
 subst e
 rw [akQ]
 refine Aa rfl (.mk tv (by lia) λx1 c1 tv1 r r0 r1=>?_)
 obtain ⟨q1,q2⟩:=akS r0 r1
 have hn:(7-r).toNat≤7:=by lia
 have hO:On ⟨κ,aa,aa+1,x1,c1,p.k5,p.aH,p.m,p.b+1,aa+2,(7-r).toNat⟩:=⟨aqR hS g1 g2,λ_ _ hx hy=>hS.on g1 g2 hx hy⟩
 refine ⟨q1,Aa rfl ⟨_,rfl,by rw [q2,List.map_map]; rfl,hn,tv1,λ_=>trivial,λK' _ k=>aa0 hO tv1 (by lia) (Nat.zero_le _) (b0:=0) (b1:=0) (λh=>nomatch h) k λh t=>AJ.one h (t.up (by lia)),λi _ _ _ _ _ _ _ _ _ _ _ ae _ K' _ hi j k=>?_,t _ _ _ _ _ _ [] _ _ ⟨.inl ⟨rfl,rfl,rfl⟩,(λq h=>nomatch h),by decide⟩ (tv1.up (by lia)),λ_ _ _ _ _ _ _ _ _ _ _ ae _ wG=>t _ _ _ _ _ _ ae _ _ (wG.ok hn) (wG.aqQ.up (show p.b+1+8*(7-r).toNat≤p.b+100 by lia))⟩⟩
 have hl:ae.length≤1000:=by have:=j.len; lia
 have hN:p.b+1+8*(i+1)+1+6<1000000000:=by lia
 exact Aa rfl (.mk j.aqQ (Nat.lt_of_le_of_lt (Nat.le_add_right _ 7) hN) λ_ _ t0=>⟨aa0 hO t0 (by lia) hl (λ_=>j.kq) k λh t=>j.akR h (t.up (by lia)),akT hO j k hl hi (Nat.le_refl _) hN t0,akU hO j k hl hi (Nat.le_refl _) hN t0,akV hO j k hl hi (Nat.le_refl _) hN t0⟩)
def E7 (w:World)(h:Heap):List (Addr×CT):=(1484,uE)::(1497,agV)::(728,tGo w h)::E6 w h
theorem Bt {w:World}{h:Heap}(Y:YL w h):AN w h 68 (E7 w h):=
 .cons (λB=>(aC (akP Y) rfl rfl 12 (λ_ _ _ _ t=>akW w h 0 t) B).up 22) (.cons (λB=>(aC (akL Y) rfl rfl 9 (λ_ _ _ _ t=>akN w h 0 t) B).up 28) (.cons (λB=>aC (akJ Y) rfl rfl 3 (λ_ _ _ _ t=>avf w h 0 t) B) ((BP Y).up 6)))
section
noncomputable def bTC:Array UInt8:=#[116,121,112,101,99,104,101,99,107]
noncomputable def bIA:Array UInt8:=#[105,110,118,97,108,105,100,97,99,99,101,115,115]
noncomputable def bSU:Array UInt8:=#[115,116,97,99,107,117,110,100,101,114,102,108,111,119]
def BD (t:FV)(b:Array UInt8):Prop:=(∃c v,t=bQ c v∧b=bTC)∨(∃k a d c v,t=j9 k gW (ib a d [bQ c v] 1) false 3∧b=bTC)∨(∃p:Pv,t=bC p∧p.aJ≤0∧b=bIA)
def avi (xs:List FV)(S:St)(K:KE):Prop:=∃ys,(∃p,xs=ys++[bC p]∧K (.fr (bC p)) S)∨(∃c v,xs=ys++[bQ c v]∧K (.fr (bQ c v)) S)∨(∃k a d c v,xs=ys++[j9 k gW (ib a d [bQ c v] 1) false 3]∧K (.fr (j9 k gW (ib a d [bQ c v] 1) false 3)) S)
def aqT:CT:=λargs S K _=>oC args λa l=>oJ l λi l=>oE l (oB (decide (i=0)) (dR a S λxs up=>xs.length≤1000∧avi xs (up xs) K))
def agX:CT:=λargs S K _=>oC args λa l=>oE l (dR a S λxs up=>xs.length≤1000∧∃ys p,xs=ys++[bC p]∧K (.fr (bC p)) (up ys))
theorem akX {args:List AV}{S:St}{K:KE}{X:KX}(t:aqT args S K X):tAt args S K X:=
 bz t λa _ q=>bZ q λi _ q=>a0 q λq=>cA q λhi q=>(of_decide_eq_true hi:i=0)▸(zT ..).mpr (eH (λxs up q=>⟨q.1,by
  obtain ⟨_,ys,⟨p,k⟩|⟨c,v,k⟩|⟨k',a,d,c,v,k⟩⟩:=q <;> exact ⟨ys,_,k⟩⟩) q)
theorem ad6 {args:List AV}{S:St}{K:KE}{X:KX}(t:agX args S K X):sO args S K X:=
 bz t λa _ q=>a0 q λq=>(uA ..).mpr (eH (λxs up q=>⟨q.1,by
  obtain ⟨_,ys,p,k⟩:=q
  exact ⟨ys,_,k⟩⟩) q)
def Dc:List (Addr×CT):=(943,aqT)::(936,agX)::E3
theorem BZ {w:World}{h:Heap}(Y:YL w h):AN w h 34 Dc:=
 .cons ((A5 Y).kh (T:=tAt) (by unfold B8; exact .tail _ (.tail _ (.head _))) λ_ _ _ _ t=>akX t) (.cons ((A5 Y).kh (T:=sO) (by unfold B8; exact .tail _ (.tail _ (.tail _ (.head _)))) λ_ _ _ _ t=>ad6 t) ((AU Y).up 12))
abbrev akY (w:World)(h:Heap):Cf:=cf w h (du Dc) dr fC j3 iM
theorem ad7 {w:World}{h:Heap}(Y:YL w h):AB (akY w h) 34:=cq Y cw bo cI cu (BZ Y).f6
def tPP:CT:=λargs S K X=>oC args λa l=>oE l (uz a S λxs up=>xs.length≤200∧((∃ys p,xs=ys++[bC p]∧1≤p.aJ∧K (.fr (bC p)) (up ys))∨∃ys t b,xs=ys++[t]∧BD t b∧X (.bytes b) (up xs)))
end
section
variable (w:World) (h:Heap) (n:Nat) (aa:Nat) (loc:List (Str×AV)) (ai:List (Str×Nat×Nat)) (am g:OL) (S:St) (K:KE) (X:KX)
theorem avj (k0 k1 k2 k3 k4 k5:Nat)(o0:AO)(xs:List FV)(v1:AV)(mr:List (Str×AV)):ao (akY w h) (n+6) true (.fr (.lit (.ref 1048))) [.own 1 k1] ⟨loc,ai,am,qp k0 k1 k2 k3 k4 k5 o0 xs v1 mr g,aa⟩ K X=
 (Q [.k k1,.k k2,.k k3,.k k4,.k k3,.k k4,.k k5] (xs.length≤1000∧∃ys,(∃p,xs=ys++[bC p]∧iB (!decide (1≤p.aJ)) (X (.bytes bIA) (St.mk loc ai am (qp k0 k1 k2 k3 k4 k5 o0 xs v1 mr g) aa)) (Q [.k k1,.k k2,.k k3,.k k4,.k k3,.k k4,.k k5] (xs.length≤1000∧∃ys p,xs=ys++[bC p]∧K (.fr (bC p)) (St.mk loc ai am (qp k0 k1 k2 k3 k4 k5 o0 ys v1 mr g) aa))))∨(∃c v,xs=ys++[bQ c v]∧X (.bytes bTC) (St.mk loc ai am (qp k0 k1 k2 k3 k4 k5 o0 xs v1 mr g) aa))∨∃k a d c v,xs=ys++[j9 k gW (ib a d [bQ c v] 1) false 3]∧X (.bytes bTC) (St.mk loc ai am (qp k0 k1 k2 k3 k4 k5 o0 xs v1 mr g) aa))):=by kernel_rfl
end
section
variable (w:World) (h:Heap) (n:Nat) (aa:Nat) (loc:List (Str×AV)) (ai:List (Str×Nat×Nat)) (am g:OL) (S:St) (K:KE) (X:KX)
theorem p8 (u:Str)(m:Sp)(x y:Int):ao (wF w h) (n+4) true (.fr (.lit (.ref 1469))) [.fr (.az [.str u,.int x,.int y]),.fr (cy m),.fr (.lit (.ref 1455))] S K X=
 (Q [.l 3 1000000,.n 2,.s 2,.bb,.n 2,.tt] (AL m∧Av (x-m.e)∧Av (y-m.f)∧iB (decide (m.eV=0)) (K (.fr .none) (St.mk S.loc S.ai S.am S.af (S.aa+1))) (Q [.k S.aa,.l 2 1000000,.k S.aa,.l 2 1000000,.tt,.k S.aa] (K (.fr (.fl [.int (m.aq x y).fst,.int (m.aq x y).snd])) (St.mk S.loc S.ai S.am S.af (S.aa+1)))))):=by kernel_rfl
theorem aa2 (u:Str)(m:Sp)(x1 y1 x2 y2 x3 y3:Int):ao (wF w h) (n+4) true (.fr (.lit (.ref 1469))) [.fr (.az [.str u,.int x1,.int y1,.int x2,.int y2,.int x3,.int y3]),.fr (cy m),.fr (.lit (.ref 1455))] S K X=
 (Q [.l 7 1000000,.n 2,.s 2,.bb,.n 2,.tt] (AL m∧Av (x1-m.e)∧Av (y1-m.f)∧iB (decide (m.eV=0)) (K (.fr .none) (St.mk S.loc S.ai S.am S.af (S.aa+1))) (Q [.k S.aa,.l 2 1000000,.k S.aa,.l 2 1000000,.tt] (AL m∧Av (x2-m.e)∧Av (y2-m.f)∧iB (decide (m.eV=0)) (K (.fr .none) (St.mk S.loc S.ai S.am S.af (S.aa+1))) (Q [.k S.aa,.l 2 1000000,.k S.aa,.l 4 1000000,.tt] (AL m∧Av (x3-m.e)∧Av (y3-m.f)∧iB (decide (m.eV=0)) (K (.fr .none) (St.mk S.loc S.ai S.am S.af (S.aa+1))) (Q [.k S.aa,.l 2 1000000,.k S.aa,.l 6 1000000,.tt,.k S.aa] (K (.fr (.fl [.int (m.aq x1 y1).fst,.int (m.aq x1 y1).snd,.int (m.aq x2 y2).fst,.int (m.aq x2 y2).snd,.int (m.aq x3 y3).fst,.int (m.aq x3 y3).snd])) (St.mk S.loc S.ai S.am S.af (S.aa+1)))))))))):=by kernel_rfl
theorem uG (u:Str)(m:Sp)(f:Value):ao (wF w h) (n+4) true (.fr (.lit (.ref 1469))) [.fr (.az [.str u]),.fr (cy m),.fr (.lit f)] S K X=
 (Q [.l 1 1000000,.n 2,.s 2,.bb,.n 2,.tt,.k S.aa] (K (.fr (.fl [])) (St.mk S.loc S.ai S.am S.af (S.aa+1)))):=by kernel_rfl
theorem qa (u:Str)(m:Sp)(x y:Int):ao (wF w h) (n+4) true (.fr (.lit (.ref 1469))) [.fr (.az [.str u,.int x,.int y]),.fr (cy m),.fr (.lit (.ref 1448))] S K X=
 (Q [.l 3 1000000,.n 2,.s 2,.bb,.n 2,.tt] (AL m∧Av x∧Av y∧Q [.k S.aa,.l 2 1000000,.k S.aa,.l 2 1000000,.tt,.k S.aa] (K (.fr (.fl [.int (m.on x y).fst,.int (m.on x y).snd])) (St.mk S.loc S.ai S.am S.af (S.aa+1))))):=by kernel_rfl
theorem aa3 (u:Str)(m:Sp)(x1 y1 x2 y2 x3 y3:Int):ao (wF w h) (n+4) true (.fr (.lit (.ref 1469))) [.fr (.az [.str u,.int x1,.int y1,.int x2,.int y2,.int x3,.int y3]),.fr (cy m),.fr (.lit (.ref 1448))] S K X=
 (Q [.l 7 1000000,.n 2,.s 2,.bb,.n 2,.tt] (AL m∧Av x1∧Av y1∧Q [.k S.aa,.l 2 1000000,.k S.aa,.l 2 1000000,.tt] (AL m∧Av x2∧Av y2∧Q [.k S.aa,.l 2 1000000,.k S.aa,.l 4 1000000,.tt] (AL m∧Av x3∧Av y3∧Q [.k S.aa,.l 2 1000000,.k S.aa,.l 6 1000000,.tt,.k S.aa] (K (.fr (.fl [.int (m.on x1 y1).fst,.int (m.on x1 y1).snd,.int (m.on x2 y2).fst,.int (m.on x2 y2).snd,.int (m.on x3 y3).fst,.int (m.on x3 y3).snd])) (St.mk S.loc S.ai S.am S.af (S.aa+1))))))):=by kernel_rfl
end
theorem avk (w:World)(h:Heap)(n:Nat){args:List AV}{S:St}{K:KE}{X:KX}(t:tPP args S K X):ao (akY w h) (n+6) true (.fr (.lit (.ref 1048))) args S K X:=
 bz t λ_ _ q=>a0 q λq=>ki q λ_ _ _ _ _ _ _ _ _ _ _ xs _ _ _ q=>(avj ..).mpr (
  have l:xs.length≤1000:=Nat.le_trans q.1 (by decide)
  q.2.elim (λq=>q.elim λys q=>q.elim λp q=>Aa rfl ⟨l,ys,.inl ⟨p,q.1,h9 (by rw [decide_eq_true q.2.1]; rfl) (Aa rfl ⟨l,ys,p,q.1,q.2.2⟩)⟩⟩) λq=>q.elim λys q=>q.elim λ_ q=>q.elim λ_ q=>Aa rfl ⟨l,ys,q.2.1.elim (λb=>.inr (.inl (b.elim λc b=>b.elim λv b=>⟨c,v,b.1▸q.1,b.2▸q.2.2⟩))) λb=>b.elim (λb=>.inr (.inr (b.elim λk b=>b.elim λa b=>b.elim λd b=>b.elim λc b=>b.elim λv b=>⟨k,a,d,c,v,b.1▸q.1,b.2▸q.2.2⟩))) λb=>.inl (b.elim λp b=>⟨p,b.1▸q.1,jg (by rw [decide_eq_false (Int.not_le.mpr (Int.lt_of_le_of_lt b.2.1 (by decide)))]; rfl) (b.2.2▸q.2.2)⟩)⟩)
noncomputable def Ab.eu:Ab→List Int
 |.m x y=>[x,y]
 |.l x y=>[x,y]
 |.c x1 y1 x2 y2 x3 y3=>[x1,y1,x2,y2,x3,y3]
 |.z=>[]
noncomputable def Ab.qo (f:Int→Int→Int×Int):Ab→Ab
 |.m x y=>.m (f x y).1 (f x y).2
 |.l x y=>.l (f x y).1 (f x y).2
 |.c x1 y1 x2 y2 x3 y3=>.c (f x1 y1).1 (f x1 y1).2 (f x2 y2).1 (f x2 y2).2 (f x3 y3).1 (f x3 y3).2
 |.z=>.z
def Ab.aq (r:Ab)(m:Sp):Ab:=r.qo m.aq
def Ab.on (r:Ab)(m:Sp):Ab:=r.qo m.on
theorem Ab.sU (r:Ab):r.ns=r.eu.map .int:=by cases r <;> rfl
def Ab.al (P:Int→Int→Prop):Ab→Prop
 |.m x y=>P x y
 |.l x y=>P x y
 |.c x1 y1 x2 y2 x3 y3=>P x1 y1∧P x2 y2∧P x3 y3
 |.z=>True
def aY (m:Sp)(r:Ab):Bool:=decide (m.eV=0) && !r.lV
def Bc (m:Sp)(r:Ab):Prop:=AL m∧r.al λx y=>Av (x-m.e)∧Av (y-m.f)
def BL (m:Sp)(r:Ab):Prop:=AL m∧r.al λx y=>Av x∧Av y
def aqU:CT:=λargs S K _=>oX args λrow l=>oX l λs l=>oX l λf l=>oE l (oR f λa=>sF s λm=>∃r:Ab,row=r.fv∧match Nat.beq a 1455 with
  |true=>Bc m r∧iB (aY m r) (∀aa,K (.fr .none) ⟨S.loc,S.ai,S.am,S.af,aa⟩) (∀aa,K (.fr (.fl ((r.aq m).eu.map .int))) ⟨S.loc,S.ai,S.am,S.af,aa⟩)
  |false=>oB (Nat.beq a 1448) (BL m r∧∀aa,K (.fr (.fl ((r.on m).eu.map .int))) ⟨S.loc,S.ai,S.am,S.af,aa⟩))
section
variable {w:World} {h:Heap} {n:Nat} {S:St} {K:KE} {X:KX} {m:Sp} {r:Ab}
theorem ad8 (B:BL m r)(t:∀aa,K (.fr (.fl ((r.on m).eu.map .int))) ⟨S.loc,S.ai,S.am,S.af,aa⟩):ao (wF w h) (n+4) true (.fr (.lit (.ref 1469))) [.fr r.fv,.fr (cy m),.fr (.lit (.ref 1448))] S K X:=by
 cases r with
 |m x y=>exact (qa w h n S K X aW m x y).mpr (Aa rfl ⟨B.1,B.2.1,B.2.2,Aa rfl (t _)⟩)
 |l x y=>exact (qa w h n S K X bM m x y).mpr (Aa rfl ⟨B.1,B.2.1,B.2.2,Aa rfl (t _)⟩)
 |c x1 y1 x2 y2 x3 y3=>exact (aa3 w h n S K X bN m x1 y1 x2 y2 x3 y3).mpr (Aa rfl ⟨B.1,B.2.1.1,B.2.1.2,Aa rfl ⟨B.1,B.2.2.1.1,B.2.2.1.2,Aa rfl ⟨B.1,B.2.2.2.1,B.2.2.2.2,Aa rfl (t _)⟩⟩⟩)
 |z=>exact (uG w h n S K X bk m (.ref 1448)).mpr (Aa rfl (t _))
theorem ad9 (B:Bc m r)(t1:aY m r=true→∀aa,K (.fr .none) ⟨S.loc,S.ai,S.am,S.af,aa⟩)(t0:aY m r=false→∀aa,K (.fr (.fl ((r.aq m).eu.map .int))) ⟨S.loc,S.ai,S.am,S.af,aa⟩):ao (wF w h) (n+4) true (.fr (.lit (.ref 1469))) [.fr r.fv,.fr (cy m),.fr (.lit (.ref 1455))] S K X:=by
 have z1:r.lV=false→m.eV=0→aY m r=true:=λe hd=>by unfold aY; rw [e,decide_eq_true hd]; rfl
 have z0:¬m.eV=0→aY m r=false:=λhd=>by unfold aY; rw [decide_eq_false hd]; rfl
 cases r with
 |m x y=>exact (p8 w h n S K X aW m x y).mpr (Aa rfl ⟨B.1,B.2.1,B.2.2,fu (λhd=>t1 (z1 rfl hd) _) λhd=>Aa rfl (t0 (z0 hd) _)⟩)
 |l x y=>exact (p8 w h n S K X bM m x y).mpr (Aa rfl ⟨B.1,B.2.1,B.2.2,fu (λhd=>t1 (z1 rfl hd) _) λhd=>Aa rfl (t0 (z0 hd) _)⟩)
 |c x1 y1 x2 y2 x3 y3=>exact (aa2 w h n S K X bN m x1 y1 x2 y2 x3 y3).mpr (Aa rfl ⟨B.1,B.2.1.1,B.2.1.2,fu (λhd=>t1 (z1 rfl hd) _) λhd=>Aa rfl ⟨B.1,B.2.2.1.1,B.2.2.1.2,cF hd (Aa rfl ⟨B.1,B.2.2.2.1,B.2.2.2.2,cF hd (Aa rfl (t0 (z0 hd) _))⟩)⟩⟩)
 |z=>exact (uG w h n S K X bk m (.ref 1455)).mpr (Aa rfl (t0 (by unfold aY; exact Bool.and_false _) _))
end
theorem aa4 {b:Bool}{A B:Prop}(t:iB b A B):(b=true→A)∧(b=false→B):=by
 cases b
 ·exact ⟨(λh=>nomatch h),λ_=>t⟩
 ·exact ⟨λ_=>t,λh=>nomatch h⟩
theorem aqV (w:World)(h:Heap)(n:Nat){args:List AV}{S:St}{K:KE}{X:KX}(t:aqU args S K X):ao (wF w h) (n+4) true (.fr (.lit (.ref 1469))) args S K X:=by
 refine de t λ_ _ q=>de q λ_ _ q=>de q λ_ _ q=>a0 q λq=>aqm q λa q=>jo q λm q=>q.elim λr q=>?_
 obtain ⟨rfl,z⟩:=q
 cases ha:Nat.beq a 1455 <;> rw [ha] at z
 ·exact cA z λha t=>by
   cases Nat.eq_of_beq_eq_true ha
   exact ad8 t.1 t.2
 ·cases Nat.eq_of_beq_eq_true ha
  exact ad9 z.1 (aa4 z.2).1 (aa4 z.2).2
section
def Dd:List (Addr×CT):=(1048,tPP)::E3
theorem B2 {w:World}{h:Heap}(Y:YL w h):AN w h 46 Dd:=.cons (aC (ad7 Y) rfl rfl 6 λ_ _ _ _ t=>avk w h 0 t) ((AU Y).up 24)
abbrev ada (w:World)(h:Heap):Cf:=cf w h (du Dd) dr fC j3 iM
theorem uH {w:World}{h:Heap}(Y:YL w h):AB (ada w h) 46:=cq Y cw bo cI cu (B2 Y).f6
def AQ (xs:List FV)(b:Array UInt8):Prop:=(xs.length≤3∧b=bSU)∨∃(l:List FV) (t:FV) (ps:List Pv),xs=l++t::ps.map bC∧l.length+ps.length=3∧(∀p∈ps,1≤p.aJ)∧BD t b
def akZ (g:OL):Nat:=match eY 2 g with
 |some (_,.be l)=>match l.lookup wb with
  |some (.fr (.rc k _ _))=>k
  |_=>0
 |_=>0
def dw (g:OL):Ky:=eq g (akZ g)
structure MS where
 (tx:List FV) (tc:Int) (k5:Nat) (xs:List FV) (sn:Int) (sb:Bool) (aH:FV) (m:Sp) (bg pt:FV) (ks:List FV) (aM:Nat) (own:List FV)
abbrev MS.no (σ:MS)(κ:Ky)(g:OL):OL:=cS κ σ.tx σ.tc σ.k5 σ.xs σ.sn σ.sb σ.aH σ.m σ.bg σ.pt σ.ks σ.aM σ.own g
abbrev MS.on (σ:MS)(κ:Ky)(xs:List FV)(g:OL):OL:=cS κ σ.tx σ.tc σ.k5 xs σ.sn σ.sb σ.aH σ.m σ.bg σ.pt σ.ks σ.aM σ.own g
abbrev MS.pa (σ:MS)(κ:Ky)(p:P4)(aH:FV)(b8 ce:Nat):OL:=kY κ σ.tx σ.tc σ.k5 [] σ.sn σ.sb aH σ.m σ.bg σ.pt σ.ks σ.aM σ.own b8 ce .none (.fl σ.ks) p.v 0 []
def al0:CT:=λargs S _ X=>∃σ:MS,args=[.own 1 (dw S.af).e]∧S.af=σ.no (dw S.af) (S.af.drop 13)∧σ.ks.length≤1000∧
 ∃b,AQ σ.xs b∧∀ys,X (.bytes b) ⟨S.loc,S.ai,S.am,σ.on (dw S.af) ys (S.af.drop 13),S.aa⟩
def adb:CT:=λargs S K _=>∃(σ:MS) (p:P4),args=[.own 1 (dw S.af).e]∧S.af=σ.on (dw S.af) p.l (S.af.drop 13)∧σ.ks.length≤1000∧p.aJ∧∀b8 ce ay,K (.fr .none) ⟨S.loc,S.ai,S.am,σ.pa (dw S.af) p σ.aH b8 ce,ay⟩
end
def pfS (κ:Ky)(k5:Nat)(N:Array UInt8→List FV→Prop)(xs:List FV)(F:List FV→Pv→Prop):Prop:=Q [.y κ 0x2345,.k k5] (xs.length≤200∧((∃ys p,xs=ys++[bC p]∧1≤p.aJ∧F ys p)∨∃ys t b,xs=ys++[t]∧BD t b∧N b xs))
section
variable (w:World) (h:Heap) (n:Nat) (aa:Nat) (loc:List (Str×AV)) (ai:List (Str×Nat×Nat)) (am g:OL) (K:KE) (X:KX)
theorem aqW (κ:Ky)(σ:MS):ao (ada w h) (n+6) true (.fr (.lit (.ref 1133))) [.own 1 κ.e] ⟨loc,ai,am,σ.no κ g,aa⟩ K X=
 (Q [.y κ 0x232345,.k σ.k5] (σ.xs.length≤1000000∧iB (decide (Int.ofNat σ.xs.length<4)) (X (.bytes bSU) ⟨loc,ai,am,σ.no κ g,aa⟩) (pfS κ σ.k5 (λb xs=>X (.bytes b) ⟨loc,ai,am,σ.on κ xs g,aa⟩) σ.xs λys p4=>pfS κ σ.k5 (λb xs=>X (.bytes b) ⟨loc,ai,am,σ.on κ xs g,aa⟩) ys λys p3=>pfS κ σ.k5 (λb xs=>X (.bytes b) ⟨loc,ai,am,σ.on κ xs g,aa⟩) ys λys p2=>pfS κ σ.k5 (λb xs=>X (.bytes b) ⟨loc,ai,am,σ.on κ xs g,aa⟩) ys λys p1=>Q [.y κ 0xb9a9a784545] (σ.ks.length≤1000000∧Q [.z aa 0x1212121212,.y κ 0x645,.l 0 1000000,.y κ 0x664545] (K (.fr .none) ⟨loc,ai,am,kY κ σ.tx σ.tc σ.k5 ys σ.sn σ.sb σ.aH σ.m σ.bg σ.pt σ.ks σ.aM σ.own aa (aa+1) .none (.fl σ.ks) (sJ p1 p2 p3 p4) 0 [],aa+2⟩))))):=by kernel_rfl
end
section
variable {κ:Ky} {k5:Nat} {N:Array UInt8→List FV→Prop} {xs ys:List FV} {F:List FV→Pv→Prop}
theorem d3 {p:Pv}(e:xs=ys++[bC p])(hl:xs.length≤200)(a:1≤p.aJ)(f:F ys p):pfS κ k5 N xs F:=Aa rfl ⟨hl,.inl ⟨ys,p,e,a,f⟩⟩
theorem al1 {t:FV}{b:Array UInt8}(hl:(ys++[t]).length≤200)(hb:BD t b)(x:N b (ys++[t])):pfS κ k5 N (ys++[t]) F:=Aa rfl ⟨hl,.inr ⟨ys,t,b,rfl,hb,x⟩⟩
theorem eL {l m:List FV}(hl:l.length≤3)(hm:m.length≤4):(l++m).length≤200:=by
 rw [List.length_append]
 exact Nat.le_trans (Nat.add_le_add hl hm) (by decide)
end
theorem aqX (w:World)(h:Heap)(n:Nat){args:List AV}{S:St}{K:KE}{X:KX}(t:adb args S K X):ao (ada w h) (n+6) true (.fr (.lit (.ref 1133))) args S K X:=by
 obtain ⟨loc,ai,am,af,aa⟩:=S
 obtain ⟨σ,p,rfl,e,jJ,a,t⟩:=t
 dsimp only at e t ⊢
 generalize dw af=κ at e t ⊢
 generalize af.drop 13=r at e t
 subst e
 have ok:∀{m:List FV},m.length≤4→m.length≤200:=λh=>Nat.le_trans h (by decide)
 exact (aqW w h n aa loc ai am r K X κ {σ with xs:=p.l}).mpr (Aa rfl ⟨Nat.le_of_ble_eq_true rfl,cF (λh=>nomatch h) (d3 (ys:=[bC p.p1,bC p.p2,bC p.p3]) rfl (ok (Nat.le_refl _)) a.2.2.2 (d3 (ys:=[bC p.p1,bC p.p2]) rfl (Nat.le_of_ble_eq_true rfl) a.2.2.1 (d3 (ys:=[bC p.p1]) rfl (Nat.le_of_ble_eq_true rfl) a.2.1 (d3 (ys:=[]) rfl (Nat.le_of_ble_eq_true rfl) a.1 (Aa rfl ⟨Nat.le_trans jJ (by decide),Aa rfl (t _ _ _)⟩)))))⟩)
theorem aqY (w:World)(h:Heap)(n:Nat){args:List AV}{S:St}{K:KE}{X:KX}(t:al0 args S K X):ao (ada w h) (n+6) true (.fr (.lit (.ref 1133))) args S K X:=by
 obtain ⟨loc,ai,am,af,aa⟩:=S
 obtain ⟨σ,rfl,e,jJ,b,hR,t⟩:=t
 dsimp only at e t ⊢
 generalize dw af=κ at e t ⊢
 generalize af.drop 13=r at e t
 subst e
 refine (aqW ..).mpr ?_
 have el:∀k:Nat,Int.ofNat k=(k:Int):=λ_=>rfl
 refine hR.elim (λq=>q.2▸Aa rfl ⟨Nat.le_trans q.1 (by decide),ze (by rw [el]; lia) (t _)⟩) λq=>q.elim λl q=>q.elim λt0 q=>q.elim λps q=>?_
 have iD:σ.xs.length=4:=by rw [q.1,List.length_append,List.length_cons,List.length_map]; lia
 have l3:l.length≤3:=by lia
 refine Aa rfl ⟨by lia,cF (by rw [el,iD]; decide) ?_⟩
 rw [q.1]
 have hp:=q.2.2.1
 have hb:=q.2.2.2
 have hn:=q.2.1
 have ap:=λ(m:List FV) (x:FV)=>(List.append_assoc l m [x]).symm
 have dJ:∀{F},pfS κ σ.k5 (λb xs=>X (.bytes b) ⟨loc,ai,am,σ.on κ xs r,aa⟩) (l++[t0]) F:=al1 (eL l3 (Nat.le_of_ble_eq_true rfl)) hb (t _)
 clear q iD
 match ps,hn,hp with
 | [],_,_=>exact dJ
 | [q1],_,hp=>exact d3 (ap [t0] _) (eL l3 (Nat.le_of_ble_eq_true rfl)) (hp _ (.head _)) dJ
 | [q1,q2],_,hp=>exact d3 (ap [t0,bC q1] _) (eL l3 (Nat.le_of_ble_eq_true rfl)) (hp _ (.tail _ (.head _))) (d3 (ap [t0] _) (eL l3 (Nat.le_of_ble_eq_true rfl)) (hp _ (.head _)) dJ)
 | [q1,q2,q3],_,hp=>exact d3 (ap [t0,bC q1,bC q2] _) (eL l3 (Nat.le_of_ble_eq_true rfl)) (hp _ (.tail _ (.tail _ (.head _)))) (d3 (ap [t0,bC q1] _) (eL l3 (Nat.le_of_ble_eq_true rfl)) (hp _ (.tail _ (.head _))) (d3 (ap [t0] _) (eL l3 (Nat.le_of_ble_eq_true rfl)) (hp _ (.head _)) dJ))
 |_::_::_::_::_,hl,_=>simp at hl; lia
theorem kz {aV:St→Prop}{aA:AV→St→(Option FV→St→Prop)→Prop}{ai:List (Str×Nat×Nat)}{am af:OL}{K:List FV→St→Prop}(I:List (Str×AV)→Prop)(f:FV→Option FV)(hc:∀loc aa,I loc→aV ⟨loc,ai,am,af,aa⟩):
  ∀(xs aJ:List FV) (loc:List (Str×AV)) (aa:Nat),I loc→(∀x∈xs,∀loc aa K',I loc→(∀aa5 ay,I aa5→K' (f x) ⟨aa5,ai,am,af,ay⟩)→aA (.fr x) ⟨loc,ai,am,af,aa⟩ K')→
  (∀loc aa,I loc→K (aJ++xs.filterMap f) ⟨loc,ai,am,af,aa⟩)→oU aV aA (xs.map .fr) aJ ⟨loc,ai,am,af,aa⟩ K
 | [],aJ,loc,aa,i,_,k=>⟨hc _ _ i,by have:=k loc aa i; rw [List.filterMap_nil,List.append_nil] at this; exact this⟩
 |x::xs,aJ,loc,aa,i,ht,k=>by
  refine ⟨hc _ _ i,ht x (.head _) loc aa _ i λaa5 ay i'=>?_⟩
  cases hs:f x with
  |some y=>exact kz I f hc xs _ aa5 ay i' (λx h=>ht x (.tail _ h)) λloc aa i=>by have:=k loc aa i; rw [List.filterMap_cons,hs] at this; simpa using this
  |none=>exact kz I f hc xs _ aa5 ay i' (λx h=>ht x (.tail _ h)) λloc aa i=>by have:=k loc aa i; rw [List.filterMap_cons,hs] at this; exact this
theorem qb (b:FV):∀l:List FV,l.filterMap (λ_=>some b)=List.replicate l.length b
 | []=>rfl
 |_::l=>by rw [List.filterMap_cons,List.length_cons,List.replicate_succ]; dsimp only; rw [qb b l]
def na:AI:=λaA aV items S K=>match S with
 |⟨[],ai,am,af,aa⟩=>∃xs:List FV,items=xs.map (λx=>.fr (.az [x,x]))∧(∀x∈xs,∃c C f,x=.rc c C f)∧(∀loc aa,aV ⟨loc,ai,am,af,aa⟩)∧
  (∀aa c C f K',(∀a b aa,K' (some (.bool true)) ⟨[(mX,a),(kW,b)],ai,am,af,aa⟩)→aA (.fr (.az [.rc c C f,.rc c C f])) ⟨[],ai,am,af,aa⟩ K')∧
  (∀a b aa c C f K',(∀a b aa,K' (some (.bool true)) ⟨[(mX,a),(kW,b)],ai,am,af,aa⟩)→aA (.fr (.az [.rc c C f,.rc c C f])) ⟨[(mX,a),(kW,b)],ai,am,af,aa⟩ K')∧
  ∀loc aa,K (List.replicate xs.length (.bool true)) ⟨loc,ai,am,af,aa⟩
 |_=>False
theorem sV:AA na:=by
 intro aA aV items S K h
 unfold na at h
 split at h
 ·rename_i ai am af aa
  obtain ⟨xs,rfl,hx,hc,h1,h2,hK⟩:=h
  have e:(xs.map λx=>AV.fr (.az [x,x]))=(xs.map λx=>FV.az [x,x]).map .fr:=by rw [List.map_map]; rfl
  rw [e]
  refine kz (λloc=>loc=[]∨∃a b,loc=[(mX,a),(kW,b)]) (λ_=>some (.bool true)) (λloc aa _=>hc _ _) _ [] [] aa (.inl rfl) ?_ λloc aa i=>?_
  ·intro x hxm loc aa K' i k
   obtain ⟨y,hy,rfl⟩:=List.mem_map.mp hxm
   obtain ⟨c,C,f,rfl⟩:=hx y hy
   rcases i with rfl|⟨a,b,rfl⟩
   ·exact h1 aa c C f K' λa b aa=>k _ _ (.inr ⟨a,b,rfl⟩)
   ·exact h2 a b aa c C f K' λa b aa=>k _ _ (.inr ⟨a,b,rfl⟩)
  ·rw [List.nil_append,qb,List.length_map]
   exact hK _ _
 ·exact h.elim
theorem ie {α:Type}{aV:St→Prop}{aA:AV→St→(Option FV→St→Prop)→Prop}{ai:List (Str×Nat×Nat)}{am af:OL}{K:List FV→St→Prop}{aa:Nat}(v:Str)(g f:α→FV)(l:List α)(hc:∀loc aa,aV ⟨loc,ai,am,af,aa⟩)
  (h1:∀q∈l,∀aa K',(∀a aa,K' (some (f q)) ⟨[(v,a)],ai,am,af,aa⟩)→aA (.fr (g q)) ⟨[],ai,am,af,aa⟩ K')
  (h2:∀q∈l,∀b aa K',(∀a aa,K' (some (f q)) ⟨[(v,a)],ai,am,af,aa⟩)→aA (.fr (g q)) ⟨[(v,b)],ai,am,af,aa⟩ K')
  (hK:∀loc aa,K (l.map f) ⟨loc,ai,am,af,aa⟩):oU aV aA (l.map λq=>.fr (g q)) [] ⟨[],ai,am,af,aa⟩ K:=by
 have key:∀(l:List α) (aJ:List FV) (loc:List (Str×AV)) (aa:Nat),(loc=[]∨∃a,loc=[(v,a)])→(∀q∈l,∀aa K',(∀a aa,K' (some (f q)) ⟨[(v,a)],ai,am,af,aa⟩)→aA (.fr (g q)) ⟨[],ai,am,af,aa⟩ K')→
   (∀q∈l,∀b aa K',(∀a aa,K' (some (f q)) ⟨[(v,a)],ai,am,af,aa⟩)→aA (.fr (g q)) ⟨[(v,b)],ai,am,af,aa⟩ K')→(∀loc aa,K (aJ++l.map f) ⟨loc,ai,am,af,aa⟩)→oU aV aA (l.map λq=>.fr (g q)) aJ ⟨loc,ai,am,af,aa⟩ K:=by
  intro l
  induction l with
  |nil=>intro aJ loc aa _ _ _ k; exact ⟨hc _ _,by have:=k loc aa; rw [List.map_nil,List.append_nil] at this; exact this⟩
  |cons q l ih=>
   intro aJ loc aa i h1 h2 k
   have next:∀a aa,oU aV aA (l.map λq=>.fr (g q)) (aJ++[f q]) ⟨[(v,a)],ai,am,af,aa⟩ K:=λa aa=>ih _ _ _ (.inr ⟨a,rfl⟩) (λq h=>h1 q (.tail _ h)) (λq h=>h2 q (.tail _ h)) λloc aa=>by have:=k loc aa; simpa using this
   refine ⟨hc _ _,?_⟩
   rcases i with rfl|⟨a,rfl⟩
   ·exact h1 q (.head _) aa _ next
   ·exact h2 q (.head _) a aa _ next
 exact key l [] [] aa (.inl rfl) h1 h2 λloc aa=>by simpa using hK loc aa
structure Lv where
 (k:Nat) (u:Str) (v:Int)
def Lv.th (q:Lv):FV:=j9 q.k q.u (.int q.v) false 3
noncomputable def Lv.lie (q:Lv):FV:=.az [.str q.u,.int q.v]
def sW:AI:=λaA aV items S K=>match S with
 |⟨[],ai,am,af,aa⟩=>∃l:List Lv,items=l.map (λq=>.fr q.th)∧(∀loc aa,aV ⟨loc,ai,am,af,aa⟩)∧
  (∀k u v aa K',(∀a aa,K' (some (.az [.str u,.int v])) ⟨[(bi,a)],ai,am,af,aa⟩)→aA (.fr (j9 k u (.int v) false 3)) ⟨[],ai,am,af,aa⟩ K')∧
  (∀k u v b aa K',(∀a aa,K' (some (.az [.str u,.int v])) ⟨[(bi,a)],ai,am,af,aa⟩)→aA (.fr (j9 k u (.int v) false 3)) ⟨[(bi,b)],ai,am,af,aa⟩ K')∧
  ∀loc aa,K (l.map Lv.lie) ⟨loc,ai,am,af,aa⟩
 |_=>False
theorem wu:AA sW:=by
 intro aA aV items S K h
 unfold sW at h
 split at h
 ·obtain ⟨l,rfl,hc,h1,h2,hK⟩:=h
  exact ie bi Lv.th Lv.lie l hc (λq _ aa K' k=>h1 q.k q.u q.v aa K' k) (λq _ b aa K' k=>h2 q.k q.u q.v b aa K' k) hK
 ·exact h.elim
def nc:AI:=λaA aV items S K=>match S with
 |⟨[],ai,am,af,aa⟩=>∃l:List Int,items=l.map (λq=>.fr (.int q))∧(∀loc aa,aV ⟨loc,ai,am,af,aa⟩)∧
  (∀v aa K',(∀a aa,K' (some (.az [.str dp,.int v])) ⟨[(cQ,a)],ai,am,af,aa⟩)→aA (.fr (.int v)) ⟨[],ai,am,af,aa⟩ K')∧
  (∀v b aa K',(∀a aa,K' (some (.az [.str dp,.int v])) ⟨[(cQ,a)],ai,am,af,aa⟩)→aA (.fr (.int v)) ⟨[(cQ,b)],ai,am,af,aa⟩ K')∧
  ∀loc aa,K (l.map λv=>.az [.str dp,.int v]) ⟨loc,ai,am,af,aa⟩
 |_=>False
theorem sY:AA nc:=by
 intro aA aV items S K h
 unfold nc at h
 split at h
 ·obtain ⟨l,rfl,hc,h1,h2,hK⟩:=h
  exact ie cQ FV.int _ l hc (λq _ aa K' k=>h1 q aa K' k) (λq _ b aa K' k=>h2 q b aa K' k) hK
 ·exact h.elim
def cH (m:Sp)(r:Ab):FV:=match aY m r with
 |true=>.none
 |false=>.fl ((r.aq m).eu.map .int)
def sZ:AI:=λaA aV items S K=>match S with
 |⟨[],ai,am,af,aa⟩=>∃(m:Sp) (l:List Ab),items=l.map (λq=>.fr q.fv)∧(∀loc aa,aV ⟨loc,ai,am,af,aa⟩)∧
  (∀r aa K',r∈l→(∀a aa,K' (some (cH m r)) ⟨[(dM,a)],ai,am,af,aa⟩)→aA (.fr r.fv) ⟨[],ai,am,af,aa⟩ K')∧
  (∀r b aa K',r∈l→(∀a aa,K' (some (cH m r)) ⟨[(dM,a)],ai,am,af,aa⟩)→aA (.fr r.fv) ⟨[(dM,b)],ai,am,af,aa⟩ K')∧
  ∀loc aa,K (l.map (cH m)) ⟨loc,ai,am,af,aa⟩
 |_=>False
theorem wv:AA sZ:=by
 intro aA aV items S K h
 unfold sZ at h
 split at h
 ·obtain ⟨m,l,rfl,hc,h1,h2,hK⟩:=h
  exact ie dM Ab.fv (cH m) l hc (λq hq aa K' k=>h1 q aa K' hq k) (λq hq b aa K' k=>h2 q b aa K' hq k) hK
 ·exact h.elim
def kA:AI:=λaA aV items S K=>match S with
 |⟨[],ai,am,af,aa⟩=>∃(m:Sp) (l:List Ab),items=l.map (λq=>.fr (cH m q))∧(∀loc aa,aV ⟨loc,ai,am,af,aa⟩)∧
  (∀aa K',(∀a aa,K' (some (.bool false)) ⟨[(gs,a)],ai,am,af,aa⟩)→aA (.fr .none) ⟨[],ai,am,af,aa⟩ K')∧
  (∀b aa K',(∀a aa,K' (some (.bool false)) ⟨[(gs,a)],ai,am,af,aa⟩)→aA (.fr .none) ⟨[(gs,b)],ai,am,af,aa⟩ K')∧
  (∀xs aa K',(∀a aa,K' (some (.bool true)) ⟨[(gs,a)],ai,am,af,aa⟩)→aA (.fr (.fl xs)) ⟨[],ai,am,af,aa⟩ K')∧
  (∀xs b aa K',(∀a aa,K' (some (.bool true)) ⟨[(gs,a)],ai,am,af,aa⟩)→aA (.fr (.fl xs)) ⟨[(gs,b)],ai,am,af,aa⟩ K')∧
  ∀loc aa,K (l.map λq=>.bool (!aY m q)) ⟨loc,ai,am,af,aa⟩
 |_=>False
theorem qc:AA kA:=by
 intro aA aV items S K h
 unfold kA at h
 split at h
 ·obtain ⟨m,l,rfl,hc,h1,h2,h3,h4,hK⟩:=h
  refine ie gs (cH m) (λq=>.bool (!aY m q)) l hc (λq hq aa K' k=>?_) (λq hq b aa K' k=>?_) hK
  ·unfold cH
   cases hb:aY m q with
   |true=>rw [hb] at k; exact h1 aa K' k
   |false=>rw [hb] at k; exact h3 _ aa K' k
  ·unfold cH
   cases hb:aY m q with
   |true=>rw [hb] at k; exact h2 b aa K' k
   |false=>rw [hb] at k; exact h4 _ b aa K' k
 ·exact h.elim
set_option backward.match.sparseCases false
section
def nh (p:Pos):AI:=match Nat.beq p.line 918 with
 |true=>sW
 |false=>match Nat.beq p.line 920 with
  |true=>na
  |false=>match Nat.beq p.line 949 with
   |true=>nc
   |false=>match Nat.beq p.line 968 with
    |true=>sZ
    |false=>match Nat.beq p.line 969 with
     |true=>kA
     |false=>fC p
theorem eM (p:Pos):AA (nh p):=by
 unfold nh
 split
 ·exact wu
 ·split
  ·exact sV
  ·split
   ·exact sY
   ·split
    ·exact wv
    ·split
     ·exact qc
     ·exact cw p
noncomputable def qd (u:Str)(fs:List (Str×FV)):Option FV:=fs.lookup u
theorem aqZ:fits 0:=by unfold fits; decide
noncomputable def agY:FV→Bool
 |.int (.ofNat 0)=>true
 |_=>false
theorem aa6 {x:FV}(h:agY x=true):x=.int (.ofNat 0):=by
 cases x with
 |int i=>cases i with
  |negSucc=>exact Bool.noConfusion h
  |ofNat n=>cases n with
   |zero=>rfl
   |succ=>exact Bool.noConfusion h
 |_=>exact Bool.noConfusion h
def ar0:SubL:=λa i S K=>gw i λi=>cV (agY i) (gw a λx=>∃r:Ab,x=r.fv∧K (.fr (.str r.w)) S)
theorem adc:Aw ar0:=λa i S K h=>by
 refine aZ (P:=λi=>cZ a i S K) h λi h=>aG h λhi h=>?_
 rw [aa6 hi]
 refine aZ (P:=λa=>cZ a (.fr (.int (.ofNat 0))) S K) h λx h=>?_
 obtain ⟨r,e,h⟩:=h
 subst e
 cases r <;> exact gH (k:=0) ⟨aqZ,h⟩
def ar1:SubL:=λa i S K=>∃fs u dH ah q,a=.fr (.ds fs)∧i=.fr (.str u)∧qd u fs=some (.az [.int dH,ah,q])∧K (.fr (.az [.int dH,ah,q])) S
theorem ade:Aw ar1:=λa i S K h=>by
 obtain ⟨fs,u,dH,ah,q,rfl,rfl,hv,h⟩:=h
 exact gu (o:=fs.lookup u) hv h
def aa7:SubL:=λa i S K=>∃fs u v,a=.fr (.ds fs)∧i=.fr (.str u)∧qd u fs=some (.int v)∧K (.fr (.int v)) S
theorem ww:Aw aa7:=λa i S K h=>by
 obtain ⟨fs,u,v,rfl,rfl,hv,h⟩:=h
 exact gu (o:=fs.lookup u) hv h
def ni (p:Pos):SubL:=match eQ [(948,28,34),(948,46,52),(951,44,50),(972,26,32),(972,48,54)] p with
 |true=>ar0
 |false=>match eQ [(948,22,35),(948,40,53)] p with
  |true=>ar1
  |false=>match eQ [(951,32,51)] p with
   |true=>aa7
   |false=>iM p
theorem eN (p:Pos):Aw (ni p):=by
 unfold ni
 split
 ·exact adc
 ·split
  ·exact ade
  ·split
   ·exact ww
   ·exact cu p
abbrev cf8 (w:World)(h:Heap):Cf:=cf w h (du E3) dr nh j3 ni
theorem aa8 {w:World}{h:Heap}(Y:YL w h):AB (cf8 w h) 22:=cq Y eM bo cI eN (AU Y).f6
def agZ:CT:=λargs S K _=>oC args λa l=>oO 5 a λk=>oX l λy l=>oE l (oZ y λys=>oV2 S λup g=>oH 12 g λk0 o0 g=>oH 4 g λk4 o4 g=>oH 3 g λk3 o3 g=>oH 5 g λk5 o g=>oL o λxs=>
 k=k5∧xs=ys∧ys.length≤1000∧(∀x∈ys,∃c C f,x=.rc c C f)∧∀aa,K (.fr (.bool true)) (up ((12,k0,o0)::(4,k4,o4)::(3,k3,o3)::(5,k5,.list xs)::g) aa))
def ah0:CT:=λargs S K _=>oC args λa l=>oE l (uz a S λxs up=>∃l:List Lv,xs=l.map Lv.th∧xs.length≤1000∧∀aa,K (.fr (.fl (l.map Lv.lie))) ⟨(up xs).loc,(up xs).ai,(up xs).am,(up xs).af,aa⟩)
end
set_option backward.match.sparseCases true
section
variable (w:World) (h:Heap) (n:Nat) (aa:Nat) (loc:List (Str×AV)) (ai:List (Str×Nat×Nat)) (am g:OL) (S:St) (K:KE) (X:KX)
theorem al2 (k0 k3 k4 k5:Nat)(o0 o3 o4:AO)(xs:List FV):ao (cf8 w h) (n+4) true (.fr (.lit (.ref 1507))) [.own 5 k5,.fr (.fl xs)] ⟨loc,ai,am,(12,k0,o0)::(4,k4,o4)::(3,k3,o3)::(5,k5,.list xs)::g,aa⟩ K X=
 (Q [.k k5] (xs.length≤1000000∧xs.length≤1000000∧iB (decide (Int.ofNat xs.length=Int.ofNat xs.length)) (Q [.k k5] ((List.map (λp=>AV.fr (.az [p.fst,p.snd])) (xs.zip xs)).length≤100000∧∃al3,List.map (λp=>AV.fr (.az [p.fst,p.snd])) (xs.zip xs)=List.map (λx=>AV.fr (.az [x,x])) al3∧(∀(x:FV),x∈al3→∃c C f,x=.rc c C f)∧(∀(loc:List (Str×AV)) (aa:Nat),Q [.k k5] (xs=xs)∧xs=xs)∧(∀(aa c:Nat) (C:Addr) (f:List (Str×FV)) (K':Option FV→St→Prop),(∀(a b:AV) (aa:Nat),K' (some (.bool true)) (St.mk [(mX,a),(kW,b)] [] [] ((12,k0,o0)::(4,k4,o4)::(3,k3,o3)::(5,k5,.list xs)::g) aa))→Q [.k c] (K' (some (.bool true)) (St.mk [(mX,.fr (.rc c C f)),(kW,.fr (.rc c C f))] [] [] ((12,k0,o0)::(4,k4,o4)::(3,k3,o3)::(5,k5,.list xs)::g) aa)))∧(∀(a b:AV) (aa c:Nat) (C:Addr) (f:List (Str×FV)) (K':Option FV→St→Prop),(∀(a b:AV) (aa:Nat),K' (some (.bool true)) (St.mk [(mX,a),(kW,b)] [] [] ((12,k0,o0)::(4,k4,o4)::(3,k3,o3)::(5,k5,.list xs)::g) aa))→Q [.k c] (K' (some (.bool true)) (St.mk [(mX,.fr (.rc c C f)),(kW,.fr (.rc c C f))] [] [] ((12,k0,o0)::(4,k4,o4)::(3,k3,o3)::(5,k5,.list xs)::g) aa)))∧∀(ar2:List (Str×AV)) (aa:Nat),∃bs,List.replicate al3.length (FV.bool true)=List.map FV.bool bs∧K (.fr (.bool (bs.all λa=>a))) (St.mk loc ai am ((12,k0,o0)::(4,k4,o4)::(3,k3,o3)::(5,k5,.list xs)::g) aa))) (K (.fr (.bool (decide (Int.ofNat xs.length=Int.ofNat xs.length)))) (St.mk loc ai am ((12,k0,o0)::(4,k4,o4)::(3,k3,o3)::(5,k5,.list xs)::g) aa)))):=by kernel_rfl
theorem al4 (k0 k1 k2 k3 k4 k5:Nat)(o0:AO)(xs:List FV)(v1:AV)(mr:List (Str×AV)):ao (cf8 w h) (n+4) true (.fr (.lit (.ref 1502))) [.own 1 k1] ⟨loc,ai,am,qp k0 k1 k2 k3 k4 k5 o0 xs v1 mr g,aa⟩ K X=
 (Q [.k k1,.k k2,.k k3,.k k4,.k k5] ((List.map AV.fr xs).length≤100000∧∃l,List.map AV.fr xs=List.map (λq=>AV.fr q.th) l∧(∀(loc:List (Str×AV)) (aa:Nat),Q [.k k5] (xs=xs))∧(∀(k:Nat) (u:Str) (v:Int) (aa:Nat) (K':Option FV→St→Prop),(∀(a:AV) (aa:Nat),K' (some (.az [.str u,.int v])) (St.mk [(bi,a)] [] [] (qp k0 k1 k2 k3 k4 k5 o0 xs v1 mr g) aa))→K' (some (.az [.str u,.int v])) (St.mk [(bi,.fr (j9 k u (.int v) false 3))] [] [] (qp k0 k1 k2 k3 k4 k5 o0 xs v1 mr g) aa))∧(∀(k:Nat) (u:Str) (v:Int) (b:AV) (aa:Nat) (K':Option FV→St→Prop),(∀(a:AV) (aa:Nat),K' (some (.az [.str u,.int v])) (St.mk [(bi,a)] [] [] (qp k0 k1 k2 k3 k4 k5 o0 xs v1 mr g) aa))→K' (some (.az [.str u,.int v])) (St.mk [(bi,.fr (j9 k u (.int v) false 3))] [] [] (qp k0 k1 k2 k3 k4 k5 o0 xs v1 mr g) aa))∧∀(ar2:List (Str×AV)) (aa:Nat),K (.fr (.fl (List.map Lv.lie l))) (St.mk loc ai am (qp k0 k1 k2 k3 k4 k5 o0 xs v1 mr g) aa))):=by kernel_rfl
end
theorem kB:∀xs:List FV,(List.map (λp=>AV.fr (.az [p.fst,p.snd])) (xs.zip xs))=List.map (λx=>AV.fr (.az [x,x])) xs
 | []=>rfl
 |x::xs=>by rw [List.zip_cons_cons,List.map_cons,List.map_cons,kB xs]
theorem al5 (w:World)(h:Heap)(n:Nat){args:List AV}{S:St}{K:KE}{X:KX}(t:agZ args S K X):ao (cf8 w h) (n+4) true (.fr (.lit (.ref 1507))) args S K X:=by
 refine bz t λa _ q=>hV q λk q=>de q λy _ q=>a0 q λq=>iW q λys q=>ak1 q λloc ai am aa g q=>bD q λk0 o0 g q=>bD q λk4 o4 g q=>bD q λk3 o3 g q=>bD q λk5 o g q=>pG q λxs q=>?_
 obtain ⟨rfl,rfl,hl,hx,t⟩:=q
 rw [al2]
 refine Aa rfl ⟨by lia,by lia,ze rfl (Aa rfl ⟨by rw [kB,List.length_map]; lia,_,kB _,hx,λ_ _=>⟨Aa rfl rfl,rfl⟩,λaa c C f K' k=>Aa rfl (k _ _ _),λa b aa c C f K' k=>Aa rfl (k _ _ _),λ_ aa=>⟨List.replicate _ true,(List.map_replicate).symm,?_⟩⟩)⟩
 have:∀m,(List.replicate m true).all (λa=>a)=true:=λm=>by simp
 rw [this]
 exact t _
theorem al6 (w:World)(h:Heap)(n:Nat){args:List AV}{S:St}{K:KE}{X:KX}(t:ah0 args S K X):ao (cf8 w h) (n+4) true (.fr (.lit (.ref 1502))) args S K X:=by
 refine bz t λa _ q=>a0 q λq=>ki q λloc ai am aa k0 k1 k2 k3 k4 k5 o0 xs v1 mr g ⟨l,hx,hl,t⟩=>?_
 subst hx
 rw [al4]
 exact Aa rfl ⟨by rw [List.length_map]; lia,l,by rw [List.map_map]; rfl,λ_ _=>Aa rfl rfl,λk u v aa K' k'=>k' _ _,λk u v b aa K' k'=>k' _ _,λ_ aa=>t _⟩
def E8 (w:World)(h:Heap):List (Addr×CT):=(1507,agZ)::(1502,ah0)::(1469,aqU)::E7 w h
theorem Ba {w:World}{h:Heap}(Y:YL w h):AN w h 68 (E8 w h):=
 .cons (λB=>(aC (aa8 Y) rfl rfl 4 (λ_ _ _ _ t=>al5 w h 0 t) B).up 38) (.cons (λB=>(aC (aa8 Y) rfl rfl 4 (λ_ _ _ _ t=>al6 w h 0 t) B).up 38) (.cons (λB=>(aC (zH Y) rfl rfl 4 (λ_ _ _ _ t=>aqV w h 0 t) B).up 38) (Bt Y)))
theorem al7 {w:World}{h:Heap}(Y:YL w h):∀B,Ag (je w h) (52,B) 68 true (only 1133 al0):=λB=>(aC (uH Y) rfl rfl 6 (λ_ _ _ _ t=>aqY w h 0 t) B).up 10
theorem aa9 {w:World}{h:Heap}(Y:YL w h):∀B,Ag (je w h) (52,B) 68 true (only 1133 adb):=λB=>(aC (uH Y) rfl rfl 6 (λ_ _ _ _ t=>aqX w h 0 t) B).up 10
section
def al8 (w1 w2 w3 w4:Int)(a1 a2 a3 a4:FV)(p1 p2 p3 p4:Pv):FV:=.ds [(aW,.az [.int w1,a1,bC p1]),(bM,.az [.int w2,a2,bC p2]),(bN,.az [.int w3,a3,bC p3]),(bk,.az [.int w4,a4,bC p4])]
abbrev D4.v (d:D4):FV:=al8 d.w1 d.w2 d.w3 d.w4 d.a1 d.a2 d.a3 d.a4 d.p.p1 d.p.p2 d.p.p3 d.p.p4
def ER (w:World)(h:Heap):List (Addr×CT):=(1133,al0)::E8 w h
theorem Cn {w:World}{h:Heap}(Y:YL w h):AN w h 68 (ER w h):=
 .cons (al7 Y) (Ba Y)
abbrev cfR (w:World)(h:Heap):Cf:=cf w h (du (ER w h)) dr nh fW ni
theorem al9 {w:World}{h:Heap}(Y:YL w h):AB (cfR w h) 68:=cq Y eM bo cJ eN (Cn Y).f6
end
section
variable (w:World) (h:Heap) (n:Nat) (aa:Nat) (loc:List (Str×AV)) (ai:List (Str×Nat×Nat)) (am g:OL) (S:St) (K:KE) (X:KX)
theorem adf (κ:Ky)(tx:List FV)(tc:Int)(k5:Nat)(xs:List FV)(o:Nat)(sn:Int)(sb:Bool)(aH:FV)(m:Sp)(bg pt:FV)(ks:List FV)(aM:Nat)(own:List FV):ao (cfR w h) (n+6) true (.fr (.lit (.ref 692))) [.own 1 κ.e,.fr (dI o #[112,97,116,104,102,111,114,97,108,108])] ⟨loc,ai,am,gl κ tx tc k5 xs sn sb aH (.list []) (cy m) bg pt ks ((14,aM,.list own)::g),aa⟩ K X=
 (Q [.y κ 0x2323454545,.k k5] (xs.length≤1000000∧Q [.y κ 0x645,.l 0 1000000,.y κ 0x4545] (∃(σ:MS),[AV.own 1 κ.e]=[.own 1 κ.e]∧cS κ tx tc k5 xs sn sb (dI o (Array.mk [112,97,116,104,102,111,114,97,108,108])) m bg pt ks aM own g=cS κ σ.tx σ.tc σ.k5 σ.xs σ.sn σ.sb σ.aH σ.m σ.bg σ.pt σ.ks σ.aM σ.own g∧σ.ks.length≤1000∧∃b,AQ σ.xs b∧∀(ys:List FV) (e:Addr),Q [.y κ 0x64545,.l 0 1000000,.y κ 0x2345] (xs.length≤1000000∧Q [.y κ 0x454523] (Value.ref e=Value.ref e∧X (.bytes b) (St.mk loc ai am (cS κ σ.tx σ.tc aa xs σ.sn σ.sb σ.aH σ.m σ.bg σ.pt σ.ks σ.aM σ.own g) (aa+1))∧∀(u:Value),X (.bytes b) (St.mk loc ai am (cS κ σ.tx σ.tc aa xs σ.sn σ.sb σ.aH σ.m σ.bg σ.pt σ.ks σ.aM σ.own g) (aa+1))))))):=by kernel_rfl
end
def aaa:CT:=λargs S _ X=>∃(o:Nat) (σ:MS),args=[.own 1 (dw S.af).e,.fr (dI o #[112,97,116,104,102,111,114,97,108,108])]∧S.af=σ.no (dw S.af) (S.af.drop 13)∧σ.ks.length≤1000∧σ.xs.length≤1000∧
 let go:=λb=>∀k5 aH aa,X (.bytes b) ⟨S.loc,S.ai,S.am,cS (dw S.af) σ.tx σ.tc k5 σ.xs σ.sn σ.sb aH σ.m σ.bg σ.pt σ.ks σ.aM σ.own (S.af.drop 13),aa⟩
 (AQ σ.xs bSU∧go bSU)∨(AQ σ.xs bTC∧go bTC)∨(AQ σ.xs bIA∧go bIA)
theorem adg (w:World)(h:Heap)(n:Nat){args:List AV}{S:St}{K:KE}{X:KX}(t:aaa args S K X):ao (cfR w h) (n+6) true (.fr (.lit (.ref 692))) args S K X:=by
 obtain ⟨loc,ai,am,af,aa⟩:=S
 obtain ⟨o,σ,rfl,e,jJ,hl,t⟩:=t
 dsimp only at e t ⊢
 generalize dw af=κ at e t ⊢
 generalize af.drop 13=r at e t
 subst e
 refine (adf ..).mpr ?_
 obtain ⟨b,hR,t⟩:∃b,AQ σ.xs b∧∀k5 aH aa,X (.bytes b) ⟨loc,ai,am,cS κ σ.tx σ.tc k5 σ.xs σ.sn σ.sb aH σ.m σ.bg σ.pt σ.ks σ.aM σ.own r,aa⟩:=by
  rcases t with t|t|t <;> exact ⟨_,t⟩
 exact Aa rfl ⟨by lia,Aa rfl ⟨{σ with aH:=dI o #[112,97,116,104,102,111,114,97,108,108]},rfl,rfl,jJ,b,hR,λys e=>Aa rfl ⟨by lia,Aa rfl ⟨rfl,t _ _ _,λ_=>t _ _ _⟩⟩⟩⟩
def De (w:World)(h:Heap):List (Addr×CT):=(692,aaa)::(1422,eP)::E8 w h
theorem B3 {w:World}{h:Heap}(Y:YL w h):AN w h 80 (De w h):=.cons (aC (al9 Y) rfl rfl 6 (λ_ _ _ _ t=>adg w h 0 t)) (.cons (((Bl Y).up 78) (1422,eP) (by unfold E0; exact .head _)) ((Ba Y).up 12))
abbrev ala (w:World)(h:Heap):Cf:=cf w h (du (De w h)) dr nh fW ni
theorem adh {w:World}{h:Heap}(Y:YL w h):AB (ala w h) 80:=cq Y eM bo cJ eN (B3 Y).f6
section
section
variable (κ:Ky) (ρ:MS) (K:KE) (loc:List (Str×AV)) (ai:List (Str×Nat×Nat)) (am:OL)
def rfS (σ:MS)(aH:FV)(aa:Nat):St:=St.mk loc ai am (cS κ σ.tx σ.tc aa (List.take 0 σ.xs) σ.sn σ.sb aH σ.m σ.bg σ.pt σ.ks σ.aM σ.own []) (aa+1)
def rf0 (σ:MS)(k5:Nat)(aH:FV)(aa:Nat):Prop:=Q [.y κ 0x232345,.k k5] (σ.xs.length≤1000000∧Q [.i 0 0,.y κ 0x23] (K (.fr (.bool false)) (rfS κ loc ai am σ aH aa)))
def rf1 (ys:List FV)(σ:MS)(k5:Nat)(aH:FV)(_:Nat):Prop:=Q [.y κ 0x2345,.k k5] (σ.xs=ys∧ys.length≤1000∧(∀x∈ys,∃c C f,x=.rc c C f)∧∀aa,Q [.y κ 0x232345645,.k k5] (σ.xs.length≤1000000∧Q [.i 0 0,.y κ 0xb9a9a784523] (σ.ks.length≤1000000∧ρ.aM=σ.aM∧(∀x∈σ.ks,nE x)∧σ.ks=σ.own∧K (.fr (.bool true)) (rfS κ loc ai am σ aH aa))))
def rfE (P:Nat→FV→Nat→Prop):Prop:=∀(k5:Nat) (aH:FV) (aa:Nat) (e:Addr),Value.ref e=Value.ref e∧P k5 aH aa∧(Value→P k5 aH aa)
def rfG (o:Nat)(xs:List FV)(c:Int)(ys:List FV)(A B C:MS→Nat→FV→Nat→Prop):Prop:=∃(o':Nat) (σ:MS),[AV.own 1 κ.e,.fr (dI o #[112,97,116,104,102,111,114,97,108,108])]=[.own 1 κ.e,.fr (dI o' #[112,97,116,104,102,111,114,97,108,108])]∧cS κ xs c ρ.k5 ys 0 false ρ.aH ρ.m ρ.bg ρ.pt ρ.ks ρ.aM ρ.ks []=σ.no κ []∧σ.ks.length≤1000∧σ.xs.length≤1000∧((AQ σ.xs #[115,116,97,99,107,117,110,100,101,114,102,108,111,119]∧rfE (A σ))∨(AQ σ.xs #[116,121,112,101,99,104,101,99,107]∧rfE (B σ))∨AQ σ.xs #[105,110,118,97,108,105,100,97,99,99,101,115,115]∧rfE (C σ))
def rfI (p:P4)(aa:Nat)(r:Int)(x:FV)(a:Nat)(xs:List FV)(c:Int)(A B C:MS→Nat→FV→Nat→Prop):Prop:=0≤r∧r<4∧Q [.l 4 1000000,.y κ 0x2345,.z aa 0x22,.y κ 0x23,.k ρ.k5] (0+(p.l.set r.toNat x).length≤200∧Q [.y κ 0x45,.z a 0x1212121212] (rfG κ ρ (a+1) xs c (p.l.set r.toNat x) A B C))
end
def rfX (aa:Nat):FV:=j9 (aa+9) gW (ib (aa+7) (aa+5) [bQ (aa+3) 7] 1) false 3
def rfY (aa:Nat):FV:=eX (aa+9) (aa+7) (aa+5) [bQ (aa+3) 7] 1 0
section
variable (w:World) (h:Heap) (n:Nat) (aa:Nat) (loc:List (Str×AV)) (ai:List (Str×Nat×Nat)) (am:OL) (K:KE) (X:KX)
theorem ar3 (κ:Ky)(ρ:MS)(d:D4):ao (ala w h) (n+10) true (.fr (.lit (.ref 1512))) [.own 1 κ.e,.own 12 κ.a,.own 14 ρ.aM,.fr d.v] ⟨loc,ai,am,gl κ ρ.tx ρ.tc ρ.k5 [] 0 false ρ.aH (.list []) (cy ρ.m) ρ.bg ρ.pt ρ.ks [(14,ρ.aM,.list ρ.ks)],aa⟩ K X=
 (Q [.l 4 100000,.tt,.k aa,.tt,.k aa,.tt,.k aa,.tt,.k aa,.tt,.k κ.a,.j 0 5,.i 5 1000000] (As 1000000000 1 ρ.tx ρ.tc λxs c=>∀(r:Int),0≤r→r<5→Q [.k κ.a,.j 0 4,.i 4 1000000] (As 1000000000 1 xs c λxs c=>∀(s:Int),0≤s→s<4→iB (decide (r=0)) (Q [.k (aa+1),.l 4 1000000,.i 0 1,.y κ 0x232345,.k ρ.k5,.l 3 200,.y κ 0x45,.z aa 0x3434343434] (rfG κ ρ (aa+3) xs c [bC d.p.p2,bC d.p.p3,bC d.p.p4] (rf1 κ ρ K loc ai am [bC d.p.p2,bC d.p.p3,bC d.p.p4]) (rf0 κ K loc ai am) (rf0 κ K loc ai am))) (iB (decide (r=1)) (Q [.z aa 0x23434343434] (rfI κ ρ d.p aa s (bQ (aa+3) 7) (aa+4) xs c (rf0 κ K loc ai am) (rf1 κ ρ K loc ai am (d.p.l.set s.toNat (bQ (aa+3) 7))) (rf0 κ K loc ai am))) (iB (decide (r=2)) (Q [.z aa 0x563434343434,.l 1 1000000,.z aa 0x56565656,.l 1 1000000,.z aa 0x29a9a9a9a9a78787878] (rfI κ ρ d.p aa s (rfX aa) (aa+10) xs c (rf0 κ K loc ai am) (rf1 κ ρ K loc ai am (d.p.l.set s.toNat (rfX aa))) (rf0 κ K loc ai am))) (Q [.z aa 0x563434343434,.l 1 1000000,.z aa 0x56565656,.l 1 1000000,.z aa 0x29a9a9a9a9a78787878] (rfI κ ρ d.p aa s (rfY aa) (aa+10) xs c (rf0 κ K loc ai am) (rf0 κ K loc ai am) (rf1 κ ρ K loc ai am (d.p.l.set s.toNat (rfY aa)))))))))):=by kernel_rfl
end
end
theorem aab {p1 p2 p3 p4:Pv}(a1:1≤p1.aJ)(a2:1≤p2.aJ)(a3:1≤p3.aJ)(a4:1≤p4.aJ){t:FV}{b:Array UInt8}(hb:BD t b){r:Int}(h0:0≤r)(h4:r<4):AQ ([bC p1,bC p2,bC p3,bC p4].set r.toNat t) b:=by
 have:r=0∨r=1∨r=2∨r=3:=by lia
 right
 rcases this with rfl|rfl|rfl|rfl
 ·exact ⟨[],t,[p2,p3,p4],rfl,rfl,by simp [a2,a3,a4],hb⟩
 ·exact ⟨[bC p1],t,[p3,p4],rfl,rfl,by simp [a3,a4],hb⟩
 ·exact ⟨[bC p1,bC p2],t,[p4],rfl,rfl,by simp [a4],hb⟩
 ·exact ⟨[bC p1,bC p2,bC p3],t,[],rfl,rfl,by simp,hb⟩
theorem aac {p1 p2 p3 p4:Pv}{t:FV}(ht:∃c C f,t=.rc c C f)(i:Nat):∀x∈[bC p1,bC p2,bC p3,bC p4].set i t,∃c C f,x=.rc c C f:=by
 intro x hx
 rcases List.mem_or_eq_of_mem_set hx with hx|rfl
 ·simp only [List.mem_cons,List.not_mem_nil,or_false] at hx
  rcases hx with rfl|rfl|rfl|rfl <;> exact ⟨_,_,_,rfl⟩
 ·exact ht
def ar4:CT:=λargs S K _=>∃(σ:MS) (d:D4) (b:Nat),args=[.own 1 (dw S.af).e,.own 12 (dw S.af).a,.own 14 σ.aM,.fr d.v]∧S.af=gl (dw S.af) σ.tx σ.tc σ.k5 [] 0 false σ.aH (.list []) (cy σ.m) σ.bg σ.pt σ.ks [(14,σ.aM,.list σ.ks)]∧
 d.p.aJ∧σ.ks.length≤1000∧(∀x∈σ.ks,nE x)∧b<700000000∧Af b σ.tx σ.tc∧
 ∀pZ p5 jf ky ay,K (.fr (.bool true)) ⟨S.loc,S.ai,S.am,gl (dw S.af) pZ p5 jf [] 0 false ky (.list []) (cy σ.m) σ.bg σ.pt σ.ks [(14,σ.aM,.list σ.ks)],ay⟩
section
variable {κ:Ky} {ρ:MS} {d:D4} {K:KE} {loc:List (Str×AV)} {ai:List (Str×Nat×Nat)} {am:OL} {xs ys:List FV} {c:Int} {aa:Nat}
theorem aad (ly:ys.length≤1000)(rc:∀x∈ys,∃c C f,x=FV.rc c C f)(hk:ρ.ks.length≤1000)(hsc:∀x∈ρ.ks,nE x)(t:∀pZ p5 jf ky ay,K (.fr (.bool true)) ⟨loc,ai,am,gl κ pZ p5 jf [] 0 false ky (.list []) (cy ρ.m) ρ.bg ρ.pt ρ.ks [(14,ρ.aM,.list ρ.ks)],ay⟩):rfE (rf1 κ ρ K loc ai am ys ⟨xs,c,ρ.k5,ys,0,false,ρ.aH,ρ.m,ρ.bg,ρ.pt,ρ.ks,ρ.aM,ρ.ks⟩):=
 λk5 aH aa e=>have g:rf1 κ ρ K loc ai am ys ⟨xs,c,ρ.k5,ys,0,false,ρ.aH,ρ.m,ρ.bg,ρ.pt,ρ.ks,ρ.aM,ρ.ks⟩ k5 aH aa:=Aa rfl ⟨rfl,ly,rc,λ_=>Aa rfl ⟨Nat.le_trans ly (by decide),Aa rfl ⟨Nat.le_trans hk (by decide),rfl,hsc,rfl,t _ _ _ _ _⟩⟩⟩
  ⟨rfl,g,λ_=>g⟩
theorem aae {o:Nat}{A B C:MS→Nat→FV→Nat→Prop}(ly:ys.length≤1000)(hk:ρ.ks.length≤1000)(g:∀σ:MS,σ=⟨xs,c,ρ.k5,ys,0,false,ρ.aH,ρ.m,ρ.bg,ρ.pt,ρ.ks,ρ.aM,ρ.ks⟩→(AQ σ.xs #[115,116,97,99,107,117,110,100,101,114,102,108,111,119]∧rfE (A σ))∨(AQ σ.xs #[116,121,112,101,99,104,101,99,107]∧rfE (B σ))∨AQ σ.xs #[105,110,118,97,108,105,100,97,99,99,101,115,115]∧rfE (C σ)):rfG κ ρ o xs c ys A B C:=
 ⟨o,⟨xs,c,ρ.k5,ys,0,false,ρ.aH,ρ.m,ρ.bg,ρ.pt,ρ.ks,ρ.aM,ρ.ks⟩,rfl,rfl,hk,ly,g _ rfl⟩
theorem s3 {s:Int}{x:FV}{a:Nat}{A B C:MS→Nat→FV→Nat→Prop}(s0:0≤s)(s4:s<4)(hk:ρ.ks.length≤1000)(g:∀σ:MS,σ=⟨xs,c,ρ.k5,d.p.l.set s.toNat x,0,false,ρ.aH,ρ.m,ρ.bg,ρ.pt,ρ.ks,ρ.aM,ρ.ks⟩→(AQ σ.xs #[115,116,97,99,107,117,110,100,101,114,102,108,111,119]∧rfE (A σ))∨(AQ σ.xs #[116,121,112,101,99,104,101,99,107]∧rfE (B σ))∨AQ σ.xs #[105,110,118,97,108,105,100,97,99,99,101,115,115]∧rfE (C σ)):rfI κ ρ d.p aa s x a xs c A B C:=
 ⟨s0,s4,Aa rfl ⟨by rw [List.length_set]; exact (by decide:0+4≤200),Aa rfl (aae (by rw [List.length_set]; exact (by decide:4≤1000)) hk g)⟩⟩
theorem s5 {s:Int}{x:FV}(hx:∃c C f,x=FV.rc c C f)(hk:ρ.ks.length≤1000)(hsc:∀x∈ρ.ks,nE x)(t:∀pZ p5 jf ky ay,K (.fr (.bool true)) ⟨loc,ai,am,gl κ pZ p5 jf [] 0 false ky (.list []) (cy ρ.m) ρ.bg ρ.pt ρ.ks [(14,ρ.aM,.list ρ.ks)],ay⟩){σ:MS}(e:σ=⟨xs,c,ρ.k5,d.p.l.set s.toNat x,0,false,ρ.aH,ρ.m,ρ.bg,ρ.pt,ρ.ks,ρ.aM,ρ.ks⟩):rfE (rf1 κ ρ K loc ai am (d.p.l.set s.toNat x) σ):=
 e▸aad (by rw [List.length_set]; exact (by decide:4≤1000)) (aac hx _) hk hsc t
end
theorem ar5 (w:World)(h:Heap)(n:Nat){args:List AV}{S:St}{K:KE}{X:KX}(t:ar4 args S K X):ao (ala w h) (n+10) true (.fr (.lit (.ref 1512))) args S K X:=by
 obtain ⟨loc,ai,am,af,aa⟩:=S
 obtain ⟨σ,d,b,rfl,e,ac,jJ,hsc,hb,tv,t⟩:=t
 dsimp only at e t ⊢
 generalize dw af=κ at e t ⊢
 subst e
 have rx:=λ{x b}=>aab (t:=x) (b:=b) ac.1 ac.2.1 ac.2.2.1 ac.2.2.2
 exact (ar3 ..).mpr (Aa rfl (.mk tv (by lia) λ_ _ t1 r _ _=>Aa rfl (.mk t1 (by lia) λ_ _ _ s s0 s4=>fu (λ_=>Aa rfl (aae (by decide:3≤1000) jJ λ_ e=>.inl ⟨by rw [e]; exact .inl ⟨Nat.le_refl 3,rfl⟩,e▸aad (by decide:3≤1000) (λx hx=>aac (t:=bC d.p.p2) (p1:=d.p.p2) ⟨_,_,_,rfl⟩ 0 x (.tail _ hx)) jJ hsc t⟩)) λ_=>fu (λ_=>Aa rfl (s3 s0 s4 jJ λ_ e=>.inr (.inl ⟨by rw [e]; exact rx (.inl ⟨_,_,rfl,rfl⟩) s0 s4,s5 ⟨_,_,_,rfl⟩ jJ hsc t e⟩))) λ_=>fu (λ_=>Aa rfl (s3 s0 s4 jJ λ_ e=>.inr (.inl ⟨by rw [e]; exact rx (.inr (.inl ⟨_,_,_,_,_,rfl,rfl⟩)) s0 s4,s5 ⟨_,_,_,rfl⟩ jJ hsc t e⟩))) λ_=>Aa rfl (s3 s0 s4 jJ λ_ e=>.inr (.inr ⟨by rw [e]; exact rx (.inr (.inr ⟨⟨_,_,_,_,1,0⟩,rfl,Int.le_refl 0,rfl⟩)) s0 s4,s5 ⟨_,_,_,rfl⟩ jJ hsc t e⟩)))))
section
def EK (w:World)(h:Heap):List (Addr×CT):=(1133,adb)::E8 w h
theorem Co {w:World}{h:Heap}(Y:YL w h):AN w h 68 (EK w h):=.cons (aa9 Y) (Ba Y)
abbrev cfK (w:World)(h:Heap):Cf:=cf w h (du (EK w h)) dr nh fW ni
theorem alb {w:World}{h:Heap}(Y:YL w h):AB (cfK w h) 68:=cq Y eM bo cJ eN (Co Y).f6
end
section
variable (w:World) (h:Heap) (n:Nat) (aa:Nat) (loc:List (Str×AV)) (ai:List (Str×Nat×Nat)) (am g:OL) (S:St) (K:KE) (X:KX)
theorem adi (κ:Ky)(tx:List FV)(tc:Int)(k5:Nat)(p1 p2 p3 p4:Pv)(o:Nat)(sn:Int)(sb:Bool)(aH:FV)(m:Sp)(bg pt:FV)(ks:List FV)(aM:Nat)(own:List FV):ao (cfK w h) (n+6) true (.fr (.lit (.ref 692))) [.own 1 κ.e,.fr (dI o #[112,97,116,104,102,111,114,97,108,108])] ⟨loc,ai,am,gl κ tx tc k5 [bC p1,bC p2,bC p3,bC p4] sn sb aH (.list []) (cy m) bg pt ks ((14,aM,.list own)::g),aa⟩ K X=
 (Q [.y κ 0x2323454545,.k k5,.l 4 1000000,.y κ 0x645,.l 0 1000000,.y κ 0x4545] (∃(σ:MS) (p:P4),[AV.own 1 κ.e]=[.own 1 κ.e]∧cS κ tx tc k5 [bC p1,bC p2,bC p3,bC p4] sn sb (dI o (Array.mk [112,97,116,104,102,111,114,97,108,108])) m bg pt ks aM own g=cS κ σ.tx σ.tc σ.k5 [bC p.p1,bC p.p2,bC p.p3,bC p.p4] σ.sn σ.sb σ.aH σ.m σ.bg σ.pt σ.ks σ.aM σ.own g∧σ.ks.length≤1000∧p.aJ∧∀(b8 ce ay:Nat),Q [.y κ 0x4545] (K (.fr .none) (St.mk loc ai am (kY κ σ.tx σ.tc σ.k5 [] σ.sn σ.sb σ.aH σ.m σ.bg σ.pt σ.ks σ.aM σ.own b8 ce .none (.fl σ.ks) (sJ p.p1 p.p2 p.p3 p.p4) 0 []) ay)))):=by kernel_rfl
end
section
def s6:CT:=λargs S K _=>∃(o:Nat) (σ:MS) (p:P4),args=[.own 1 (dw S.af).e,.fr (dI o #[112,97,116,104,102,111,114,97,108,108])]∧S.af=σ.on (dw S.af) p.l (S.af.drop 13)∧σ.ks.length≤1000∧p.aJ∧∀b8 ce aH aa,K (.fr .none) ⟨S.loc,S.ai,S.am,σ.pa (dw S.af) p aH b8 ce,aa⟩
theorem adj (w:World)(h:Heap)(n:Nat){args:List AV}{S:St}{K:KE}{X:KX}(t:s6 args S K X):ao (cfK w h) (n+6) true (.fr (.lit (.ref 692))) args S K X:=by
 obtain ⟨loc,ai,am,af,aa⟩:=S
 obtain ⟨o,σ,p,rfl,e,jJ,a,t⟩:=t
 dsimp only at e t ⊢
 generalize dw af=κ at e t ⊢
 generalize af.drop 13=r at e t
 subst e
 exact (adi ..).mpr (Aa rfl ⟨{σ with aH:=dI o #[112,97,116,104,102,111,114,97,108,108]},p,rfl,rfl,jJ,a,λ_ _ _=>Aa rfl (t _ _ _ _)⟩)
end
section
noncomputable def aaf:Str:=Str.mk (Array.mk [105,115,95,108,101,100])
noncomputable def ar6:Str:=Str.mk (Array.mk [100,117,101])
noncomputable def Ab.tag:Ab→Int
 |.m _ _=>1
 |.l _ _=>2
 |.c _ _ _ _ _ _=>3
 |.z=>4
def cT (wy:Ab→Int)(r:Ab)(m:Sp):List (Str×Int):=(r.aq m).eu.map (λv=>(dp,v))++if wy r=1 then [] else [(v6,r.tag)]
def bE (wy:Ab→Int)(hm:Ab→Sp)(r:Ab)(m:Sp):Sp:=if wy r=2 then (hm r).bf m else m
noncomputable def bp (wy:Ab→Int)(hm:Ab→Sp):List Ab→Sp→List (Str×Int)×Sp×Bool
 | [],m=>([],m,true)
 |r::rs,m=>match aY m r with
  |true=>([],m,false)
  |false=>if wy r=3 then (cT wy r m,bE wy hm r m,true) else
   (cT wy r m++(bp wy hm rs (bE wy hm r m)).1,(bp wy hm rs (bE wy hm r m)).2.1,(bp wy hm rs (bE wy hm r m)).2.2)
def Bm (wy:Ab→Int)(hm:Ab→Sp):List Ab→Sp→Prop
 | [],_=>True
 |r::rs,m=>Bc m r∧(aY m r=false→(wy r=2→AL (hm r)∧AL m)∧(wy r≠3→Bm wy hm rs (bE wy hm r m)))
noncomputable def iO (p:Str×Int):FV:=.az [.str p.1,.int p.2]
noncomputable def Ab.of {α:Type}(r:Ab)(a b c d:α):α:=match r with
 |.m _ _=>a
 |.l _ _=>b
 |.c _ _ _ _ _ _=>c
 |.z=>d
def aU (d:D4)(r:Ab):Int:=r.of d.w1 d.w2 d.w3 d.w4
noncomputable def adk (x:FV):Sp:=match x with
 |.fl [.int a,.int b,.int c,.int d,.int e,.int f]=>⟨a,b,c,d,e,f⟩
 |_=>⟨0,0,0,0,0,0⟩
def bF (d:D4)(r:Ab):Sp:=adk (r.of d.a1 d.a2 d.a3 d.a4)
structure GP where
 (κ:Ky) (kc aM kd:Nat) (tx:List FV) (tc:Int) (k5:Nat) (aH:FV) (m0:Sp) (bg pt:FV) (ae:List Ab) (d:D4) (ms:Sp) (nx:Nat)
def lZ (π:GP)(ex:List (Str×AV))(qo:Bool)(m:Sp)(bX:List FV)(aa:Nat):St:=
 ⟨(pS,.own 14 π.aM)::(b7,.own 1 π.κ.e)::(aaf,.fr (.bool qo))::(ar6,.own 106 π.kd)::(jd,.fr (cy m))::ex,[(px,300,π.kc)],[(300,π.kc,.cell (some (.fr π.d.v))),(106,π.kd,.list bX)],cS π.κ π.tx π.tc π.k5 [] 0 false π.aH π.m0 π.bg π.pt (π.ae.map Ab.fv) π.aM (π.ae.map Ab.fv) [],aa⟩
def wx (a b:AV):List (Str×AV):=[(dM,a),(gs,b)]
def wA (a b c d:AV):List (Str×AV):=[(dM,a),(gs,b),(amv,c),(ac0,d)]
structure A6 (π:GP)(r:Ab)(m:Sp)(bX:List FV)(K':KF)(B:Prop):Prop where
 len:bX.length≤900000
 qo:Bc m r
 i6:aY m r=false→aU π.d r=2→AL (bF π.d r)∧AL m
 bad:aY m r=true→B
 brk:aY m r=false→aU π.d r=3→∀a b c d aa nj m',nj=bX++(cT (aU π.d) r m).map iO→m'=bE (aU π.d) (bF π.d) r m→K' .brk (lZ π (wA a b c d) true m' nj aa)
 aa:aY m r=false→aU π.d r≠3→∀a b c d aa nj m',nj=bX++(cT (aU π.d) r m).map iO→m'=bE (aU π.d) (bF π.d) r m→K' .next (lZ π (wA a b c d) true m' nj aa)
theorem A6.to {π:GP}{r:Ab}{m:Sp}{bX:List FV}{K':KF}{B C:Prop}(H:A6 π r m bX K' B)(f:B→C):A6 π r m bX K' C:=⟨H.len,H.qo,H.i6,λhb=>f (H.bad hb),H.brk,H.aa⟩
def uI:AX:=λaA aV items S K X=>∃π:GP,
 S=lZ π [] true π.ms [] π.nx∧items=π.ae.map (λr=>.fr r.fv)∧π.ae.length≤1000∧Bm (aU π.d) (bF π.d) π.ae π.ms∧
 (∀ex qo m bX aa,aV (lZ π ex qo m bX aa))∧
 (∀r m bX aa (K':KF) (X':KX),A6 π r m bX K' (∀a b aa,K' .brk (lZ π (wx a b) false m bX aa))→aA (.fr r.fv) (lZ π [] true m bX aa) K' X')∧
 (∀r m bX aa (K':KF) (X':KX),A6 π r m bX K' (∀a b c d aa,K' .brk (lZ π (wA a b c d) false m bX aa))→∀a b c d,aA (.fr r.fv) (lZ π (wA a b c d) true m bX aa) K' X')∧
 (bp (aU π.d) (bF π.d) π.ae π.ms=([],π.ms,true)→K .next (lZ π [] true π.ms [] π.nx))∧
 (bp (aU π.d) (bF π.d) π.ae π.ms=([],π.ms,false)→∀a b aa,K .next (lZ π (wx a b) false π.ms [] aa))∧
 (∀q m' a b c d aa,bp (aU π.d) (bF π.d) π.ae π.ms=(q,m',true)→K .next (lZ π (wA a b c d) true m' (q.map iO) aa))∧
 ∀q m' a b c d aa,bp (aU π.d) (bF π.d) π.ae π.ms=(q,m',false)→K .next (lZ π (wA a b c d) false m' (q.map iO) aa)
theorem ig (wy:Ab→Int)(r:Ab)(m:Sp):(cT wy r m).length≤7:=by
 unfold cT
 have:(r.aq m).eu.length≤6:=by cases r <;> (show List.length _≤6; simp [Ab.aq,Ab.qo,Ab.eu])
 rw [List.length_append,List.length_map]
 split <;> simp <;> lia
theorem s7:AK uI:=by
 intro aA aV items S K X h
 refine h.elim λπ H=>?_
 have eS:=H.1
 have eI:=H.2.1
 have hl:=H.2.2.1
 have ok:=H.2.2.2.1
 have hc:=H.2.2.2.2.1
 have h1:=H.2.2.2.2.2.1
 have h2:=H.2.2.2.2.2.2.1
 have k0:=H.2.2.2.2.2.2.2.1
 have kf:=H.2.2.2.2.2.2.2.2.1
 have kt:=H.2.2.2.2.2.2.2.2.2.1
 have kn:=H.2.2.2.2.2.2.2.2.2.2
 clear H h
 subst eS eI
 have pW:∀(l:List Ab) (q0:List (Str×Int)) (m1:Sp) a b c d aa,q0.length+7*l.length≤7000→Bm (aU π.d) (bF π.d) l m1→(∀q m2 x,bp (aU π.d) (bF π.d) l m1=(q,m2,x)→bp (aU π.d) (bF π.d) π.ae π.ms=(q0++q,m2,x))→
   ee aV aA (l.map λr=>.fr r.fv) (lZ π (wA a b c d) true m1 (q0.map iO) aa) K X:=by
  intro l
  induction l with
  |nil=>
   intro q0 m1 a b c d aa _ _ h
   refine ⟨hc _ _ _ _ _,kt _ _ _ _ _ _ _ ?_⟩
   have:=h [] m1 true rfl
   rw [List.append_nil] at this
   exact this
  |cons r l ih=>
   intro q0 m1 a b c d aa hq ok h
   rw [List.length_cons] at hq
   refine ⟨hc _ _ _ _ _,h2 r m1 _ aa _ _ ⟨by rw [List.length_map]; lia,ok.1,λhb=>(ok.2 hb).1,λhb a b c d aa=>?_,λhb h3 a b c d aa nj m' e1 e2=>?_,λhb h3 a b c d aa nj m' e1 e2=>?_⟩ a b c d⟩
   ·have e:bp (aU π.d) (bF π.d) (r::l) m1=([],m1,false):=by unfold bp; rw [hb]
    have:=h _ _ _ e
    rw [List.append_nil] at this
    exact kn _ _ _ _ _ _ _ this
   ·have e:bp (aU π.d) (bF π.d) (r::l) m1=(cT (aU π.d) r m1,bE (aU π.d) (bF π.d) r m1,true):=by unfold bp; rw [hb]; dsimp only; rw [if_pos h3]
    have:=h _ _ _ e
    subst e1 e2
    rw [←List.map_append]
    exact kt _ _ _ _ _ _ _ this
   ·subst e1 e2
    show ee aV aA (l.map λr=>.fr r.fv) _ K X
    rw [←List.map_append]
    refine ih _ _ _ _ _ _ _ (by have:=ig (aU π.d) r m1; rw [List.length_append]; lia) ((ok.2 hb).2 h3) λq m2 x e=>?_
    have e':bp (aU π.d) (bF π.d) (r::l) m1=(cT (aU π.d) r m1++q,m2,x):=by unfold bp; rw [hb]; dsimp only; rw [if_neg h3,e]
    rw [h _ _ _ e',List.append_assoc]
 cases hr:π.ae with
 |nil=>exact ⟨hc _ _ _ _ _,k0 (by rw [hr]; rfl)⟩
 |cons r l=>
  rw [hr] at ok hl
  refine ⟨hc _ _ _ _ _,h1 r π.ms [] π.nx _ _ ⟨Nat.zero_le _,ok.1,λhb=>(ok.2 hb).1,λhb a b aa=>?_,λhb h3 a b c d aa nj m' e1 e2=>?_,λhb h3 a b c d aa nj m' e1 e2=>?_⟩⟩
  ·exact kf (by rw [hr]; unfold bp; rw [hb]) _ _ _
  ·have e:bp (aU π.d) (bF π.d) (r::l) π.ms=(cT (aU π.d) r π.ms,bE (aU π.d) (bF π.d) r π.ms,true):=by unfold bp; rw [hb]; dsimp only; rw [if_pos h3]
   subst e1 e2
   exact kt _ _ _ _ _ _ _ (by rw [hr]; exact e)
  ·subst e1 e2
   refine pW l (cT (aU π.d) r π.ms) _ _ _ _ _ _ (by have:=ig (aU π.d) r π.ms; rw [List.length_cons] at hl; lia) ((ok.2 hb).2 h3) λq m2 x e=>?_
   rw [hr]; unfold bp; rw [hb]; dsimp only; rw [if_neg h3,e]
def uJ (l:List (Str×AV)):Option Bool:=match l.lookup aaf with
 |some (.fr (.bool b))=>some b
 |_=>none
noncomputable def Lv.pr (q:Lv):Str×Int:=(q.u,q.v)
def Ao (m:Sp)(ae:List Ab)(d:D4):Prop:=
 AE 0 m∧(∀r∈ae,r.iZ 20000000)∧ae.length≤10∧AM aW d.w1 d.a1 d.p.p1.items d.p.p1.n∧AM bM d.w2 d.a2 d.p.p2.items d.p.p2.n∧AM bN d.w3 d.a3 d.p.p3.items d.p.p3.n∧AM bk d.w4 d.a4 d.p.p4.items d.p.p4.n∧d.p.aJ
structure R1 where
 (σ:MS) (ae:List Ab) (b8 ce:Nat) (d:D4)
abbrev R1.st (x:R1)(κ:Ky):OL:=kY κ x.σ.tx x.σ.tc x.σ.k5 [] x.σ.sn x.σ.sb x.σ.aH x.σ.m x.σ.bg x.σ.pt (x.ae.map Ab.fv) x.σ.aM x.σ.own x.b8 x.ce .none (.fl (x.ae.map Ab.fv)) x.d.p.v 0 []
def aag:CT:=λargs S K X=>∃x:R1,args=[.own 1 (dw S.af).e,.fr (.int 900)]∧S.af=x.st (dw S.af)∧Ao x.σ.m x.ae x.d∧
 match uJ S.loc with
 |some true=>∃q m',bp (aU x.d) (bF x.d) x.ae x.σ.m=(q,m',true)∧∀tx tc k5 l sn aH r aa,List.map Lv.pr l=q→K (.fr (.str uB)) ⟨S.loc,S.ai,S.am,cS (dw S.af) tx tc k5 (List.map Lv.th l) sn false aH m' x.σ.bg x.σ.pt (x.ae.map Ab.fv) x.σ.aM x.σ.own r,aa⟩
 |some false=>∃q m',bp (aU x.d) (bF x.d) x.ae x.σ.m=(q,m',false)∧∀tx tc k5 l sn aH b8 ce pr i r aa,List.map Lv.pr l=q→X (.bytes bUR) ⟨S.loc,S.ai,S.am,kY (dw S.af) tx tc k5 (List.map Lv.th l) sn false aH m' x.σ.bg x.σ.pt (x.ae.map Ab.fv) x.σ.aM x.σ.own b8 ce pr (.fl (x.ae.map Ab.fv)) x.d.p.v i r,aa⟩
 |none=>False
def alc (p:Pos):AX:=match Nat.beq p.line 943 with
 |true=>uI
 |false=>dr p
theorem adl (p:Pos):AK (alc p):=by
 unfold alc
 split
 ·exact s7
 ·exact bo p
abbrev ald (w:World)(h:Heap):Cf:=cf w h (du ((692,s6)::(728,aag)::E8 w h)) alc nh fW ni
end
def dL (l:List Int):List FV:=l.map λv=>.az [.str dp,.int v]
def GP.no (π:GP)(xs:List FV):OL:=cS π.κ π.tx π.tc π.k5 xs 0 false π.aH π.m0 π.bg π.pt (π.ae.map Ab.fv) π.aM (π.ae.map Ab.fv) []
noncomputable def spI (m:Sp):List FV:=[.int m.a,.int m.b,.int m.c,.int m.d,.int m.e,.int m.f]
def goC (π:GP)(bX:List FV)(v:Int)(aa:Nat)(K':Option FV→St→Prop):Prop:=
 (∀(a:AV) (aa:Nat),K' (some (.az [.str dp,.int v])) (St.mk [(cQ,a)] [] [(300,π.kc,.cell (some (.fr π.d.v))),(106,π.kd,.list bX)] (π.no []) aa))→K' (some (.az [.str dp,.int v])) (St.mk [(cQ,.fr (.int v))] [] [(300,π.kc,.cell (some (.fr π.d.v))),(106,π.kd,.list bX)] (π.no []) aa)
def goM (π:GP)(K':KF)(ex:List (Str×AV))(dH:Int)(l:List Int)(bX:List FV)(aa:Nat)(m1:Sp)(t:List FV)(k:Nat):Prop:=
 Q [.k π.kd] ((bX++dL l).length+k≤1000000∧iB (decide (dH=3)) (K' .brk (lZ π ex true m1 (bX++dL l++t) aa)) (K' .next (lZ π ex true m1 (bX++dL l++t) aa)))
def goG (r:Ab)(G:Int→Prop):Prop:=∃(r4:Ab),r.fv=r4.fv∧∃fs u v,AV.fr (.ds [(aW,.int 1),(bM,.int 2),(bN,.int 3),(bk,.int 4)])=.fr (.ds fs)∧AV.fr (.str r4.w)=.fr (.str u)∧qd u fs=some (FV.int v)∧G v
def goQ (v:FV)(r:Ab)(G:Int→FV→Prop):Prop:=∃(r2:Ab),r.fv=r2.fv∧∃fs u dH ah q,AV.fr v=.fr (.ds fs)∧AV.fr (.str r2.w)=.fr (.str u)∧qd u fs=some (.az [.int dH,ah,q])∧G dH ah
def goN (π:GP)(K':KF)(ex:List (Str×AV))(r:Ab)(dH:Int)(l:List Int)(bX:List FV)(aa:Nat)(m1:Sp):Prop:=
 Q [.k π.kd] (iB (!decide (dH=1)) (goG r λv=>goM π K' ex dH l bX aa m1 [FV.az [.str v6,.int v]] 1) (goM π K' ex dH l bX aa m1 [] 0))
def goR (π:GP)(K':KF)(r r1:Ab)(m:Sp)(bX:List FV):Prop:=
 Q [.k π.kc] (goQ π.d.v r λdH _=>Q [.k π.kc] (goQ π.d.v r λ_ ah=>Q [.k π.kd] ((List.map AV.fr (List.map FV.int (r1.aq m).eu)).length≤100000∧∃l,List.map AV.fr (List.map FV.int (r1.aq m).eu)=List.map (λq=>AV.fr (.int q)) l∧(∀(loc:List (Str×AV)) (aa:Nat),True)∧(∀v aa K',goC π bX v aa K')∧(∀(v:Int) (b:AV) aa K',goC π bX v aa K')∧∀(loc:List (Str×AV)) (aa:Nat),Q [.k π.kd] (bX.length+(dL l).length≤1000000∧iB (decide (dH=2)) (sF ah λh=>AL h∧AL m∧goN π K' (wA (.fr r.fv) (.fr (.fl (List.map FV.int (r1.aq m).eu))) (.fr ah) (.fr (.int dH))) r dH l bX aa (h.bf m)) (goN π K' (wA (.fr r.fv) (.fr (.fl (List.map FV.int (r1.aq m).eu))) (.fr ah) (.fr (.int dH))) r dH l bX aa m)))))
def goL (π:GP)(K':KF)(r:Ab)(m:Sp)(bX:List FV)(ex:List (Str×AV)):Prop:=
 ∃(r1:Ab),r.fv=r1.fv∧Bc m r1∧iB (aY m r1) (∀(aa:Nat),K' .brk (lZ π ex false m bX aa)) (Nat→goR π K' r r1 m bX)
def goH (π:GP)(aa:Nat)(b:Bool)(F:R1→List (Str×Int)→Sp→Prop):Prop:=
 Q [.y π.κ 0x2345,.l 4 100000,.tt,.k π.kc,.tt,.k π.kc,.tt,.k π.kc,.tt,.k π.kc,.tt,.y π.κ 0x23,.k π.k5,.l 4 200,.y π.κ 0x45,.z aa 0x1212121212] (∃(o:Nat) (σ:MS) (p:P4),[AV.own 1 π.κ.e,.fr (dI (aa+1) #[112,97,116,104,102,111,114,97,108,108])]=[.own 1 π.κ.e,.fr (dI o (Array.mk [112,97,116,104,102,111,114,97,108,108]))]∧π.no π.d.p.l=cS π.κ σ.tx σ.tc σ.k5 p.l σ.sn σ.sb σ.aH σ.m σ.bg σ.pt σ.ks σ.aM σ.own []∧σ.ks.length≤1000∧p.aJ∧∀(b8 ce:Nat) (aH:FV),Nat→Q [.y π.κ 0x45] (∃(x:R1),[AV.own 1 π.κ.e,.fr (.int 900)]=[.own 1 π.κ.e,.fr (.int 900)]∧kY π.κ σ.tx σ.tc σ.k5 [] σ.sn σ.sb aH σ.m σ.bg σ.pt σ.ks σ.aM σ.own b8 ce .none (.fl σ.ks) p.v 0 []=x.st π.κ∧Ao x.σ.m x.ae x.d∧∃q m',bp (aU x.d) (bF x.d) x.ae x.σ.m=(q,m',b)∧F x q m'))
def goU (K:KE)(loc:List (Str×AV))(ai:List (Str×Nat×Nat))(am:OL)(π:GP)(x:R1)(D:List FV)(mm:Sp)(tx:List FV)(tc:Int)(k5:Nat)(l:List Lv)(sn:Int)(aH:FV)(m1:Sp)(L:List Tv)(R:OL):Prop:=
 Q [.y π.κ 0x2345,.k k5] (∃l1,List.map Lv.th l=List.map Lv.th l1∧(List.map Lv.th l).length≤1000∧∀(aa:Nat),Q [.k π.kd] ((∀x∈List.map Lv.lie l1,nE x)∧List.map Lv.lie l1=D∧Q L ((List.map Lv.th l).length≤1000000∧Q [.i 0 0,.y π.κ 0xb9a9a784523] ((List.map Ab.fv x.ae).length≤1000000∧π.aM=x.σ.aM∧(∀y∈List.map Ab.fv x.ae,nE y)∧List.map Ab.fv x.ae=x.σ.own∧Q [.y π.κ 0x7845,.l 6 1000000] ((∀x∈spI m1,nE x)∧spI m1=spI mm∧K (.fr (.bool true)) (St.mk loc ai am (cS π.κ tx tc aa (List.take 0 (List.map Lv.th l)) sn false aH m1 x.σ.bg x.σ.pt (List.map Ab.fv x.ae) x.σ.aM x.σ.own R) (aa+1)))))))
def goT (K:KE)(loc:List (Str×AV))(ai:List (Str×Nat×Nat))(am:OL)(π:GP)(aa:Nat)(q:List (Str×Int))(m':Sp):Prop:=
 goH π aa true λx q1 m1=>∀(tx:List FV) (tc:Int) (k5:Nat) (l:List Lv) (sn:Int) (aH:FV) (r:OL),Nat→List.map Lv.pr l=q1→goU K loc ai am π x (q.map iO) m' tx tc k5 l sn aH m1 [.y π.κ 0x64545,.l 0 1000000,.y π.κ 0x232345,.k k5] r
def goF (K:KE)(loc:List (Str×AV))(ai:List (Str×Nat×Nat))(am:OL)(π:GP)(aa:Nat)(q:List (Str×Int))(m':Sp):Prop:=
 goH π aa false λx q1 m1=>∀(tx:List FV) (tc:Int) (k5:Nat) (l:List Lv) (sn:Int) (aH:FV) (b8 ce:Nat) (pr:FV) (i:Int) (r:OL),Nat→List.map Lv.pr l=q1→∀(e:Addr),Value.ref e=Value.ref e∧goU K loc ai am π x (q.map iO) m' tx tc k5 l sn aH m1 [.y π.κ 0x64545,.l 1 1000000,.y π.κ 0x6645,.l 1 1000000,.k ce,.k b8,.y π.κ 0x645,.l 0 1000000,.y π.κ 0x232345,.k k5] ((21,b8,paO pr (.fl (x.ae.map Ab.fv)) x.d.p.v i)::(20,ce,.inst 1124 21 b8)::r)∧(Value→goU K loc ai am π x (q.map iO) m' tx tc k5 l sn aH m1 [.y π.κ 0x64545,.l 1 1000000,.y π.κ 0x6645,.l 1 1000000,.k ce,.k b8,.y π.κ 0x645,.l 0 1000000,.y π.κ 0x232345,.k k5] ((21,b8,paO pr (.fl (x.ae.map Ab.fv)) x.d.p.v i)::(20,ce,.inst 1124 21 b8)::r))
section
variable (w:World) (h:Heap) (n:Nat) (aa:Nat) (loc:List (Str×AV)) (ai:List (Str×Nat×Nat)) (am:OL) (K:KE) (X:KX)
theorem ale (κ:Ky)(tx:List FV)(tc:Int)(k5:Nat)(aH:FV)(m:Sp)(bg pt:FV)(ae:List Ab)(aM:Nat)(d:D4):ao (ald w h) (n+10) true (.fr (.lit (.ref 1517))) [.own 1 κ.e,.own 14 aM,.fr d.v] ⟨loc,ai,am,gl κ tx tc k5 [] 0 false aH (.list []) (cy m) bg pt (ae.map Ab.fv) [(14,aM,.list (ae.map Ab.fv))],aa⟩ K X=
 (Q [.y κ 0x7845,.l 6 1000000,.k aM] (∃(π:GP),St.mk [(pS,.own 14 aM),(b7,.own 1 κ.e),(aaf,.fr (.bool true)),(ar6,.own 106 (aa+1)),(jd,.fr (cy m))] [(px,300,aa)] [(300,aa,.cell (some (.fr d.v))),(106,aa+1,.list [])] (cS κ tx tc k5 [] 0 false aH m bg pt (List.map Ab.fv ae) aM (List.map Ab.fv ae) []) (aa+2)=lZ π [] true π.ms [] π.nx∧List.map AV.fr (List.map Ab.fv ae)=List.map (λr=>AV.fr r.fv) π.ae∧π.ae.length≤1000∧Bm (aU π.d) (bF π.d) π.ae π.ms∧(List (Str×AV)→Bool→Sp→List FV→Nat→aM=π.aM∧List.map Ab.fv π.ae=List.map Ab.fv ae)∧(∀(r:Ab) (m:Sp) (bX:List FV) (aa:Nat) (K':KF),KX→A6 π r m bX K' (∀a b aa,K' .brk (lZ π (wx a b) false m bX aa))→goL π K' r m bX (wx (.fr r.fv) (.fr .none)))∧(∀(r:Ab) (m:Sp) (bX:List FV) (aa:Nat) (K':KF),KX→A6 π r m bX K' (∀a b c d aa,K' .brk (lZ π (wA a b c d) false m bX aa))→∀(a b c d:AV),goL π K' r m bX (wA (.fr r.fv) (.fr .none) c d))∧(bp (aU π.d) (bF π.d) π.ae π.ms=([],π.ms,true)→goT K loc ai am π π.nx [] π.ms)∧(bp (aU π.d) (bF π.d) π.ae π.ms=([],π.ms,false)→∀(a b:AV) (aa:Nat),goF K loc ai am π aa [] π.ms)∧(∀(q:List (Str×Int)) (m':Sp) (a b c d:AV) (aa:Nat),bp (aU π.d) (bF π.d) π.ae π.ms=(q,m',true)→goT K loc ai am π aa q m')∧∀(q:List (Str×Int)) (m':Sp) (a b c d:AV) (aa:Nat),bp (aU π.d) (bF π.d) π.ae π.ms=(q,m',false)→goF K loc ai am π aa q m')):=by kernel_rfl
end
theorem adm {m:Sp}{P:Sp→Prop}(h:P m):sF (cy m) P:=h
theorem aah (a b c d:FV)(r:Ab):qd r.w [(aW,a),(bM,b),(bN,c),(bk,d)]=some (r.of a b c d):=by cases r <;> kernel_rfl
theorem alf (r:Ab):nE r.fv:=by
 rw [Ab.pK]
 intro x hx
 rcases List.mem_cons.mp hx with rfl|hx
 ·trivial
 ·rw [Ab.sU] at hx
  obtain ⟨v,_,rfl⟩:=List.mem_map.mp hx
  trivial
theorem nk (ae:List Ab):∀x∈ae.map Ab.fv,nE x:=λx hx=>by
 obtain ⟨r,_,rfl⟩:=List.mem_map.mp hx
 exact alf r
theorem alg (l:List Lv):∀x∈l.map Lv.lie,nE x:=λx hx=>by
 obtain ⟨r,_,rfl⟩:=List.mem_map.mp hx
 intro y hy
 simp only [List.mem_cons,List.not_mem_nil,or_false] at hy
 rcases hy with rfl|rfl <;> trivial
theorem adn (m:Sp):∀x∈[FV.int m.a,.int m.b,.int m.c,.int m.d,.int m.e,.int m.f],nE x:=λx hx=>by
 simp only [List.mem_cons,List.not_mem_nil,or_false] at hx
 rcases hx with rfl|rfl|rfl|rfl|rfl|rfl <;> trivial
theorem alh (l:List Lv):l.map Lv.lie=(l.map Lv.pr).map iO:=by rw [List.map_map]; rfl
theorem qe (wy:Ab→Int)(hm:Ab→Sp):∀(ae:List Ab) (m:Sp),(bp wy hm ae m).1.length≤7*ae.length
 | [],m=>Nat.le_refl 0
 |r::rs,m=>by
  have h1:=ig wy r m
  have h2:=qe wy hm rs (bE wy hm r m)
  rw [List.length_cons]
  unfold bp
  cases aY m r with
  |true=>exact Nat.zero_le _
  |false=>
   dsimp only
   split
   ·show (cT wy r m).length≤_; lia
   ·rw [List.length_append]; lia
theorem kC {u:Str}{dH:Int}{ah:FV}{items:List FV}{n:Int}(h:AM u dH ah items n)(hw:dH=2):ah=cy (adk ah)∧BG (adk ah):=by
 obtain ⟨v,_,h⟩:=h
 subst hw
 rcases h with ⟨h,_⟩|⟨h,_⟩|⟨_,_,a,o,c,hl,rfl,_⟩|⟨h,_⟩
 ·lia
 ·lia
 ·exact ⟨rfl,hl⟩
 ·lia
theorem AE.up1 {k:Nat}{m:Sp}(S:AE k m):AE (k+1) m:=by
 obtain ⟨⟨g,p,q,r,s,g1,g2,hp,hq,hr,hs,ea,eb,ec,ed⟩,he,hf⟩:=S
 have z:=sE k
 have e:(4:Int) ^ (k+1)=4 ^ k*4:=Int.pow_succ ..
 exact ⟨⟨g,p,q,r,s,g1,g2,hp.up (by lia),hq.up (by lia),hr.up (by lia),hs.up (by lia),ea,eb,ec,ed⟩,he.up (by lia),hf.up (by lia)⟩
theorem ij {k:Nat}{m:Sp}{wy:Ab→Int}{hm:Ab→Sp}{r:Ab}(S:AE k m)(h:wy r=2→BG (hm r)):AE (k+1) (bE wy hm r m):=by
 unfold bE
 split
 ·rename_i h2; exact S.bf (h h2)
 ·exact S.up1
theorem l0 {k:Nat}{m:Sp}(S:AE k m)(hk:k≤10){r:Ab}(h:r.iZ 20000000):Bc m r:=by
 have z:(4:Int) ^ k≤1048576:=by
  have:=Nat.pow_le_pow_right (show 0<4 by decide) hk
  have h:(4:Int) ^ k≤4 ^ 10:=by exact_mod_cast this
  have e:(4:Int) ^ 10=1048576:=by decide
  lia
 have zx:∀{x:Int},In 20000000 x→Av (x-m.e):=λhx=>(hx.sub S.e).up (by lia)
 have zy:∀{x:Int},In 20000000 x→Av (x-m.f):=λhx=>(hx.sub S.f).up (by lia)
 refine ⟨S.b hk,?_⟩
 cases r with
 |m x y=>exact ⟨zx h.1,zy h.2⟩
 |l x y=>exact ⟨zx h.1,zy h.2⟩
 |c x1 y1 x2 y2 x3 y3=>exact ⟨⟨zx h.1,zy h.2.1⟩,⟨zx h.2.2.1,zy h.2.2.2.1⟩,zx h.2.2.2.2.1,zy h.2.2.2.2.2⟩
 |z=>trivial
theorem aai {h:Sp}(x:BG h):AL h:=by
 obtain ⟨⟨p,q,r,s,hp,hq,hr,hs,ea,eb,ec,ed⟩,he,hf⟩:=x
 have ut:In 1000000 1000000:=⟨by decide,by decide⟩
 have g:∀{p:Int},In 2 p→Av (1000000*p):=λh=>(ut.mul h).up (by decide)
 exact ⟨ea▸g hp,eb▸g hq,ec▸g hr,ed▸g hs,he.up (by decide),hf.up (by decide)⟩
theorem aaj {wy:Ab→Int}{hm:Ab→Sp}:∀(ae:List Ab) {k:Nat} {m:Sp},AE k m→k+ae.length≤10→(∀r∈ae,r.iZ 20000000)→(∀r:Ab,wy r=2→BG (hm r))→Bm wy hm ae m
 | [],_,_,_,_,_,_=>trivial
 |r::rs,k,m,S,hk,hb,hl=>by
  rw [List.length_cons] at hk
  exact ⟨l0 S (by lia) (hb r (.head _)),λ_=>⟨λh2=>⟨aai (hl r h2),S.b (by lia)⟩,λ_=>aaj rs (ij S (hl r)) (by lia) (λr h=>hb r (.tail _ h)) hl⟩⟩
theorem uK {wy:Ab→Int}{hm:Ab→Sp}(hl:∀r:Ab,wy r=2→BG (hm r)):∀(ae:List Ab) {k:Nat} {m:Sp},AE k m→k+ae.length≤10→∃k,k≤10∧AE k (bp wy hm ae m).2.1
 | [],k,m,S,hk=>⟨k,by lia,S⟩
 |r::rs,k,m,S,hk=>by
  rw [List.length_cons] at hk
  unfold bp
  cases aY m r with
  |true=>exact ⟨k,by lia,S⟩
  |false=>
   dsimp only
   split
   ·exact ⟨k+1,by lia,ij S (hl r)⟩
   ·exact uK hl rs (ij S (hl r)) (by lia)
theorem s8 {m:Sp}{ae:List Ab}{d:D4}(h:Ao m ae d)(r:Ab)(h2:aU d r=2):r.of d.a1 d.a2 d.a3 d.a4=cy (bF d r)∧BG (bF d r):=by
 obtain ⟨_,_,_,h1,h2',h3,h4,_⟩:=h
 cases r with
 |m _ _=>exact kC h1 h2
 |l _ _=>exact kC h2' h2
 |c _ _ _ _ _ _=>exact kC h3 h2
 |z=>exact kC h4 h2
theorem ali {wy:Ab→Int}{r:Ab}{m:Sp}(h:wy r≠1)(bX:List FV):bX++List.map (λv=>FV.az [.str dp,.int v]) (r.aq m).eu++[.az [.str v6,.int r.tag]]=bX++List.map iO (cT wy r m):=by
 unfold cT
 rw [if_neg h,List.map_append,List.map_map,List.append_assoc]
 rfl
theorem ar7 {wy:Ab→Int}{r:Ab}{m:Sp}(h:wy r=1)(bX:List FV):bX++List.map (λv=>FV.az [.str dp,.int v]) (r.aq m).eu++[]=bX++List.map iO (cT wy r m):=by
 unfold cT
 rw [if_pos h,List.append_nil,List.append_nil,List.map_map]
 rfl
theorem jq (r:Ab)(m:Sp):(r.aq m).eu.length≤6:=by cases r <;> (show List.length _≤6; simp [Ab.aq,Ab.qo,Ab.eu])
theorem alj {p:Prop}[Decidable p]{A B:Prop}(h:p→B)(h':¬p→A):iB (!decide p) A B:=dite p (λq=>by rw [decide_eq_true q]; exact h q) λq=>by rw [decide_eq_false q]; exact h' q
def BE (K:KE)(loc:List (Str×AV))(ai:List (Str×Nat×Nat))(am:OL)(π:GP):Prop:=∀tx tc k5 sn aH m r aa,(∃k,k≤10∧AE k m)→K (.fr (.bool true)) ⟨loc,ai,am,cS π.κ tx tc k5 [] sn false aH m π.bg π.pt (π.ae.map Ab.fv) π.aM (π.ae.map Ab.fv) r,aa⟩
theorem alk {r:Ab}{G:Int→Prop}(h:G r.tag):goG r G:=⟨r,rfl,_,_,r.tag,rfl,rfl,by rw [aah]; cases r <;> rfl,h⟩
theorem aak {d:D4}{r:Ab}{G:Int→FV→Prop}(h:G (aU d r) (r.of d.a1 d.a2 d.a3 d.a4)):goQ d.v r G:=⟨r,rfl,_,_,aU d r,r.of d.a1 d.a2 d.a3 d.a4,bC (r.of d.p.p1 d.p.p2 d.p.p3 d.p.p4),rfl,rfl,by rw [aah]; cases r <;> rfl,h⟩
section
variable {π:GP} {r:Ab} {m:Sp} {bX:List FV} {K':KF} {B:Prop} {K:KE} {loc:List (Str×AV)} {ai:List (Str×Nat×Nat)} {am:OL} {m1:Sp} {q:List (Str×Int)} {b:Bool} {aa:Nat}
theorem aal {a1 a2 a3 a4:AV}{l:List Int}{t:List FV}{k:Nat}(H:A6 π r m bX K' B)(hb:aY m r=false)(e1:bX++dL l++t=bX++List.map iO (cT (aU π.d) r m))(e2:m1=bE (aU π.d) (bF π.d) r m)(hl:(bX++dL l).length+k≤1000000):goM π K' (wA a1 a2 a3 a4) (aU π.d r) l bX aa m1 t k:=
 Aa rfl ⟨hl,fu (λh3=>H.brk hb h3 _ _ _ _ _ _ _ e1 e2) λh3=>H.aa hb h3 _ _ _ _ _ _ _ e1 e2⟩
theorem aam {a1 a2 a3 a4:AV}(H:A6 π r m bX K' B)(hb:aY m r=false)(e2:m1=bE (aU π.d) (bF π.d) r m)(hl:(bX++dL (r.aq m).eu).length+1≤1000000):goN π K' (wA a1 a2 a3 a4) r (aU π.d r) (r.aq m).eu bX aa m1:=
 Aa rfl (alj (λh1=>aal H hb (ar7 h1 bX) e2 (Nat.le_of_succ_le hl)) λh1=>alk (aal H hb (ali h1 bX) e2 hl))
theorem alm (H:A6 π r m bX K' B)(hb:aY m r=false)(ok:Ao π.m0 π.ae π.d):goR π K' r r m bX:=by
 have hp:=jq r m
 have hd:=H.len
 have l1:(bX++dL (r.aq m).eu).length+1≤1000000:=by unfold dL; rw [List.length_append,List.length_map]; lia
 refine Aa rfl (aak (Aa rfl (aak (Aa rfl ⟨by rw [List.length_map,List.length_map]; lia,_,by rw [List.map_map]; rfl,λ_ _=>trivial,λv nx K' k=>k _ _,λv b nx K' k=>k _ _,λ_ nx=>Aa rfl ⟨by rw [←List.length_append]; exact Nat.le_of_succ_le l1,fu (λh2=>?_) λh2=>aam H hb (if_neg h2).symm l1⟩⟩))))
 rw [(s8 ok r h2).1]
 exact adm ⟨(H.i6 hb h2).1,(H.i6 hb h2).2,aam H hb (if_pos h2).symm l1⟩
theorem aan {ex:List (Str×AV)}(H:A6 π r m bX K' (∀aa,K' .brk (lZ π ex false m bX aa)))(ok:Ao π.m0 π.ae π.d):goL π K' r m bX ex:=
 ⟨r,rfl,H.qo,iX H.bad λhb _=>alm H hb ok⟩
abbrev goX (π:GP)(b8 ce:Nat)(aH:FV):R1:=⟨⟨π.tx,π.tc,π.k5,[],0,false,aH,π.m0,π.bg,π.pt,[],π.aM,π.ae.map Ab.fv⟩,π.ae,b8,ce,π.d⟩
theorem aao {F:R1→List (Str×Int)→Sp→Prop}(ok:Ao π.m0 π.ae π.d)(hd:bp (aU π.d) (bF π.d) π.ae π.m0=(q,m1,b))(h:∀b8 ce aH,F (goX π b8 ce aH) q m1):goH π aa b F:=
 Aa rfl ⟨_,⟨π.tx,π.tc,π.k5,[],0,false,π.aH,π.m0,π.bg,π.pt,π.ae.map Ab.fv,π.aM,π.ae.map Ab.fv⟩,π.d.p,rfl,rfl,by rw [List.length_map]; exact Nat.le_trans ok.2.2.1 (by decide),ok.2.2.2.2.2.2.2,λb8 ce ky nx=>Aa rfl ⟨goX π b8 ce ky,rfl,rfl,ok,_,_,hd,h ..⟩⟩
theorem aln {l:List Lv}(ok:Ao π.m0 π.ae π.d)(hd:bp (aU π.d) (bF π.d) π.ae π.m0=(q,m1,b))(el:List.map Lv.pr l=q):(List.map Lv.th l).length≤1000:=by
 have:=qe (aU π.d) (bF π.d) π.ae π.m0
 rw [hd,←el,List.length_map] at this
 rw [List.length_map]
 have:=ok.2.2.1
 lia
theorem s9 {l:List Lv}{L:List Tv}{tx:List FV}{tc:Int}{k5:Nat}{sn:Int}{aH:FV}{R:OL}{b8 ce:Nat}{c:FV}(e:L.all Tv.aV=true)(ok:Ao π.m0 π.ae π.d)(hd:bp (aU π.d) (bF π.d) π.ae π.m0=(q,m1,b))(el:List.map Lv.pr l=q)(t:BE K loc ai am π):goU K loc ai am π (goX π b8 ce c) (q.map iO) m1 tx tc k5 l sn aH m1 L R:=
 have ln:=aln ok hd el
 Aa rfl ⟨l,rfl,ln,λnx=>Aa rfl ⟨alg l,by rw [alh,el],Aa e ⟨Nat.le_trans ln (by decide),Aa rfl ⟨by rw [List.length_map]; exact Nat.le_trans ok.2.2.1 (by decide),rfl,nk π.ae,rfl,Aa rfl ⟨adn m1,rfl,t _ _ _ _ _ _ _ _ (by have:=uK (λr h2=>(s8 ok r h2).2) π.ae ok.1 (by have:=ok.2.2.1; lia); rw [hd] at this; exact this)⟩⟩⟩⟩⟩
theorem aap (ok:Ao π.m0 π.ae π.d)(hd:bp (aU π.d) (bF π.d) π.ae π.m0=(q,m1,true))(t:BE K loc ai am π):goT K loc ai am π aa q m1:=
 aao ok hd λ_ _ _ _ _ _ _ _ _ _ _ el=>s9 rfl ok hd el t
theorem aaq (ok:Ao π.m0 π.ae π.d)(hd:bp (aU π.d) (bF π.d) π.ae π.m0=(q,m1,false))(t:BE K loc ai am π):goF K loc ai am π aa q m1:=
 aao ok hd λ_ _ _ _ _ _ _ _ _ _ _ _ _ _ _ el _=>⟨rfl,s9 rfl ok hd el t,λ_=>s9 rfl ok hd el t⟩
end
def ah1:CT:=λargs S K _=>∃x:R1,args=[.own 1 (dw S.af).e,.own 14 x.σ.aM,.fr x.d.v]∧S.af=gl (dw S.af) x.σ.tx x.σ.tc x.σ.k5 [] 0 false x.σ.aH (.list []) (cy x.σ.m) x.σ.bg x.σ.pt (x.ae.map Ab.fv) [(14,x.σ.aM,.list (x.ae.map Ab.fv))]∧Ao x.σ.m x.ae x.d∧
 ∀tx tc k5 sn aH m r aa,(∃k,k≤10∧AE k m)→K (.fr (.bool true)) ⟨S.loc,S.ai,S.am,cS (dw S.af) tx tc k5 [] sn false aH m x.σ.bg x.σ.pt (x.ae.map Ab.fv) x.σ.aM (x.ae.map Ab.fv) r,aa⟩
theorem alo (w:World)(h:Heap)(n:Nat){args:List AV}{S:St}{K:KE}{X:KX}(t:ah1 args S K X):ao (ald w h) (n+10) true (.fr (.lit (.ref 1517))) args S K X:=by
 obtain ⟨loc,ai,am,af,aa⟩:=S
 obtain ⟨x,rfl,e,ok,t⟩:=t
 dsimp only at e t ⊢
 generalize dw af=κ at e t ⊢
 subst e
 refine (ale ..).mpr (Aa rfl ⟨⟨κ,aa,x.σ.aM,aa+1,x.σ.tx,x.σ.tc,x.σ.k5,x.σ.aH,x.σ.m,x.σ.bg,x.σ.pt,x.ae,x.d,x.σ.m,aa+2⟩,rfl,by rw [List.map_map]; rfl,Nat.le_trans ok.2.2.1 (by decide),aaj x.ae ok.1 (by have:=ok.2.2.1; lia) ok.2.1 (λr h2=>(s8 ok r h2).2),λ_ _ _ _ _=>⟨rfl,rfl⟩,λ_ _ _ _ _ _ H=>?_,λ_ _ _ _ _ _ H _ _ c d=>?_,λhd=>aap ok hd t,λhd _ _ _=>aaq ok hd t,λ_ _ _ _ _ _ _ hd=>aap ok hd t,λ_ _ _ _ _ _ _ hd=>aaq ok hd t⟩)
 ·exact aan (H.to λh=>h _ _) ok
 ·exact aan (H.to λh=>h _ _ _ _) ok
section
def ah2:CT:=λargs S K _=>oC args λa l=>oX l λu l=>oS u λu=>oX l λn l=>oE l (oZ n λns=>∃r:Ab,u=r.w∧ns=r.ns∧uu a S λxs up=>∃ae b0 b1,xs=ae.map Ab.fv∧ae.length≤1000∧(bq ae=true→aO ae=.m b0 b1)∧K (.fr .none) (up ((aX ae r).map Ab.fv)))
theorem ado (r:Ab)(P:Ab→Prop):zp r.w r.ns P=P r:=by cases r <;> kernel_rfl
theorem adp (a:AV)(u:Str)(ns:List FV)(S:St)(K:KE)(X:KX):zu [a,.fr (.str u),.fr (.fl ns)] S K X=zp u ns λr=>uu a S λxs up=>∃ae b0 b1,xs=ae.map Ab.fv∧ae.length≤1000∧(bq ae=true→aO ae=.m b0 b1)∧K (.fr .none) (up ((aX ae r).map Ab.fv)):=by kernel_rfl
theorem adq {args:List AV}{S:St}{K:KE}{X:KX}(t:ah2 args S K X):zu args S K X:=by
 refine bz t λa _ q=>de q λu _ q=>pF q λu q=>de q λn _ q=>a0 q λq=>iW q λns ⟨r,h1,h2,z⟩=>?_
 subst h1 h2
 rw [adp,ado]
 exact z
def EA (w:World)(h:Heap):List (Addr×CT):=(1133,adb)::(1474,ah2)::E8 w h
end
section
noncomputable def iP (m:Sp):List Ab→List Ab→List Ab
 | [],own=>own
 |r::rs,own=>iP m rs (aX own ((r.aq m).on m))
def A7 (own:List Ab):Prop:=own.length≤100∧∃b0 b1,aO own=.m b0 b1
structure AP where
 (κ:Ky) (aM kc:Nat) (tx:List FV) (tc:Int) (k5:Nat) (sn:Int) (aH:FV) (m:Sp) (bg pt:FV) (ae:List Ab) (b:Bool) (g:OL) (nx:Nat)
noncomputable def zLd:Str:=Str.mk (Array.mk [108,101,100])
def uL (π:AP)(ex:List (Str×AV))(own:List Ab)(aa:Nat):St:=
 ⟨(pS,.own 14 π.aM)::(b7,.own 1 π.κ.e)::(pq,.fr (.fl (π.ae.map Ab.fv)))::(zLd,.fr (.fl (π.ae.map (cH π.m))))::(aaf,.fr (.bool π.b))::ex,[(jd,300,π.kc)],[(300,π.kc,.cell (some (.fr (cy π.m))))],cS π.κ π.tx π.tc π.k5 [] π.sn false π.aH π.m π.bg π.pt (π.ae.map Ab.fv) π.aM (own.map Ab.fv) π.g,aa⟩
def qf:AX:=λaA aV items S K X=>∃π:AP,S=uL π [] π.ae π.nx∧items=π.ae.map (λr=>.fr (.az [r.fv,cH π.m r]))∧(∀r∈π.ae,aY π.m r=false)∧π.ae.length≤10∧(π.ae≠[]→A7 π.ae)∧
 (∀ex own aa,aV (uL π ex own aa))∧
 (∀r own aa (K':KF) X',r∈π.ae→A7 own→(∀a b aa,K' .next (uL π (wx a b) (aX own ((r.aq π.m).on π.m)) aa))→aA (.fr (.az [r.fv,.fl ((r.aq π.m).eu.map .int)])) (uL π [] own aa) K' X')∧
 (∀r own aa (K':KF) X',r∈π.ae→A7 own→(∀a b aa,K' .next (uL π (wx a b) (aX own ((r.aq π.m).on π.m)) aa))→∀a b,aA (.fr (.az [r.fv,.fl ((r.aq π.m).eu.map .int)])) (uL π (wx a b) own aa) K' X')∧
 (π.ae=[]→K .next (uL π [] [] π.nx))∧
 ∀a b aa,K .next (uL π (wx a b) (iP π.m π.ae π.ae) aa)
theorem uM {own:List Ab}{r:Ab}(b0 b1:Int)(h:aO own=.m b0 b1):∃b0 b1,aO (aX own r)=.m b0 b1:=by
 cases r with
 |m x y=>exact ⟨x,y,eJ _ _ _⟩
 |l x y=>exact ⟨b0,b1,cG h rfl⟩
 |c _ _ _ _ _ _=>exact ⟨b0,b1,cG h rfl⟩
 |z=>exact ⟨b0,b1,cG h rfl⟩
theorem nu (own:List Ab)(r:Ab):(aX own r).length≤own.length+2:=by
 rcases fO own r with ⟨l,e,hl,_⟩|⟨e,_⟩|⟨e,_⟩
 ·rw [e,List.length_append,List.length_singleton]
  rcases hl with rfl|⟨rfl,_⟩
  ·lia
  ·rw [List.length_dropLast]; lia
 ·rw [e]; simp
 ·rw [e]; lia
theorem qg:AK qf:=by
 intro aA aV items S K X h
 refine h.elim λπ H=>?_
 have eS:=H.1
 have eI:=H.2.1
 have hb:=H.2.2.1
 have hl:=H.2.2.2.1
 have hO:=H.2.2.2.2.1
 have hc:=H.2.2.2.2.2.1
 have h1:=H.2.2.2.2.2.2.1
 have h2:=H.2.2.2.2.2.2.2.1
 have k0:=H.2.2.2.2.2.2.2.2.1
 have k:=H.2.2.2.2.2.2.2.2.2
 clear H h
 subst eS eI
 have pW:∀(l own:List Ab) a b aa,(∀r∈l,r∈π.ae)→own.length+2*l.length≤100→(∃b0 b1,aO own=.m b0 b1)→iP π.m l own=iP π.m π.ae π.ae→
   ee aV aA (l.map λr=>.fr (.az [r.fv,cH π.m r])) (uL π (wx a b) own aa) K X:=by
  intro l
  induction l with
  |nil=>intro own a b aa _ _ _ e; exact ⟨hc _ _ _,by rw [show own=iP π.m π.ae π.ae from e]; exact k _ _ _⟩
  |cons r l ih=>
   intro own a b aa hm ho hM e
   rw [List.length_cons] at ho
   refine ⟨hc _ _ _,?_⟩
   have el:cH π.m r=.fl ((r.aq π.m).eu.map .int):=by unfold cH; rw [hb r (hm r (.head _))]
   dsimp only
   rw [el]
   obtain ⟨b0,b1,hM⟩:=hM
   refine h2 r own aa _ _ (hm r (.head _)) ⟨by lia,b0,b1,hM⟩ (λa b aa=>?_) a b
   have:=nu own ((r.aq π.m).on π.m)
   exact ih _ a b aa (λr h=>hm r (.tail _ h)) (by lia) (uM b0 b1 hM) e
 cases hr:π.ae with
 |nil=>exact ⟨hc [] [] π.nx,k0 hr⟩
 |cons r l=>
  have hO:=hO (by rw [hr]; exact λh=>by cases h)
  have hr':r∈π.ae:=by rw [hr]; exact .head _
  rw [hr,List.length_cons] at hl
  have el:cH π.m r=.fl ((r.aq π.m).eu.map .int):=by unfold cH; rw [hb r hr']
  rw [hr] at hO
  obtain ⟨ho,b0,b1,hM⟩:=hO
  refine ⟨hc _ _ _,?_⟩
  dsimp only
  rw [el]
  refine h1 r (r::l) π.nx _ _ hr' ⟨ho,b0,b1,hM⟩ λa b aa=>?_
  have:=nu (r::l) ((r.aq π.m).on π.m)
  rw [List.length_cons] at this
  exact pW l _ a b aa (λq h=>by rw [hr]; exact .tail _ h) (by lia) (uM b0 b1 hM) (by rw [hr]; rfl)
def Be (p:Pv)(b:Array UInt8):Prop:=1≤p.aJ∧p.n=1∧∃o,p.items=[dI o b]
def BF (m:Sp)(ae:List Ab)(bg pt:FV)(p:P4):Prop:=(∃k,k≤10∧AE k m)∧Ax bg pt ae∧Be p.p1 #[109,111,118,101,116,111]∧Be p.p2 #[108,105,110,101,116,111]∧Be p.p3 #[99,117,114,118,101,116,111]∧Be p.p4 #[99,108,111,115,101,112,97,116,104]
def aar:CT:=λargs S K X=>∃x:R1,args=[.own 1 (dw S.af).e,.fr (.int 900)]∧S.af=x.st (dw S.af)∧BF x.σ.m x.ae x.σ.bg x.σ.pt x.d.p∧oY (uJ S.loc) λb=>iB b
 ((∀r∈x.ae,aY x.σ.m r=false)∧∀tx tc k5 sn aH bg pt r aa,K (.fr (.str uB)) ⟨S.loc,S.ai,S.am,cS (dw S.af) tx tc k5 [] sn false aH x.σ.m bg pt ((iP x.σ.m x.ae x.ae).map Ab.fv) x.σ.aM x.σ.own r,aa⟩)
 ((∃r∈x.ae,aY x.σ.m r=true)∧∀tx tc k5 sn aH b8 ce pr i r aa,X (.bytes bUR) ⟨S.loc,S.ai,S.am,kY (dw S.af) tx tc k5 [] sn false aH x.σ.m x.σ.bg x.σ.pt (x.ae.map Ab.fv) x.σ.aM x.σ.own b8 ce pr (.fl (x.ae.map Ab.fv)) x.d.p.v i r,aa⟩)
def aas (p:Pos):AX:=match Nat.beq p.line 971 with
 |true=>qf
 |false=>dr p
theorem aat (p:Pos):AK (aas p):=by
 unfold aas
 split
 ·exact qg
 ·exact bo p
abbrev adr (w:World)(h:Heap):Cf:=cf w h (du ((728,aar)::EA w h)) aas nh fW ni
end
section
abbrev AP.no (π:AP)(xs own:List FV):OL:=cS π.κ π.tx π.tc π.k5 xs π.sn false π.aH π.m π.bg π.pt (π.ae.map Ab.fv) π.aM own π.g
def AP.s1 (π:AP)(l:List (Str×AV))(c:List (Str×Nat×Nat))(aa:Nat):St:=St.mk l c [(300,π.kc,.cell (some (.fr (cy π.m))))] (π.no [] (π.ae.map Ab.fv)) aa
def anC (π:AP)(m1:Sp)(l:List Ab)(r:Ab)(K':Option FV→St→Prop):Prop:=
 r∈l→(∀(a:AV) (aa:Nat),K' (some (cH m1 r)) (π.s1 [(dM,a)] [(jd,300,π.kc)] aa))→Q [.k π.kc] (∃(r1:Ab),r.fv=r1.fv∧Bc π.m r1∧iB (aY π.m r1) (∀(aa:Nat),K' (some .none) (π.s1 [(dM,.fr r.fv)] [(jd,300,π.kc)] aa)) (∀(aa:Nat),K' (some (.fl (List.map FV.int (r1.aq π.m).eu))) (π.s1 [(dM,.fr r.fv)] [(jd,300,π.kc)] aa)))
def anD (π:AP)(b:Bool)(v:FV)(aa:Nat)(K':Option FV→St→Prop):Prop:=(∀(a:AV) (aa:Nat),K' (some (.bool b)) (π.s1 [(gs,a)] [] aa))→K' (some (.bool b)) (π.s1 [(gs,.fr v)] [] aa)
def anS (π:AP)(r:Ab)(own:List Ab)(K':KF):Prop:=
 ∃(r1:Ab),r.fv=r1.fv∧∃(r2:Ab),r.fv=r2.fv∧(List.map FV.int (r.aq π.m).eu).length≤1000000∧1+(List.map FV.int (r.aq π.m).eu).length≤1000000∧Q [.k π.kc] (∃r3,.az (FV.str r2.w::List.map FV.int (r.aq π.m).eu)=r3.fv∧BL π.m r3∧∀(aa:Nat),∃r4,r1.w=r4.w∧List.map FV.int (r3.on π.m).eu=r4.ns∧Q [.k π.aM] (∃ae b0 b1,List.map Ab.fv own=List.map Ab.fv ae∧ae.length≤1000∧(bq ae=true→aO ae=Ab.m b0 b1)∧K' .next (uL π (wx (.fr r.fv) (.fr (.fl (List.map FV.int (r.aq π.m).eu)))) (aX ae r4) aa)))
def anL (K:KE)(loc:List (Str×AV))(ai:List (Str×Nat×Nat))(am:OL)(π:AP)(x:R1)(ps:List Ab)(k5:Nat)(G:OL)(aa:Nat):Prop:=
 Q [.y π.κ 0x2345,.k k5,.y π.κ 0xb9a9a7845] ((List.map Ab.fv ps).length≤1000000∧π.aM=x.σ.aM∧(∀y∈List.map Ab.fv ps,nE y)∧List.map Ab.fv ps=x.σ.own∧K (.fr (.bool true)) (St.mk loc ai am G aa))
def anO (aa:Nat):List FV:=[eX (aa+7) (aa+5) (aa+3) [dI (aa+1) #[109,111,118,101,116,111]] 1 3,eX (aa+15) (aa+13) (aa+11) [dI (aa+9) #[108,105,110,101,116,111]] 1 3,eX (aa+23) (aa+21) (aa+19) [dI (aa+17) #[99,117,114,118,101,116,111]] 1 3,eX (aa+31) (aa+29) (aa+27) [dI (aa+25) #[99,108,111,115,101,112,97,116,104]] 1 3]
def anE (K:KE)(loc:List (Str×AV))(ai:List (Str×Nat×Nat))(am:OL)(π:AP)(b:Bool)(aa:Nat)(own:List FV):Prop:=
 Q [.l 4 100000,.tt,.z aa 0x341212121212,.l 1 1000000,.z aa 0x34343434,.l 1 1000000,.z aa 0x787878787856565656,.tt,.z aa 0xbc9a9a9a9a9a,.l 1 1000000,.z aa 0xbcbcbcbc,.l 1 1000000,.z aa 0xdededede,.k (aa+15),.k (aa+14),.k (aa+15),.k (aa+14),.k (aa+15),.k (aa+14),.k (aa+15),.k (aa+14),.k (aa+15),.k (aa+14),.tt,.k (aa+17),.k (aa+16),.k (aa+17),.k (aa+16),.k (aa+17),.k (aa+16),.k (aa+17),.k (aa+16),.k (aa+17),.k (aa+16),.k (aa+19),.k (aa+18),.l 1 1000000,.k (aa+19),.k (aa+18),.k (aa+19),.k (aa+18),.k (aa+19),.k (aa+18),.k (aa+19),.k (aa+18),.l 1 1000000,.k (aa+21),.k (aa+20),.k (aa+21),.k (aa+20),.k (aa+21),.k (aa+20),.k (aa+21),.k (aa+20),.k (aa+23),.k (aa+22),.k (aa+23),.k (aa+22),.k (aa+23),.k (aa+22),.k (aa+23),.k (aa+22),.k (aa+23),.k (aa+22),.tt,.k (aa+25),.k (aa+24),.k (aa+25),.k (aa+24),.k (aa+25),.k (aa+24),.k (aa+25),.k (aa+24),.k (aa+25),.k (aa+24),.k (aa+27),.k (aa+26),.l 1 1000000,.k (aa+27),.k (aa+26),.k (aa+27),.k (aa+26),.k (aa+27),.k (aa+26),.k (aa+27),.k (aa+26),.l 1 1000000,.k (aa+29),.k (aa+28),.k (aa+29),.k (aa+28),.k (aa+29),.k (aa+28),.k (aa+29),.k (aa+28),.k (aa+31),.k (aa+30),.k (aa+31),.k (aa+30),.k (aa+31),.k (aa+30),.k (aa+31),.k (aa+30),.k (aa+31),.k (aa+30),.tt,.y π.κ 0x232345,.k π.k5,.l 4 200] (∃(σ:MS) (p:P4),[AV.own 1 π.κ.e]=[.own 1 π.κ.e]∧π.no (anO aa) own=cS π.κ σ.tx σ.tc σ.k5 p.l σ.sn σ.sb σ.aH σ.m σ.bg σ.pt σ.ks σ.aM σ.own (List.drop 13 (π.no (anO aa) own))∧σ.ks.length≤1000∧p.aJ∧∀(b8 ce:Nat),Nat→Q [.y π.κ 0x45] (∃(x:R1),[AV.own 1 π.κ.e,.fr (.int 900)]=[.own 1 π.κ.e,.fr (.int 900)]∧kY π.κ σ.tx σ.tc σ.k5 [] σ.sn σ.sb σ.aH σ.m σ.bg σ.pt σ.ks σ.aM σ.own b8 ce .none (.fl σ.ks) p.v 0 []=x.st π.κ∧BF x.σ.m x.ae x.σ.bg x.σ.pt x.d.p∧iB b ((∀r∈x.ae,aY x.σ.m r=false)∧∀(tx:List FV) (tc:Int) (k5:Nat) (sn:Int) (aH bg pt:FV) (r:OL) (aa:Nat),Q [.y π.κ 0x645] (iB b (anL K loc ai am π x (iP x.σ.m x.ae x.ae) k5 (cS π.κ tx tc k5 [] sn false aH x.σ.m bg pt (List.map Ab.fv (iP x.σ.m x.ae x.ae)) x.σ.aM x.σ.own r) aa) False)) ((∃r∈x.ae,aY x.σ.m r=true)∧∀(tx:List FV) (tc:Int) (k5:Nat) (sn:Int) (aH:FV) (b8 ce:Nat) (pr:FV) (i:Int) (r:OL) (aa:Nat) (e:Addr),Value.ref e=Value.ref e∧iB b False (anL K loc ai am π x x.ae k5 (kY π.κ tx tc k5 [] sn false aH x.σ.m x.σ.bg x.σ.pt (List.map Ab.fv x.ae) x.σ.aM x.σ.own b8 ce pr (.fl (List.map Ab.fv x.ae)) x.d.p.v i r) aa)∧(Value→iB b False (anL K loc ai am π x x.ae k5 (kY π.κ tx tc k5 [] sn false aH x.σ.m x.σ.bg x.σ.pt (List.map Ab.fv x.ae) x.σ.aM x.σ.own b8 ce pr (.fl (List.map Ab.fv x.ae)) x.d.p.v i r) aa)))))
end
section
variable (w:World) (h:Heap) (n:Nat) (loc:List (Str×AV)) (ai:List (Str×Nat×Nat)) (am:OL) (K:KE) (X:KX)
theorem alp (π:AP):ao (adr w h) (n+10) true (.fr (.lit (.ref 1522))) [.own 1 π.κ.e,.own 14 π.aM] ⟨loc,ai,am,π.no [] (π.ae.map Ab.fv),π.kc⟩ K X=
 (Q [.y π.κ 0x7845,.l 6 1000000,.k π.aM] ((List.map Ab.fv π.ae).length≤1000000∧Q [.k π.kc] ((List.map AV.fr (List.map Ab.fv π.ae)).length≤100000∧∃m1 l,List.map AV.fr (List.map Ab.fv π.ae)=List.map (λq=>AV.fr q.fv) l∧(List (Str×AV)→Nat→True)∧(∀(r:Ab),Nat→∀K',anC π m1 l r K')∧(∀(r:Ab),AV→Nat→∀K',anC π m1 l r K')∧(List (Str×AV)→Nat→(List.map AV.fr (List.map (cH m1) l)).length≤100000∧∃m2 l2,List.map AV.fr (List.map (cH m1) l)=List.map (λq=>AV.fr (cH m2 q)) l2∧(List (Str×AV)→Nat→True)∧(∀aa K',anD π false .none aa K')∧(AV→∀aa K',anD π false .none aa K')∧(∀xs aa K',anD π true (.fl xs) aa K')∧(∀xs,AV→∀aa K',anD π true (.fl xs) aa K')∧(List (Str×AV)→∀aa,∃bs,List.map (λq=>FV.bool !aY m2 q) l2=List.map FV.bool bs∧iB (bs.all λa=>a) (∃(σ:AP),π.s1 [(pS,.own 14 π.aM),(b7,.own 1 π.κ.e),(pq,.fr (.fl (List.map Ab.fv π.ae))),(zLd,.fr (.fl (List.map (cH m1) l))),(aaf,.fr (.bool (bs.all λa=>a)))] [(jd,300,π.kc)] aa=uL σ [] σ.ae σ.nx∧List.map (λp=>AV.fr (.az [p.fst,p.snd])) ((List.map Ab.fv π.ae).zip (List.map (cH m1) l))=List.map (λr=>AV.fr (.az [r.fv,cH σ.m r])) σ.ae∧(∀(r:Ab),r∈σ.ae→aY σ.m r=false)∧σ.ae.length≤10∧(σ.ae≠[]→A7 σ.ae)∧(List (Str×AV)→List Ab→Nat→List.map Ab.fv π.ae=List.map Ab.fv π.ae∧List.map (cH m1) l=List.map (cH m1) l)∧(∀(r:Ab) (own:List Ab),Nat→∀(K':KF),KX→r∈σ.ae→A7 own→(∀(a b:AV) (aa:Nat),K' .next (uL σ (wx a b) (aX own ((r.aq σ.m).on σ.m)) aa))→anS σ r own K')∧(∀(r:Ab) (own:List Ab),Nat→∀(K':KF),KX→r∈σ.ae→A7 own→(∀(a b:AV) (aa:Nat),K' .next (uL σ (wx a b) (aX own ((r.aq σ.m).on σ.m)) aa))→AV→AV→anS σ r own K')∧(σ.ae=[]→anE K loc ai am σ σ.b σ.nx [])∧(AV→AV→∀aa,anE K loc ai am σ σ.b aa (List.map Ab.fv (iP σ.m σ.ae σ.ae)))) (anE K loc ai am π (bs.all λa=>a) aa (List.map Ab.fv π.ae))))))):=by kernel_rfl
end
theorem qh {m:Sp}:∀ae:List Ab,List.map (λp=>AV.fr (.az [p.fst,p.snd])) ((List.map Ab.fv ae).zip (List.map (cH m) ae))=List.map (λr=>AV.fr (.az [r.fv,cH m r])) ae
 | []=>rfl
 |r::ae=>by rw [List.map_cons,List.map_cons,List.zip_cons_cons,List.map_cons,List.map_cons,qh ae]
theorem aau (r:Ab)(m:Sp):(r.aq m).w=r.w:=by cases r <;> rfl
theorem avl (r:Ab)(m:Sp):(r.on m).w=r.w:=by cases r <;> rfl
theorem ads {k:Nat}{m:Sp}(S:AE k m)(hk:k≤10){r:Ab}(hr:r.iZ 20000000)(hb:aY m r=false):BL m (r.aq m):=by
 have hd:r.lV=false→m.eV≠0:=λhz h=>by unfold aY at hb; rw [hz] at hb; simp [h] at hb
 have go:∀{x y:Int},m.eV≠0→In 20000000 x→In 20000000 y→Av (m.aq x y).1∧Av (m.aq x y).2:=λh hx hy=>by
  obtain ⟨a,b⟩:=S.aq hk h hx hy
  exact ⟨a.up (by decide),b.up (by decide)⟩
 refine ⟨S.b hk,?_⟩
 cases r with
 |m x y=>exact go (hd rfl) hr.1 hr.2
 |l x y=>exact go (hd rfl) hr.1 hr.2
 |c x1 y1 x2 y2 x3 y3=>exact ⟨go (hd rfl) hr.1 hr.2.1,go (hd rfl) hr.2.2.1 hr.2.2.2.1,go (hd rfl) hr.2.2.2.2.1 hr.2.2.2.2.2⟩
 |z=>trivial
theorem i0 (m:Sp):∀(ae own:List Ab),(iP m ae own).length≤own.length+2*ae.length
 | [],own=>Nat.le_refl _
 |r::rs,own=>by
  have h1:=nu own ((r.aq m).on m)
  have h2:=i0 m rs (aX own ((r.aq m).on m))
  rw [List.length_cons]
  show (iP m rs (aX own ((r.aq m).on m))).length≤_
  lia
def ah3:CT:=λargs S K _=>∃x:R1,args=[.own 1 (dw S.af).e,.own 14 x.σ.aM]∧S.af=cS (dw S.af) x.σ.tx x.σ.tc x.σ.k5 [] x.σ.sn false x.σ.aH x.σ.m x.σ.bg x.σ.pt (x.ae.map Ab.fv) x.σ.aM (x.ae.map Ab.fv) (S.af.drop 13)∧(∃k,k≤10∧AE k x.σ.m)∧Ax x.σ.bg x.σ.pt x.ae∧∀G aa,K (.fr (.bool true)) ⟨S.loc,S.ai,S.am,G,aa⟩
section
variable {π:AP} {K:KE} {loc:List (Str×AV)} {ai:List (Str×Nat×Nat)} {am:OL} {m1:Sp} {r:Ab} {aa:Nat}
theorem td {x:R1}{ps:List Ab}{k5:Nat}{G:OL}(hl:ps.length≤1000000)(e:π.aM=x.σ.aM)(ho:List.map Ab.fv ps=x.σ.own)(t:∀G aa,K (.fr (.bool true)) ⟨loc,ai,am,G,aa⟩):anL K loc ai am π x ps k5 G aa:=
 Aa rfl ⟨by rw [List.length_map]; exact hl,e,nk ps,ho,t _ _⟩
theorem te {b:Bool}{own:List FV}(hS:∃k,k≤10∧AE k π.m)(hP:Ax π.bg π.pt π.ae)(t:∀G aa,K (.fr (.bool true)) ⟨loc,ai,am,G,aa⟩)(h1:b=true→(∀r∈π.ae,aY π.m r=false)∧List.map Ab.fv (iP π.m π.ae π.ae)=own)(h2:b=false→(∃r∈π.ae,aY π.m r=true)∧List.map Ab.fv π.ae=own):anE K loc ai am π b aa own:=by
 have c3:(1:Int)≤3:=by decide
 have hl:=hP.len
 have ln:=i0 π.m π.ae π.ae
 refine Aa rfl ⟨⟨π.tx,π.tc,π.k5,[],π.sn,false,π.aH,π.m,π.bg,π.pt,π.ae.map Ab.fv,π.aM,own⟩,⟨⟨_,_,_,_,1,3⟩,⟨_,_,_,_,1,3⟩,⟨_,_,_,_,1,3⟩,⟨_,_,_,_,1,3⟩⟩,rfl,rfl,by rw [List.length_map]; exact Nat.le_trans hl (by decide),⟨c3,c3,c3,c3⟩,λb8 ce nx=>Aa rfl ⟨⟨⟨π.tx,π.tc,π.k5,[],π.sn,false,π.aH,π.m,π.bg,π.pt,[],π.aM,own⟩,π.ae,b8,ce,⟨0,0,0,0,.none,.none,.none,.none,⟨_,_,_,_⟩⟩⟩,rfl,rfl,⟨hS,hP,⟨c3,rfl,_,rfl⟩,⟨c3,rfl,_,rfl⟩,⟨c3,rfl,_,rfl⟩,⟨c3,rfl,_,rfl⟩⟩,iX (λhb=>⟨(h1 hb).1,λ_ _ _ _ _ _ _ _ _=>Aa rfl (jg hb (td (by lia) rfl (h1 hb).2 t))⟩) λhb=>⟨(h2 hb).1,λ_ _ _ _ _ _ _ _ _ _ _ _=>⟨rfl,h9 hb (td (by lia) rfl (h2 hb).2 t),λ_=>h9 hb (td (by lia) rfl (h2 hb).2 t)⟩⟩⟩⟩
theorem aav {K':Option FV→St→Prop}(hS:∃k,k≤10∧AE k π.m)(hP:Ax π.bg π.pt π.ae):anC π π.m π.ae r K':=λhr k=>by
 refine hS.elim λ_ hK=>Aa rfl ⟨r,rfl,l0 hK.2 hK.1 (hP.iZ r hr),?_⟩
 unfold cH at k
 exact iX (λhb=>by rw [hb] at k; exact λnx=>k _ _) (λhb=>by rw [hb] at k; exact λnx=>k _ _)
theorem aaw {K':KF}{own:List Ab}(hS:∃k,k≤10∧AE k π.m)(hP:Ax π.bg π.pt π.ae)(hb:aY π.m r=false)(hr:r∈π.ae)(ho:A7 own)(g:∀(a b:AV) (aa:Nat),K' .next (uL π (wx a b) (aX own ((r.aq π.m).on π.m)) aa)):anS π r own K':=by
 have hp:=jq r π.m
 refine hS.elim λ_ hK=>ho.2.elim λb0 ho2=>ho2.elim λb1 hM=>⟨r,rfl,r,rfl,by rw [List.length_map]; lia,by rw [List.length_map]; lia,Aa rfl ⟨r.aq π.m,?_,ads hK.2 hK.1 (hP.iZ r hr) hb,λnx=>⟨(r.aq π.m).on π.m,?_,?_,Aa rfl ⟨own,b0,b1,rfl,Nat.le_trans ho.1 (by decide),λ_=>hM,g _ _ _⟩⟩⟩⟩
 ·rw [Ab.pK,Ab.sU,aau]
 ·rw [avl,aau]
 ·exact (Ab.sU _).symm
theorem alq {w:World}{h:Heap}{n:Nat}{X:KX}(hS:∃k,k≤10∧AE k π.m)(hP:Ax π.bg π.pt π.ae)(t:∀G aa,K (.fr (.bool true)) ⟨loc,ai,am,G,aa⟩):ao (adr w h) (n+10) true (.fr (.lit (.ref 1522))) [.own 1 π.κ.e,.own 14 π.aM] ⟨loc,ai,am,π.no [] (π.ae.map Ab.fv),π.kc⟩ K X:=by
 have hl:=hP.len
 rw [alp]
 refine Aa rfl ⟨by rw [List.length_map]; lia,Aa rfl ⟨by rw [List.length_map,List.length_map]; lia,π.m,π.ae,by rw [List.map_map]; rfl,λ_ _=>trivial,λ_ _ _=>aav hS hP,λ_ _ _ _=>aav hS hP,λ_ _=>⟨by rw [List.length_map,List.length_map]; lia,π.m,π.ae,by rw [List.map_map]; rfl,λ_ _=>trivial,λ_ _ k=>k _ _,λ_ _ _ k=>k _ _,λ_ _ _ k=>k _ _,λ_ _ _ _ k=>k _ _,λ_ nx=>⟨π.ae.map λq => !aY π.m q,by rw [List.map_map]; rfl,iX (λeC=>?_) λeC=>te hS hP t (λe=>nomatch e.symm.trans eC) λ_=>⟨?_,rfl⟩⟩⟩⟩⟩
 ·have hb:∀r∈π.ae,aY π.m r=false:=λr hr=>by
   have:=List.all_eq_true.mp eC (!aY π.m r) (List.mem_map.mpr ⟨r,hr,rfl⟩)
   simpa using this
  rw [eC]
  exact ⟨⟨π.κ,π.aM,π.kc,π.tx,π.tc,π.k5,π.sn,π.aH,π.m,π.bg,π.pt,π.ae,true,π.g,nx⟩,rfl,qh π.ae,hb,hl,λlB=>hP.st.elim (λh=>absurd h.1 lB) λ⟨b0,b1,_,_,_,_,h,_⟩=>⟨by lia,b0,b1,h⟩,λ_ _ _=>⟨rfl,rfl⟩,λr _ _ _ _ hr ho g=>aaw hS hP (hb r hr) hr ho g,λr _ _ _ _ hr ho g _ _=>aaw hS hP (hb r hr) hr ho g,λhr=>te hS hP t (λ_=>⟨hb,by rw [show π.ae=[] from hr]; rfl⟩) (λe=>nomatch e),λ_ _ _=>te hS hP t (λ_=>⟨hb,rfl⟩) (λe=>nomatch e)⟩
 ·exact (List.all_eq_false.mp eC).elim λx hx=>(List.mem_map.mp hx.1).elim λr hr=>⟨r,hr.1,by have:=hx.2; rw [←hr.2] at this; simpa using this⟩
end
theorem alr (w:World)(h:Heap)(n:Nat){args:List AV}{S:St}{K:KE}{X:KX}(t:ah3 args S K X):ao (adr w h) (n+10) true (.fr (.lit (.ref 1522))) args S K X:=by
 obtain ⟨loc,ai,am,af,aa⟩:=S
 obtain ⟨x,rfl,e,hS,hP,t⟩:=t
 dsimp only at e t ⊢
 generalize dw af=κ at e t ⊢
 generalize af.drop 13=g at e
 subst e
 exact alq (π:=⟨κ,x.σ.aM,aa,x.σ.tx,x.σ.tc,x.σ.k5,x.σ.sn,x.σ.aH,x.σ.m,x.σ.bg,x.σ.pt,x.ae,true,g,aa⟩) hS hP t
section
variable {w:World} {h:Heap} {κ:Ky} {L:Int} {XF:KX} {Fin:St→Prop}
theorem Az.up {n:Nat}{S:St}(g:Az w h κ L XF Fin n S):Az w h κ L XF Fin (n+1) S:=λV X h1 h2 h3=>
 g (λn S=>V (n+1) S) X h1 (λn=>h2 (n+1)) λn=>h3 (n+1)
theorem Az.le {n m:Nat}{S:St}(g:Az w h κ L XF Fin n S)(hm:n≤m):Az w h κ L XF Fin m S:=by
 induction hm with
 |refl=>exact g
 |step _ ih=>exact ih.up
variable {φ:Rf} {ν:Rn} {ψ:Rp} {xs:List FV} {sn i:Int} {q:FV} {j:Int} {n:Nat}
def Df (w:World)(h:Heap)(φ:Rf)(XF:KX)(Fin:St→Prop)(n:Nat)(K:KE)(X:KX):Prop:=(∀x S',XF x S'→X x S')∧∀S',Az w h φ.κ φ.L XF Fin n S'→K (.fr .none) S'
theorem Az.no (f:Fin (noS φ ν ψ xs sn)):Az w h φ.κ φ.L XF Fin (n+1) (noS φ ν ψ xs sn):=λ_ _ _ h2 _=>h2 n _ _ f
theorem Az.pa (hs:sn<φ.L)(f:∀K X,Df w h φ XF Fin n K X→km w h [.own 1 φ.κ.e] (iY φ ν ψ xs sn i) K X):Az w h φ.κ φ.L XF Fin (n+1) (iY φ ν ψ xs sn i):=
 λV X h1 h2 h3=>h3 n _ _ _ _ hs (Nat.zero_le _) (f _ X ⟨h1,λ_ g=>g V X h1 h2 h3⟩)
theorem Az.pp (hs:sn<φ.L)(f:∀K X,Df w h φ XF Fin n K X→km w h [.own 1 φ.κ.e] (kj φ ν ψ xs sn i q j) K X):Az w h φ.κ φ.L XF Fin (n+1) (kj φ ν ψ xs sn i q j):=
 λV X h1 h2 h3=>h3 n _ _ _ _ hs (Nat.le_of_ble_eq_true rfl) (f _ X ⟨h1,λ_ g=>g V X h1 h2 h3⟩)
end
theorem AE.ab {k:Nat}{m:Sp}(S:AE k m)(hk:k≤11):an m.a≤1000000000000000000000∧an m.b≤1000000000000000000000∧an m.c≤1000000000000000000000∧an m.d≤1000000000000000000000∧an m.e≤1000000000000000000000∧an m.f≤1000000000000000000000:=by
 obtain ⟨⟨g,p,q,r,s,g1,g2,hp,hq,hr,hs,ea,eb,ec,ed⟩,he,hf⟩:=S
 have z:(4:Int) ^ k≤4194304:=by
  have:=Nat.pow_le_pow_right (show 0<4 by decide) hk
  have h:(4:Int) ^ k≤4 ^ 11:=by exact_mod_cast this
  have e:(4:Int) ^ 11=4194304:=by decide
  lia
 have z0:=sE k
 have gi:In 1000000 g:=⟨by lia,by lia⟩
 have l:∀{p},In (2*4 ^ k) p→an (g*p)≤1000000000000000000000:=λhp=>eK ((gi.mul hp).up (B:=1000000000000000000000) (by lia)) (Int.le_refl _)
 exact ⟨ea▸l hp,eb▸l hq,ec▸l hr,ed▸l hs,eK (he.up (B:=1000000000000000000000) (by lia)) (Int.le_refl _),eK (hf.up (B:=1000000000000000000000) (by lia)) (Int.le_refl _)⟩
theorem uN {k:Nat}{m:Sp}(S:AE k m)(hk:k≤10){r:Ab}(hr:r.iZ 20000000)(hb:aY m r=false):∀v∈(r.aq m).eu,an v≤1000000000000000000000:=by
 have hd:r.lV=false→m.eV≠0:=λhz h=>by unfold aY at hb; rw [hz] at hb; simp [h] at hb
 have go:∀{x y:Int},m.eV≠0→In 20000000 x→In 20000000 y→an (m.aq x y).1≤1000000000000000000000∧an (m.aq x y).2≤1000000000000000000000:=λh hx hy=>by
  obtain ⟨a,b⟩:=S.aq hk h hx hy
  exact ⟨eK a (Int.le_refl _),eK b (Int.le_refl _)⟩
 cases r with
 |m x y=>
  obtain ⟨a,b⟩:=go (hd rfl) hr.1 hr.2
  intro v hv
  simp only [Ab.aq,Ab.qo,Ab.eu,List.mem_cons,List.not_mem_nil,or_false] at hv
  rcases hv with rfl|rfl <;> assumption
 |l x y=>
  obtain ⟨a,b⟩:=go (hd rfl) hr.1 hr.2
  intro v hv
  simp only [Ab.aq,Ab.qo,Ab.eu,List.mem_cons,List.not_mem_nil,or_false] at hv
  rcases hv with rfl|rfl <;> assumption
 |c x1 y1 x2 y2 x3 y3=>
  obtain ⟨a,b⟩:=go (hd rfl) hr.1 hr.2.1
  obtain ⟨a',b'⟩:=go (hd rfl) hr.2.2.1 hr.2.2.2.1
  obtain ⟨a'',b''⟩:=go (hd rfl) hr.2.2.2.2.1 hr.2.2.2.2.2
  intro v hv
  simp only [Ab.aq,Ab.qo,Ab.eu,List.mem_cons,List.not_mem_nil,or_false] at hv
  rcases hv with rfl|rfl|rfl|rfl|rfl|rfl <;> assumption
 |z=>intro v hv; cases hv
structure Cp (φ:Rf)(i:Int)(r:Ab):Prop where
 hl:φ.r.length≤1000000
 hi:i<Int.ofNat φ.r.length
 hf:fits i
 hg:itemAt φ.r i=some r.fv
def P4.of (p:P4)(r:Ab):Pv:=r.of p.p1 p.p2 p.p3 p.p4
theorem P4.als {p:P4}(a:p.aJ)(r:Ab):1≤(p.of r).aJ:=by
 cases r
 ·exact a.1
 ·exact a.2.1
 ·exact a.2.2.1
 ·exact a.2.2.2
theorem uO {m:Sp}{r:Ab}(hb:aY m r=false)(hz:r.lV=false):m.eV≠0:=λh=>by unfold aY at hb; rw [hz] at hb; simp [h] at hb
theorem aax {P:Prop}(p:P):∀{l:List Int} {o:Nat},(∀v∈l,an v≤1000000000000000000000)→sVs o l P
 | [],_,_=>p
 |_::_,_,h=>⟨h _ (.head _),Aa rfl (aax p λv hv=>h v (.tail _ hv))⟩
noncomputable def lvs:Nat→List Int→List Lv
 |_,[]=>[]
 |o,v::r=>⟨o,dp,v⟩::lvs (o+2) r
theorem tf:∀(l:List Int) (o:Nat),(lvs o l).map Lv.pr=l.map λv=>(dp,v)
 | [],_=>rfl
 |v::r,o=>congrArg ((dp,v) :: ·) (tf r (o+2))
theorem aay:∀(l:List Int) (o:Nat),rlV o l=(lvs o l).map Lv.th
 | [],_=>rfl
 |v::r,o=>congrArg (cB o v :: ·) (aay r (o+2))
section
variable {w:World} {h:Heap} {φ:Rf} {ν:Rn} {ψ:Rp} {xs:List FV} {sn i:Int} {r:Ab} {K:KE} {X:KX}
theorem uP {p:Pv}{l:List Int}{o:Nat}(hab:∀v∈l,an v≤1000000000000000000000)(hl:l.length≤6)(hx:xs.length+6≤200)(a:1≤p.aJ)
  (kP:∀(lv:List Lv) (ν:Rn),lv.map Lv.pr=l.map (λv=>(dp,v))→0<p.n→K (.fr .none) (kj φ ν ψ (xs++lv.map Lv.th) (sn+1) (i+1) (bC p) 0))
  (kN:∀(lv:List Lv) (ν:Rn),lv.map Lv.pr=l.map (λv=>(dp,v))→¬0<p.n→K (.fr .none) (iY φ ν ψ (xs++lv.map Lv.th) (sn+1) (i+1))):sL φ ν ψ xs sn i p l o K:=
 Aa rfl ⟨Nat.le_trans hl (by decide),Aa rfl (aax (Aa rfl ⟨Nat.le_trans (Nat.add_le_add_left hl _) hx,Aa rfl (Aa rfl ⟨a,by rw [aay]; exact fu (λhn=>Aa rfl (kP _ _ (tf l _) hn)) λhn=>kN _ _ (tf l _) hn⟩)⟩) hab)⟩
theorem uQ {A B:Prop}(R:Cp φ i r)(a:A):akE φ ν i A B:=Aa rfl (Aa rfl (Aa rfl ⟨R.hl,ze R.hi (Aa rfl ⟨R.hf,a⟩)⟩))
theorem kD (R:Cp φ i r)(hb:aY ψ.m r=false)(B:Bc ψ.m r)(hab:∀v∈(r.aq ψ.m).eu,an v≤1000000000000000000000)(hx:xs.length+6≤200)(a:φ.d.p.aJ)
  (kP:∀(l:List Lv) (ν:Rn),l.map Lv.pr=(r.aq ψ.m).eu.map (λv=>(dp,v))→0<(φ.d.p.of r).n→K (.fr .none) (kj φ ν ψ (xs++l.map Lv.th) (sn+1) (i+1) (bC (φ.d.p.of r)) 0))
  (kN:∀(l:List Lv) (ν:Rn),l.map Lv.pr=(r.aq ψ.m).eu.map (λv=>(dp,v))→¬0<(φ.d.p.of r).n→K (.fr .none) (iY φ ν ψ (xs++l.map Lv.th) (sn+1) (i+1))):S5 w h φ (iY φ ν ψ xs sn i) K X:=by
 rw [pR]
 refine uQ R ?_
 have hd:=uO hb
 have a:=P4.als a r
 have hl:=jq r ψ.m
 have hg:=R.hg
 clear hb R
 cases r with
 |m x y=>exact .inl ⟨x,y,hg,Aa rfl ⟨hd rfl,B.1,B.2.1,B.2.2,Aa rfl (uP hab hl hx a kP kN)⟩⟩
 |l x y=>exact .inr (.inl ⟨x,y,hg,Aa rfl ⟨hd rfl,B.1,B.2.1,B.2.2,Aa rfl (uP hab hl hx a kP kN)⟩⟩)
 |c x1 y1 x2 y2 x3 y3=>exact .inr (.inr (.inl ⟨x1,y1,x2,y2,x3,y3,hg,Aa rfl ⟨hd rfl,B.1,B.2.1.1,B.2.1.2,Aa rfl ⟨hd rfl,B.1,B.2.2.1.1,B.2.2.1.2,Aa rfl ⟨hd rfl,B.1,B.2.2.2.1,B.2.2.2.2,Aa rfl (uP hab hl hx a kP kN)⟩⟩⟩⟩))
 |z=>exact .inr (.inr (.inr ⟨hg,Aa rfl (uP hab hl hx a kP kN)⟩))
theorem qi (R:Cp φ i r)(hb:aY ψ.m r=true)(B:Bc ψ.m r)(kX:∀ν,X (.bytes bUR) (iY φ ν ψ xs (sn+1) i)):Da w h φ (iY φ ν ψ xs sn i) K X:=by
 rw [zW]
 refine uQ R ?_
 unfold aY at hb
 rw [Bool.and_eq_true,decide_eq_true_eq] at hb
 have hg:=R.hg
 have kX:sX φ ν ψ xs sn i X:=λ_=>Aa rfl ⟨rfl,kX _,λ_=>kX _⟩
 clear R
 cases r with
 |m x y=>exact .inl ⟨x,y,hg,Aa rfl ⟨hb.1,B.1,B.2.1,B.2.2,kX⟩⟩
 |l x y=>exact .inr (.inl ⟨x,y,hg,Aa rfl ⟨hb.1,B.1,B.2.1,B.2.2,kX⟩⟩)
 |c x1 y1 x2 y2 x3 y3=>exact .inr (.inr ⟨x1,y1,x2,y2,x3,y3,hg,Aa rfl ⟨hb.1,B.1,B.2.1.1,B.2.1.2,kX⟩⟩)
 |z=>exact nomatch hb.2
theorem qj (hl:φ.r.length≤1000000)(hi:¬i<Int.ofNat φ.r.length)(kE:∀ν,K (.fr .none) (noS φ ν ψ xs (sn+1))):S5 w h φ (iY φ ν ψ xs sn i) K X:=by
 rw [pR]
 exact Aa rfl (Aa rfl (Aa rfl ⟨hl,cF hi (Aa rfl (kE _))⟩))
end
theorem ny {p:Pv}{items:List FV}{n:Int}(hi:p.items=items)(hn:p.n=n):bC p=eX p.k p.ks p.kr items n p.aJ:=by subst hi hn; rfl
section
variable {w:World} {h:Heap} {φ:Rf} {ν:Rn} {ψ:Rp} {xs:List FV} {sn i:Int} {XF:KX} {Fin:St→Prop} {N:Nat} {p:Pv} {v:Int} {c o:Nat}
theorem alt (e:bC p=eX p.k p.ks p.kr [bQ c v] 1 p.aJ)(hs:sn<φ.L)(hx:xs.length<200)(next:∀ν,Az w h φ.κ φ.L XF Fin N (iY φ ν ψ (xs++[bQ c v]) (sn+1) i)):Az w h φ.κ φ.L XF Fin (N+1) (kj φ ν ψ xs sn i (bC p) 0):=
 e▸Az.pp hs λ_ _ H=>.inl ((aqI ..).mpr (Aa rfl (Aa rfl (Aa rfl ⟨hx,Aa rfl (H.2 _ (next _))⟩))))
theorem alu (e:bC p=eX p.k p.ks p.kr [bQ c v,dI o #[101,120,105,116]] 2 p.aJ)(hs:sn+1<φ.L)(hx:xs.length+1<200)(aaz:∀ν,Az w h φ.κ φ.L XF Fin N (noS φ ν ψ (xs++[bQ c v]) (sn+1+1))):Az w h φ.κ φ.L XF Fin (N+2) (kj φ ν ψ xs sn i (bC p) 0):=
 e▸Az.pp (Int.lt_trans (Int.lt_succ _) hs) λ_ _ H=>.inl ((akG ..).mpr (Aa rfl (Aa rfl ⟨Nat.lt_of_succ_lt hx,Aa rfl (H.2 _ (Az.pp hs λ_ _ H=>.inl ((akH ..).mpr (Aa rfl (Aa rfl (Aa rfl ⟨by rw [List.length_append]; exact Nat.le_trans (Nat.le_of_lt hx) (by decide),Aa rfl (H.2 _ (aaz _))⟩))))))⟩)))
theorem aaA {P:Prop}(p:P):∀{l:List Int},(∀v∈l,an v≤1000000000000000000000)→sAs l P
 | [],_=>Aa rfl p
 |_::_,h=>Aa rfl ⟨h _ (.head _),aaA p λv hv=>h v (.tail _ hv)⟩
theorem aaB {ν:Rn}{a:Ar}{P:List FV→Ar→Prop}(hx:xs.length≤190)(h:P xs a):lAr φ ν (xs++[kZ a]) P:=
 Aa rfl ⟨by rw [List.length_append]; exact Nat.le_trans (Nat.succ_le_succ hx) (by decide),xs,a,rfl,h⟩
theorem alv {a:Ar}{k:Nat}(S:AE k ψ.m)(hk:k≤10)(hl:BG a.m)(e:bC p=eX p.k p.ks p.kr [kZ a,dI o #[99,111,110,99,97,116],bQ c v] 3 p.aJ)(hs:sn+1+1<φ.L)(hx:xs.length≤190)(next:∀ν,Az w h φ.κ φ.L XF Fin N (iY φ ν {ψ with m:=a.m.bf ψ.m} (xs++[bQ c v]) (sn+1+1+1) i)):Az w h φ.κ φ.L XF Fin (N+3) (kj φ ν ψ xs sn i (bC p) 0):=by
 have l1:(xs++[kZ a]).length=xs.length+1:=by rw [List.length_append]; rfl
 have ab:∀v∈[(a.m.bf ψ.m).a,(a.m.bf ψ.m).b,(a.m.bf ψ.m).c,(a.m.bf ψ.m).d,(a.m.bf ψ.m).e,(a.m.bf ψ.m).f],an v≤1000000000000000000000:=by
  have:=(S.bf hl).ab (Nat.succ_le_succ hk)
  intro v hv
  simp only [List.mem_cons,List.not_mem_nil,or_false] at hv
  rcases hv with e|e|e|e|e|e <;> rw [e]
  ·exact this.1
  ·exact this.2.1
  ·exact this.2.2.1
  ·exact this.2.2.2.1
  ·exact this.2.2.2.2.1
  ·exact this.2.2.2.2.2
 rw [e]
 refine Az.pp (Int.lt_trans (Int.lt_succ _) (Int.lt_trans (Int.lt_succ _) hs)) λ_ _ H=>.inl ((aqJ ..).mpr (Aa rfl (Aa rfl ⟨Nat.lt_of_le_of_lt hx (by decide),Aa rfl (H.2 _ (Az.pp (Int.lt_trans (Int.lt_succ _) hs) λ_ _ H=>.inl ((aqK ..).mpr (Aa rfl (Aa rfl ⟨?_,Aa rfl ⟨?_,?_,aaB hx (aaB hx (Aa rfl ⟨aai hl,S.b hk,Aa rfl (aaA (Aa rfl (H.2 _ (Az.pp hs λ_ _ H=>.inl ((akF ..).mpr (Aa rfl (Aa rfl (Aa rfl ⟨Nat.lt_of_le_of_lt hx (by decide),Aa rfl (H.2 _ (next _))⟩))))))) ab)⟩))⟩⟩)))))⟩)))
 ·rw [l1]; exact Nat.le_trans (Nat.succ_le_succ hx) (by decide)
 ·rw [l1]; exact Nat.le_trans (Nat.succ_le_succ hx) (by decide)
 ·rw [l1]; exact Int.ofNat_le.mpr (Nat.succ_le_succ (Nat.zero_le _))
theorem aaC {k:Nat}{u:Str}{dH:Int}{ah:FV}(S:AE k ψ.m)(hk:k≤10)(ok:AM u dH ah p.items p.n)(hv:wr u=some v)(hn:0<p.n)(hs:sn+2<φ.L)(hx:xs.length≤190)
  (next:dH≠3→∀c uR ν,uR≤sn+3→Az w h φ.κ φ.L XF Fin N (iY φ ν {ψ with m:=if dH=2 then (adk ah).bf ψ.m else ψ.m} (xs++[bQ c v]) uR i))
  (aaz:dH=3→∀c uR ν,Az w h φ.κ φ.L XF Fin N (noS φ ν ψ (xs++[bQ c v]) uR)):
  Az w h φ.κ φ.L XF Fin (N+3) (kj φ ν ψ xs sn i (bC p) 0):=by
 obtain ⟨v',hv',ok⟩:=ok
 rw [hv] at hv'
 cases hv'
 have hx':xs.length+1<200:=Nat.lt_of_le_of_lt (Nat.succ_le_succ hx) (by decide)
 rcases ok with ⟨hw,_,en,c,ei⟩|⟨_,_,en,_⟩|⟨hw,en,a,o,c,hl,rfl,ei⟩|⟨hw,_,en,c,o,ei⟩
 ·rw [if_neg (by lia)] at next
  exact Az.le (alt (ny ei en) (by lia) (Nat.lt_of_succ_lt hx') λν=>next (by lia) c _ ν (by lia)) (by lia)
 ·lia
 ·rw [if_pos hw] at next
  exact alv S hk hl (ny ei en) (by lia) hx λν=>next (by lia) c _ ν (by lia)
 ·exact Az.le (alu (ny ei en) (by lia) hx' λν=>aaz hw c _ ν) (Nat.le_succ _)
end
theorem adt (r:Ab):wr r.w=some r.tag:=by cases r <;> kernel_rfl
theorem alw {d:D4}(h1:AM aW d.w1 d.a1 d.p.p1.items d.p.p1.n)(h2:AM bM d.w2 d.a2 d.p.p2.items d.p.p2.n)(h3:AM bN d.w3 d.a3 d.p.p3.items d.p.p3.n)(h4:AM bk d.w4 d.a4 d.p.p4.items d.p.p4.n)(r:Ab):AM r.w (aU d r) (r.of d.a1 d.a2 d.a3 d.a4) (r.of d.p.p1 d.p.p2 d.p.p3 d.p.p4).items (r.of d.p.p1 d.p.p2 d.p.p3 d.p.p4).n:=by
 cases r <;> assumption
theorem avm {u:Str}{dH:Int}{ah:FV}{items:List FV}{n:Int}(h:AM u dH ah items n)(hn:¬0<n):dH=1:=by
 obtain ⟨v,_,h⟩:=h
 rcases h with ⟨_,_,h,_⟩|⟨h,_⟩|⟨_,h,_⟩|⟨_,_,h,_⟩ <;> lia
theorem avn {u:Str}{dH:Int}{ah:FV}{items:List FV}{n:Int}(h:AM u dH ah items n)(hn:0<n):dH≠1:=by
 obtain ⟨v,_,h⟩:=h
 rcases h with ⟨h,_⟩|⟨_,_,h,_⟩|⟨h,_⟩|⟨h,_⟩ <;> lia
theorem tg {φ:Rf}{done rest:List Ab}{r:Ab}(e:φ.ae=done++r::rest)(hl:φ.ae.length≤10):Cp φ done.length r:=by
 have el:∀k:Nat,Int.ofNat k=(k:Int):=λ_=>rfl
 have h2:φ.ae.length=done.length+(rest.length+1):=by rw [e,List.length_append,List.length_cons]
 refine ⟨by rw [List.length_map]; lia,by rw [el,List.length_map]; lia,by unfold fits; lia,?_⟩
 show (φ.ae.map Ab.fv)[done.length]?=some r.fv
 rw [e]
 simp
theorem Ao.row {m:Sp}{ae:List Ab}{d:D4}(R:Ao m ae d)(r:Ab):AM r.w (aU d r) (r.of d.a1 d.a2 d.a3 d.a4) (d.p.of r).items (d.p.of r).n:=alw R.2.2.2.1 R.2.2.2.2.1 R.2.2.2.2.2.1 R.2.2.2.2.2.2.1 r
theorem Ao.aJ {m:Sp}{ae:List Ab}{d:D4}(R:Ao m ae d):d.p.aJ:=R.2.2.2.2.2.2.2
section
variable {wy:Ab→Int} {hm:Ab→Sp} {r:Ab} {rs:List Ab} {m:Sp}
theorem aaD (hb:aY m r=true):bp wy hm (r::rs) m=([],m,false):=by unfold bp; rw [hb]
theorem alx (hb:aY m r=false)(h3:wy r=3):bp wy hm (r::rs) m=(cT wy r m,bE wy hm r m,true):=by unfold bp; rw [hb]; exact if_pos h3
theorem aly (hb:aY m r=false)(h3:wy r≠3):bp wy hm (r::rs) m=(cT wy r m++(bp wy hm rs (bE wy hm r m)).1,(bp wy hm rs (bE wy hm r m)).2.1,(bp wy hm rs (bE wy hm r m)).2.2):=by
 rw [show bp wy hm (r::rs) m=match aY m r with
  |true=>([],m,false)
  |false=>if wy r=3 then (cT wy r m,bE wy hm r m,true) else (cT wy r m++(bp wy hm rs (bE wy hm r m)).1,(bp wy hm rs (bE wy hm r m)).2.1,(bp wy hm rs (bE wy hm r m)).2.2) from rfl,hb]
 exact if_neg h3
theorem ah4 {l l1:List Lv}{c:Nat}(e:l1.map Lv.pr=(r.aq m).eu.map λv=>(dp,v))(h:wy r≠1):(l++l1++[(⟨c,v6,r.tag⟩:Lv)]).map Lv.pr=l.map Lv.pr++cT wy r m:=by
 unfold cT
 rw [if_neg h,List.map_append,List.map_append,e,List.append_assoc]
 rfl
theorem ar8 {l l1:List Lv}(e:l1.map Lv.pr=(r.aq m).eu.map λv=>(dp,v))(h:wy r=1):(l++l1).map Lv.pr=l.map Lv.pr++cT wy r m:=by
 unfold cT
 rw [if_pos h,List.map_append,e,List.append_nil]
end
theorem ar9 (l l1:List Lv)(c:Nat)(v:Int):(l++l1++[(⟨c,v6,v⟩:Lv)]).map Lv.th=l.map Lv.th++l1.map Lv.th++[bQ c v]:=by rw [List.map_append,List.map_append]; rfl
section
variable {w:World} {h:Heap} {φ:Rf} {ν:Rn} {ψ:Rp} {sn i:Int} {XF:KX} {Fin:St→Prop} {N k:Nat} {l:List Lv} {r:Ab} {m0:Sp}
theorem wB (R:Ao m0 φ.ae φ.d)(A:Cp φ i r)(S:AE k ψ.m)(hk:k≤10)(hr:r.iZ 20000000)(hb:aY ψ.m r=false)(hs:sn+4≤φ.L)(hx:l.length≤180)
  (next:aU φ.d r≠3→∀(l':List Lv) ν uR,l'.map Lv.pr=l.map Lv.pr++cT (aU φ.d) r ψ.m→uR≤sn+4→Az w h φ.κ φ.L XF Fin N (iY φ ν {ψ with m:=bE (aU φ.d) (bF φ.d) r ψ.m} (l'.map Lv.th) uR (i+1)))
  (aaz:aU φ.d r=3→∀(l':List Lv) ν uR,l'.map Lv.pr=l.map Lv.pr++cT (aU φ.d) r ψ.m→Az w h φ.κ φ.L XF Fin N (noS φ ν ψ (l'.map Lv.th) uR)):
  Az w h φ.κ φ.L XF Fin (N+4) (iY φ ν ψ (l.map Lv.th) sn i):=by
 have ok:=R.row r
 have hp:=jq r ψ.m
 refine Az.pa (by lia) λ_ _ H=>.inl (kD A hb (l0 S hk hr) (uN S hk hr hb) (by rw [List.length_map]; lia) R.aJ (λl1 ν e1 hn=>H.2 _ ?_) λl1 ν e1 hn=>H.2 _ ?_)
 ·have n1:=avn ok hn
  refine aaC S hk ok (adt r) hn (by lia) ?_ (λn3 c uR ν hsn=>?_) λn3 c uR ν=>?_
  ·have:=congrArg List.length e1
   rw [List.length_map,List.length_map] at this
   rw [List.length_append,List.length_map,List.length_map]
   lia
  ·rw [←ar9]
   exact next n3 _ _ _ (ah4 e1 n1) (by lia)
  ·rw [←ar9]
   exact aaz n3 _ _ _ (ah4 e1 n1)
 ·have n1:=avm ok hn
  have:=next (by lia) _ ν (sn+1) (ar8 e1 n1) (by lia)
  unfold bE at this
  rw [if_neg (by lia),List.map_append] at this
  exact this.le (Nat.le_add_right _ _)
end
def CX (φ:Rf)(ψ:Rp)(qq:List (Str×Int))(b:Bool):St→Prop:=λS'=>b=true∧∃(l:List Lv) (ν:Rn) (sn:Int),S'=noS φ ν ψ (l.map Lv.th) sn∧l.map Lv.pr=qq
def Do (φ:Rf)(ψ:Rp)(qq:List (Str×Int))(b:Bool):KX:=λx S'=>b=false∧x=.bytes bUR∧∃(l:List Lv) (ν:Rn) (sn i:Int),S'=iY φ ν ψ (l.map Lv.th) sn i∧l.map Lv.pr=qq
theorem avo (w:World)(h:Heap){φ:Rf}{m0:Sp}(R:Ao m0 φ.ae φ.d){ψ:Rp}{qq:List (Str×Int)}{b:Bool}:∀(rest done:List Ab),φ.ae=done++rest→∀{k:Nat} {m:Sp},AE k m→k+rest.length≤10→∀(l:List Lv) (q:List (Str×Int)),bp (aU φ.d) (bF φ.d) rest m=(q,ψ.m,b)→l.map Lv.pr++q=qq→∀{ν:Rn} {sn:Int},sn+4*rest.length+1≤φ.L→l.length+7*rest.length≤150→
   Az w h φ.κ φ.L (Do φ ψ qq b) (CX φ ψ qq b) (4*rest.length+3) (iY φ ν {ψ with m:=m} (l.map Lv.th) sn done.length):=by
 intro rest
 induction rest with
 |nil=>
  intro done e k m S hk l q hd hq ν sn hs hx
  injection hd with h1 hd
  injection hd with h2 h3
  subst h1 h2 h3
  rw [List.append_nil] at hq e
  have hl:=R.2.2.1
  exact Az.pa (n:=2) (by rw [List.length_nil] at hs; lia) λ_ _ H=>.inl (qj (by rw [List.length_map]; lia) (by rw [List.length_map,e]; exact Int.lt_irrefl _) λν=>H.2 _ (Az.no ⟨rfl,l,ν,_,rfl,hq⟩))
 |cons r rest ih=>
  intro done e k m S hk l q hd hq ν sn hs hx
  rw [List.length_cons] at hk hs hx
  have A:=tg e R.2.2.1
  have hr:r.iZ 20000000:=R.2.1 r (by rw [e]; exact List.mem_append_right _ (.head _))
  cases hb:aY m r with
  |true=>
   rw [aaD hb] at hd
   injection hd with h1 hd
   injection hd with h2 h3
   subst h1 h2 h3
   rw [List.append_nil] at hq
   exact Az.le (Az.pa (n:=0) (by lia) λ_ _ H=>.inr (qi A hb (l0 S (by lia) hr) λν=>H.1 _ _ ⟨rfl,rfl,l,ν,_,_,rfl,hq⟩)) (Nat.succ_le_succ (Nat.zero_le _))
  |false=>
   have sM:AE (k+1) (bE (aU φ.d) (bF φ.d) r m):=ij S λh2=>(kC (R.row r) h2).2
   have dl:=ig (aU φ.d) r m
   refine wB R A S (by lia) hr hb (by lia) (by lia) (λn3 l' ν uR e' qP=>?_) λn3 l' ν uR e'=>?_
   ·have ed:((done.length:Nat):Int)+1=(((done++[r]).length:Nat):Int):=by rw [List.length_append]; rfl
    rw [aly hb n3] at hd
    injection hd with h1 hd
    injection hd with h2 h3
    rw [ed]
    have:=congrArg List.length e'
    rw [List.length_append,List.length_map,List.length_map] at this
    exact ih (done++[r]) (by rw [e,List.append_assoc]; rfl) sM (by lia) l' (bp (aU φ.d) (bF φ.d) rest (bE (aU φ.d) (bF φ.d) r m)).1 (by rw [←h2,←h3]) (by rw [←hq,←h1,e',List.append_assoc]) (by lia) (by lia)
   ·rw [alx hb n3] at hd
    injection hd with h1 hd
    injection hd with h2 h3
    have e4:bE (aU φ.d) (bF φ.d) r m=m:=if_neg (by lia)
    rw [e4] at h2
    exact Az.no ⟨h3.symm,l',ν,uR,by rw [h2],by rw [e',h1,hq]⟩
noncomputable abbrev R1.f (x:R1)(κ:Ky):Rf:=⟨κ,x.σ.sn+900,x.σ.aM,x.σ.own,x.ae,x.d⟩
abbrev R1.p (x:R1):Rp:=⟨x.σ.m,x.σ.bg,x.σ.pt,x.ae.map Ab.fv⟩
noncomputable abbrev R1.n (x:R1)(aa:Nat):Rn:=⟨x.σ.tx,x.σ.tc,x.σ.k5,x.σ.aH,x.b8,x.ce,0,0,.none,[],aa⟩
theorem aaE {w:World}{h:Heap}{args:List AV}{S:St}{K:KE}{X:KX}{x:R1}{N:Nat}(ea:args=[.own 1 (dw S.af).e,.fr (.int 900)])(e:S.af=x.st (dw S.af))(g:Az w h (dw S.af) (x.σ.sn+900) (λx S'=>X x ⟨S.loc,S.ai,S.am,S'.af,S'.aa⟩) (λS'=>∃δ,S'=jp (dw S.af) (x.σ.sn+900) δ false (.list [])∧K (.fr (.str uB)) ⟨S.loc,S.ai,S.am,δ.g (dw S.af) false (.list []),δ.aa⟩) N (iY (x.f (dw S.af)) (x.n S.aa) x.p [] x.σ.sn 0)):tGo w h args S K X:=
 ⟨akZ S.af,⟨x.σ.tx,x.σ.tc,x.σ.k5,[],x.σ.sn,x.σ.aH,cy x.σ.m,x.σ.bg,x.σ.pt,x.ae.map Ab.fv,(14,x.σ.aM,.list x.σ.own)::(21,x.b8,paO .none (.fl (x.ae.map Ab.fv)) x.d.p.v 0)::(20,x.ce,.inst 1124 21 x.b8)::[],S.aa⟩,x.σ.sb,(20,x.ce),[],N,ea,e,rfl,g⟩
theorem adu (w:World)(h:Heap){args:List AV}{S:St}{K:KE}{X:KX}(t:aag args S K X):tGo w h args S K X:=by
 obtain ⟨x,ea,e,R,t⟩:=t
 have go:=λ{q m' b} hd=>avo w h (φ:=x.f (dw S.af)) (ψ:={x.p with m:=m'}) (qq:=q) (b:=b) R x.ae [] rfl R.1 (by have:=R.2.2.1; lia) [] q hd rfl (ν:=x.n S.aa) (sn:=x.σ.sn) (by have:=R.2.2.1; show _≤x.σ.sn+900; lia) (by have:=R.2.2.1; rw [List.length_nil]; lia)
 refine aaE ea e (N:=4*x.ae.length+3) ?_
 cases hL:uJ S.loc with
 |none=>rw [hL] at t; exact t.elim
 |some b=>
  rw [hL] at t
  cases b with
  |true=>exact t.elim λq t=>t.elim λm' t=>(go t.1).aw (λ_ _ hx=>nomatch hx.1) λ_ hf=>hf.2.elim λl hf=>hf.elim λν hf=>hf.elim λsn hf=>⟨_,hf.1,t.2 ν.tx ν.tc ν.k5 l sn ν.aH ν.g ν.aa hf.2⟩
  |false=>exact t.elim λq t=>t.elim λm' t=>(go t.1).aw (λ_ S' hx=>hx.2.1▸hx.2.2.elim λl hx=>hx.elim λν hx=>hx.elim λsn hx=>hx.elim λi hx=>by rw [hx.1]; exact t.2 ν.tx ν.tc ν.k5 l sn ν.aH ν.b8 ν.ce ν.pr i ν.g ν.aa hx.2) λ_ hf=>nomatch hf.1
@[elab_as_elim] theorem i3 {l:List Lv}{u:Str}{v:Int}{r:List (Str×Int)}(e:l.map Lv.pr=(u,v)::r){C:List Lv→Prop}(f:∀c t,t.map Lv.pr=r→C (⟨c,u,v⟩::t)):C l:=by
 cases l with
 |nil=>cases e
 |cons q t=>
  rw [List.map_cons] at e
  injection e with e1 e2
  cases q
  injection e1 with e3 e4
  subst e3 e4
  exact f _ t e2
theorem tj {l:List Lv}(e:l.map Lv.pr=[]):l=[]:=List.map_eq_nil_iff.mp e
theorem aaF {l:List Lv}{a b:Int}(e:l.map Lv.pr=[(dp,a),(dp,b)]):∃c1 c2,l=[⟨c1,dp,a⟩,⟨c2,dp,b⟩]:=
 i3 e λc1 _ e=>i3 e λc2 _ e=>⟨c1,c2,by rw [tj e]⟩
theorem alz {l:List Lv}{a b c d e' f:Int}(e:l.map Lv.pr=[(dp,a),(dp,b),(dp,c),(dp,d),(dp,e'),(dp,f)]):∃c1 c2 c3 c4 c5 c6,l=[⟨c1,dp,a⟩,⟨c2,dp,b⟩,⟨c3,dp,c⟩,⟨c4,dp,d⟩,⟨c5,dp,e'⟩,⟨c6,dp,f⟩]:=
 i3 e λc1 _ e=>i3 e λc2 _ e=>i3 e λc3 _ e=>i3 e λc4 _ e=>i3 e λc5 _ e=>i3 e λc6 _ e=>⟨c1,c2,c3,c4,c5,c6,by rw [tj e]⟩
theorem adv {p:Pv}{b:Array UInt8}(ok:Be p b):∃o,bC p=eX p.k p.ks p.kr [dI o b] 1 p.aJ:=by
 obtain ⟨_,hn,o,hi⟩:=ok
 exact ⟨o,ny hi hn⟩
def CY (φ:Rf)(m:Sp)(NN:List Ab):St→Prop:=λS'=>∃(ν:Rn) (bg pt:FV) (sn:Int),S'=noS φ ν ⟨m,bg,pt,NN.map Ab.fv⟩ [] sn
def B9 (p:P4):Prop:=Be p.p1 #[109,111,118,101,116,111]∧Be p.p2 #[108,105,110,101,116,111]∧Be p.p3 #[99,117,114,118,101,116,111]∧Be p.p4 #[99,108,111,115,101,112,97,116,104]
def CZ (bg pt:FV)(ps:List Ab):Prop:=∃b0 b1 q0 q1,bg=.az [.int b0,.int b1]∧pt=.az [.int q0,.int q1]∧aO ps=.m b0 b1
section
variable {w:World} {h:Heap} {φ:Rf} {ν:Rn} {m:Sp} {bg pt:FV} {ps:List Ab} {sn i:Int} {k:Nat} {r:Ab} {K:KE} {X:KX}
theorem kF {P:Prop}{x y:Int}{j:Nat}(S:AE k m)(hk:k≤10)(hd:m.eV≠0)(hx:In 20000000 x)(hy:In 20000000 y)(p:P):sBo m (m.aq x y).1 (m.aq x y).2 j P:=
 ⟨S.b hk,(S.aq hk hd hx hy).1.up (by decide),(S.aq hk hd hx hy).2.up (by decide),Aa rfl ⟨eK (S.round hk hd hx hy).1 (by decide),eK (S.round hk hd hx hy).2 (by decide),p⟩⟩
theorem tq {F:Int→Int→List Ab→Int→Int→Prop}{b0 b1 q0 q1:Int}(hl:ps.length≤1000)(hM:aO ps=.m b0 b1)(f:∀p0 p1,F b0 b1 ps p0 p1):sTo ⟨m,.az [.int b0,.int b1],.az [.int q0,.int q1],ps.map Ab.fv⟩ F:=
 ⟨b0,b1,q0,q1,ps,rfl,rfl,rfl,hl,(λh=>by rw [h] at hM; cases hM),hM,f⟩
theorem adw (S:AE k m)(hk:k≤10)(hb:aY m r=false)(hr:r.iZ 20000000)(o:B9 φ.d.p)(hW:CZ bg pt ps)(hl:ps.length≤1000){l:List Lv}(e:l.map Lv.pr=(r.aq m).eu.map λv=>(dp,v))
  (kN:∀ν bg pt,CZ bg pt (aX ps ((r.aq m).on m))→K (.fr .none) (iY φ ν ⟨m,bg,pt,(aX ps ((r.aq m).on m)).map Ab.fv⟩ [] (sn+1) i)):S5 w h φ (kj φ ν ⟨m,bg,pt,ps.map Ab.fv⟩ (l.map Lv.th) sn i (bC (φ.d.p.of r)) 0) K X:=by
 obtain ⟨b0,b1,q0,q1,rfl,rfl,hM⟩:=hW
 have hd:=uO hb
 clear hb
 cases r with
 |m x y=>
  obtain ⟨c1,c2,rfl⟩:=aaF e
  obtain ⟨o,eo⟩:=adv o.1
  rw [show φ.d.p.of (.m x y)=φ.d.p.p1 from rfl,eo]
  exact (aqL w h K X φ ν _ sn i _ _ _ _ o c1 c2 _ _).mpr (Aa rfl (Aa rfl (Aa rfl (Aa rfl (Aa rfl (kF S hk (hd rfl) hr.1 hr.2 (Aa rfl ⟨ps,rfl,hl,λq0 q1=>Aa rfl (kN _ _ _ ⟨_,_,_,_,rfl,rfl,eJ _ _ _⟩)⟩)))))))
 |l x y=>
  obtain ⟨c1,c2,rfl⟩:=aaF e
  obtain ⟨o,eo⟩:=adv o.2.1
  rw [show φ.d.p.of (.l x y)=φ.d.p.p2 from rfl,eo]
  exact (aqM w h K X φ ν _ sn i _ _ _ _ o c1 c2 _ _).mpr (Aa rfl (Aa rfl (Aa rfl (Aa rfl (Aa rfl (kF S hk (hd rfl) hr.1 hr.2 (Aa rfl (tq hl hM λq0 q1=>Aa rfl (kN _ _ _ ⟨_,_,_,_,rfl,rfl,cG hM rfl⟩)))))))))
 |c x1 y1 x2 y2 x3 y3=>
  obtain ⟨c1,c2,c3,c4,c5,c6,rfl⟩:=alz e
  obtain ⟨o,eo⟩:=adv o.2.2.1
  rw [show φ.d.p.of (.c x1 y1 x2 y2 x3 y3)=φ.d.p.p3 from rfl,eo]
  exact (aqN w h K X φ ν _ sn i _ _ _ _ o c1 c2 c3 c4 c5 c6 _ _ _ _ _ _).mpr (Aa rfl (Aa rfl (Aa rfl (Aa rfl (Aa rfl (kF S hk (hd rfl) hr.1 hr.2.1 (Aa rfl (kF S hk (hd rfl) hr.2.2.1 hr.2.2.2.1 (Aa rfl (kF S hk (hd rfl) hr.2.2.2.2.1 hr.2.2.2.2.2 (Aa rfl (tq hl hM λq0 q1=>Aa rfl (kN _ _ _ ⟨_,_,_,_,rfl,rfl,cG hM rfl⟩)))))))))))))
 |z=>
  have el:=tj e
  subst el
  obtain ⟨o,eo⟩:=adv o.2.2.2
  rw [show φ.d.p.of .z=φ.d.p.p4 from rfl,eo]
  exact (aqO w h K X φ ν _ [] sn i _ _ _ _ o).mpr (Aa rfl (Aa rfl (Aa rfl ⟨Nat.zero_le _,Aa rfl (tq hl hM λq0 q1=>Aa rfl (kN _ _ _ ⟨_,_,_,_,rfl,rfl,cG hM rfl⟩))⟩)))
end
theorem B9.n {p:P4}(o:B9 p)(r:Ab):0<(p.of r).n:=by
 have:(p.of r).n=1:=by
  cases r
  ·exact o.1.2.1
  ·exact o.2.1.2.1
  ·exact o.2.2.1.2.1
  ·exact o.2.2.2.2.1
 rw [this]; decide
theorem B9.aJ {p:P4}(o:B9 p):p.aJ:=⟨o.1.1,o.2.1.1,o.2.2.1.1,o.2.2.2.1⟩
theorem avp (w:World)(h:Heap){φ:Rf}{m:Sp}{k:Nat}(S:AE k m)(hk:k≤10)(hl:φ.ae.length≤10)(hB:∀r∈φ.ae,r.iZ 20000000)(hb:∀r∈φ.ae,aY m r=false)(o:B9 φ.d.p){NN:List Ab}{XF:KX}:
  ∀(rest done:List Ab),φ.ae=done++rest→∀(ps:List Ab),iP m rest ps=NN→ps.length+2*rest.length≤100→∀{bg pt:FV},(rest≠[]→CZ bg pt ps)→∀{ν:Rn} {sn:Int},sn+2*rest.length+1≤φ.L→
   Az w h φ.κ φ.L XF (CY φ m NN) (2*rest.length+2) (iY φ ν ⟨m,bg,pt,ps.map Ab.fv⟩ [] sn done.length):=by
 intro rest
 induction rest with
 |nil=>
  intro done e ps hN hp bg pt hO ν sn hs
  rw [List.append_nil] at e
  subst hN
  exact Az.pa (n:=1) (by rw [List.length_nil] at hs; lia) λ_ _ H=>.inl (qj (by rw [List.length_map]; lia) (by rw [List.length_map,e]; exact Int.lt_irrefl _) λν=>H.2 _ (Az.no ⟨ν,bg,pt,_,rfl⟩))
 |cons r rest ih=>
  intro done e ps hN hp bg pt hO ν sn hs
  rw [List.length_cons] at hp hs
  have hrm:r∈φ.ae:=by rw [e]; exact List.mem_append_right _ (.head _)
  have hr:=hB r hrm
  have hbr:=hb r hrm
  have ed:((done.length:Nat):Int)+1=(((done++[r]).length:Nat):Int):=by rw [List.length_append]; rfl
  have pl:=nu ps ((r.aq m).on m)
  refine Az.le (Az.pa (n:=(2*rest.length+2)+1) (by lia) λ_ _ H=>.inl (kD (tg e hl) hbr (l0 S hk hr) (uN S hk hr hbr) (by decide) o.aJ (λl ν e1 _=>H.2 _ (Az.pp (by lia) λ_ _ H=>.inl (adw S hk hbr hr o (hO (List.cons_ne_nil _ _)) (by lia) e1 λν bg pt hW=>H.2 _ ?_))) λl ν e1 hn=>absurd (o.n r) hn)) (Nat.le_refl _)
  rw [ed]
  exact ih (done++[r]) (by rw [e,List.append_assoc]; rfl) _ hN (by lia) (λ_=>hW) (by lia)
theorem adx (w:World)(h:Heap){args:List AV}{S:St}{K:KE}{X:KX}(t:aar args S K X):tGo w h args S K X:=by
 obtain ⟨x,ea,e,⟨⟨k,hk,hS⟩,hP,o⟩,t⟩:=t
 have hl:=hP.len
 cases hL:uJ S.loc with
 |none=>rw [hL] at t; exact t.elim
 |some b=>
 rw [hL] at t
 cases b with
 |true=>
  exact aaE ea e ((avp w h (φ:=x.f (dw S.af)) (XF:=λ_ _=>False) hS hk hl hP.iZ t.1 o x.ae [] rfl x.ae rfl (by lia) (λlB=>hP.st.elim (λh=>absurd h.1 lB) λ⟨b0,b1,q0,q1,e1,e2,e3,_⟩=>⟨b0,b1,q0,q1,e1,e2,e3⟩) (ν:=x.n S.aa) (sn:=x.σ.sn) (by show _≤x.σ.sn+900; lia)).aw (λ_ _ hx=>hx.elim) λ_ hf=>hf.elim λν hf=>hf.elim λbg hf=>hf.elim λpt hf=>hf.elim λsn hf=>⟨_,hf,t.2 ν.tx ν.tc ν.k5 sn ν.aH bg pt ν.g ν.aa⟩)
 |false=>
  obtain ⟨⟨r,hr,hbr⟩,t⟩:=t
  refine hP.st.elim (λh0=>by rw [h0.1] at hr; exact nomatch hr) λ⟨_,_,_,_,_,_,_,u,y,q,e4⟩=>?_
  have hb:aY x.σ.m (.m u y)=true:=by
   unfold aY at hbr ⊢
   rw [Bool.and_eq_true] at hbr ⊢
   exact ⟨hbr.1,rfl⟩
  exact aaE ea e (Az.pa (n:=0) (by show _<x.σ.sn+900; lia) λ_ _ H=>.inr (qi (tg (φ:=x.f (dw S.af)) (done:=[]) e4 hl) hb (l0 hS hk (hP.iZ (.m u y) (by rw [e4]; exact .head _))) λν=>H.1 _ _ (t ν.tx ν.tc ν.k5 _ ν.aH ν.b8 ν.ce ν.pr _ ν.g ν.aa)))
theorem ah5 (w:World)(h:Heap):(728,tGo w h)∈E7 w h:=by unfold E7; exact .tail _ (.tail _ (.head _))
def Dp (w:World)(h:Heap):List (Addr×CT):=(692,s6)::(728,aag)::E8 w h
theorem B4 {w:World}{h:Heap}(Y:YL w h):AN w h 80 (Dp w h):=
 .cons (aC (alb Y) rfl rfl 6 λ_ _ _ _ t=>adj w h 0 t) (.cons (((Bt Y).up 12).kh (ah5 w h) λ_ _ _ _ t=>adu w h t) ((Ba Y).up 12))
theorem ady {w:World}{h:Heap}(Y:YL w h):AB (ald w h) 80:=cq Y eM adl cJ eN (B4 Y).f6
theorem alA:(1474,zu)∈E2:=by unfold E2; exact .tail _ (.tail _ (.tail _ (.tail _ (.tail _ (.head _)))))
theorem B5 {w:World}{h:Heap}(Y:YL w h):AN w h 68 ((728,aar)::EA w h):=
 .cons ((Bt Y).kh (ah5 w h) λ_ _ _ _ t=>adx w h t) (.cons (aa9 Y) (.cons (((Bs Y).up 46).kh alA λ_ _ _ _ t=>adq t) (Ba Y)))
theorem adz {w:World}{h:Heap}(Y:YL w h):AB (adr w h) 68:=cq Y eM aat cJ eN (B5 Y).f6
def E9 (w:World)(h:Heap):List (Addr×CT):=(1512,ar4)::(1517,ah1)::(1522,ah3)::E8 w h
theorem Cq {w:World}{h:Heap}(Y:YL w h):AN w h 100 (E9 w h):=
 .cons (aC (adh Y) rfl rfl 10 λ_ _ _ _ t=>ar5 w h 0 t) (.cons (aC (ady Y) rfl rfl 10 λ_ _ _ _ t=>alo w h 0 t) (.cons (λB=>(aC (adz Y) rfl rfl 10 (λ_ _ _ _ t=>alr w h 0 t) B).up 12) ((Ba Y).up 32)))
section
noncomputable def l6:Str:=Str.mk (Array.mk [99,101,108,108])
noncomputable def eO:Str:=Str.mk (Array.mk [115,99,114,105,112,116])
noncomputable def uS:Int:=1000000000000000000000000000000000000000000000000000000000000
def nA:AI:=λaA aV items S K=>match S with
 |⟨[],ai,am,af,aa⟩=>∃l:List Int,items=l.map (λq=>.fr (.int q))∧(∀loc aa,aV ⟨loc,ai,am,af,aa⟩)∧
  (∀v aa K',(∀a aa,K' (some (.int (v.fmod uS))) ⟨[(l6,a)],ai,am,af,aa⟩)→aA (.fr (.int v)) ⟨[],ai,am,af,aa⟩ K')∧
  (∀v b aa K',(∀a aa,K' (some (.int (v.fmod uS))) ⟨[(l6,a)],ai,am,af,aa⟩)→aA (.fr (.int v)) ⟨[(l6,b)],ai,am,af,aa⟩ K')∧
  ∀loc aa,K (l.map λv=>.int (v.fmod uS)) ⟨loc,ai,am,af,aa⟩
 |_=>False
theorem tu:AA nA:=by
 intro aA aV items S K h
 unfold nA at h
 split at h
 ·obtain ⟨l,rfl,hc,h1,h2,hK⟩:=h
  exact ie l6 FV.int _ l hc (λq _ aa K' k=>h1 q aa K' k) (λq _ b aa K' k=>h2 q b aa K' k) hK
 ·exact h.elim
def alB (p:Pos):AI:=match Nat.beq p.line 985 with
 |true=>nA
 |false=>nh p
theorem adA (p:Pos):AA (alB p):=by
 unfold alB
 split
 ·exact tu
 ·exact eM p
def alC (p:Pos):SubL:=match eQ [(988,41,72),(990,41,72)] p with
 |true=>sS
 |false=>ni p
theorem adB (p:Pos):Aw (alC p):=by
 unfold alC
 split
 ·exact lW
 ·exact eN p
def aaG:CT:=λargs S K _=>∃p:PG,args=[.own 1 (dw S.af).e,.own 12 (dw S.af).a]∧S.af=gl (dw S.af) p.tx p.tc p.k5 [] 0 false p.aH (.list []) (cy p.m) .none .none [] []∧250000≤p.gr∧p.gr≤1000000∧Br p.gr p.m∧p.b<100000000∧Af p.b p.tx p.tc∧
 ∀pZ p5 jf ky bg pt ae ay aM,Ax bg pt ae→Af (p.b+100) pZ p5→K (.own 14 aM) ⟨S.loc,S.ai,S.am,gl (dw S.af) pZ p5 jf [] 0 false ky (.list []) (cy p.m) bg pt (ae.map Ab.fv) [(14,aM,.list (ae.map Ab.fv))],ay⟩
theorem aaH {args:List AV}{S:St}{K:KE}{X:KX}(t:aaG args S K X):uE args S K X:=
 t.elim λp h=>⟨{p with kl:=akZ S.af},h⟩
theorem adC (w:World)(h:Heap):(1484,uE)∈E7 w h:=by unfold E7; exact .head _
def EL (w:World)(h:Heap):List (Addr×CT):=(1484,aaG)::(1422,eP)::E9 w h
theorem Cr {w:World}{h:Heap}(Y:YL w h):AN w h 100 (EL w h):=
 .cons (((Bt Y).up 32).kh (adC w h) λ_ _ _ _ t=>aaH t) (.cons (((Bl Y).up 98) (1422,eP) (by unfold E0; exact .head _)) (Cq Y))
abbrev cfL (w:World)(h:Heap):Cf:=cf w h (du (EL w h)) dr alB fW alC
theorem alD {w:World}{h:Heap}(Y:YL w h):AB (cfL w h) 100:=cq Y adA bo cJ adB (Cr Y).f6
end
section
noncomputable def lwK (a b:Nat):Ky:=⟨a,a+1,a+2,a+6,a+7,a+8,b,b+1,b+2,b+3,b+4,a+5⟩
def lwD (k:Nat)(xs:List FV)(c:Int)(F:Int→List FV→Int→Sp→Nat→Prop):Prop:=Q [.k k,.j 0 3,.i 3 1000000] (As 1000000000 1 xs c λxs c=>∀(r:Int),0≤r→r<3→fits r∧∃v,itemAt [FV.int 1000000,.int 250000,.int 333333] r=some (FV.int v)∧Q [.k k] (0≤v∧v≤1000000∧As 900000000 7 xs c λxs c=>∀(a1 a2 a3 a4 a5 a6:Int) (aa:Nat),Br v ⟨a1,a2,a3,a4,a5,a6⟩→F v xs c ⟨a1,a2,a3,a4,a5,a6⟩ aa))
def lwP (L:List Tv)(u:Str)(xs:List FV)(c:Int)(F:List FV→Int→Int→FV→Pv→Prop):Prop:=Q L (As 800000000 10 xs c λxs c=>∀(dH:Int) (ah:FV) (k0 ka kb:Nat) (items:List FV) (n aJ:Int),Nat→AM u dH ah items n→1≤aJ→aJ≤3→F xs c dH ah ⟨k0,ka,kb,items,n,aJ⟩)
section
variable (κ:Ky) (Kf:KF) (zs:List Int)
def lwA (d:D4)(x:R1)(aM:Nat)(tx:List FV)(tc:Int)(k5:Nat)(sn:Int)(aH:FV)(m:Sp)(r:OL):Prop:=∃(y:R1),[AV.own 1 κ.e,.own 14 aM]=[.own 1 κ.e,.own 14 y.σ.aM]∧gl κ tx tc k5 [] sn false aH (.list []) (cy m) x.σ.bg x.σ.pt (List.map Ab.fv x.ae) ((14,x.σ.aM,.list (List.map Ab.fv x.ae))::r)=gl κ y.σ.tx y.σ.tc y.σ.k5 [] y.σ.sn false y.σ.aH (.list []) (cy y.σ.m) y.σ.bg y.σ.pt (List.map Ab.fv y.ae) ((14,y.σ.aM,.list (List.map Ab.fv y.ae))::r)∧(∃k,k≤10∧AE k y.σ.m)∧Ax y.σ.bg y.σ.pt y.ae∧∀(G:OL) (aa:Nat),Kf (.ret (.fr (.bool true))) (St.mk [(eO,.fr (.fl (List.map FV.int zs))),(yW,.own 12 κ.a),(b7,.own 1 κ.e),(pS,.own 14 aM),(px,.fr d.v),(eg,.fr (.str bk))] [] [] G aa)
def lwG (d:D4)(σ:MS)(aM:Nat)(tx:List FV)(tc:Int)(k5:Nat)(aH:FV):Prop:=∃(x:R1),[AV.own 1 κ.e,.own 14 aM,.fr d.v]=[.own 1 κ.e,.own 14 x.σ.aM,.fr x.d.v]∧gl κ tx tc k5 [] 0 false aH (.list []) (cy σ.m) σ.bg σ.pt σ.ks [(14,σ.aM,.list σ.ks)]=gl κ x.σ.tx x.σ.tc x.σ.k5 [] 0 false x.σ.aH (.list []) (cy x.σ.m) x.σ.bg x.σ.pt (List.map Ab.fv x.ae) [(14,x.σ.aM,.list (List.map Ab.fv x.ae))]∧Ao x.σ.m x.ae x.d∧∀(tx:List FV) (tc:Int) (k5:Nat) (sn:Int) (aH:FV) (m:Sp) (r:OL),Nat→(∃k,k≤10∧AE k m)→lwA κ Kf zs d x aM tx tc k5 sn aH m r
def lwR (ρ:MS)(ae:List Ab)(d:D4):Prop:=∃(σ:MS) (d':D4) (b:Nat),[AV.own 1 κ.e,.own 12 κ.a,.own 14 ρ.aM,.fr d.v]=[.own 1 κ.e,.own 12 κ.a,.own 14 σ.aM,.fr d'.v]∧gl κ ρ.tx ρ.tc ρ.k5 [] 0 false ρ.aH (.list []) (cy ρ.m) ρ.bg ρ.pt (List.map Ab.fv ae) [(14,ρ.aM,.list (List.map Ab.fv ae))]=gl κ σ.tx σ.tc σ.k5 [] 0 false σ.aH (.list []) (cy σ.m) σ.bg σ.pt σ.ks [(14,σ.aM,.list σ.ks)]∧d'.p.aJ∧σ.ks.length≤1000∧(∀x∈σ.ks,nE x)∧b<700000000∧Af b σ.tx σ.tc∧∀(tx:List FV) (tc:Int) (k5:Nat) (aH:FV),Nat→lwG κ Kf zs d σ ρ.aM tx tc k5 aH
def lwQ (ρ:MS)(ae:List Ab):Prop:=lwD κ.a ρ.tx ρ.tc λ_ xs c m o=>lwP [.y κ 0x7845,.tt,.k κ.a] aW xs c λxs c w1 a1 p1=>lwP [.k o,.l 0 1000000,.tt,.k κ.a] bM xs c λxs c w2 a2 p2=>lwP [.k o,.l 1 1000000,.tt,.k κ.a] bN xs c λxs c w3 a3 p3=>lwP [.k o,.l 2 1000000,.tt,.k κ.a] bk xs c λxs c w4 a4 p4=>Q [.k o,.l 3 1000000,.tt,.k o,.k o] (lwR κ Kf zs {ρ with tx:=xs,tc:=c,m:=m} ae ⟨w1,w2,w3,w4,a1,a2,a3,a4,⟨p1,p2,p3,p4⟩⟩)
def lwT (k5:Nat)(xs:List FV)(c:Int)(m:Sp):Prop:=∃(p:PG),[AV.own 1 κ.e,.own 12 κ.a]=[.own 1 κ.e,.own 12 κ.a]∧gl κ xs c k5 [] 0 false .none (.list []) (cy m) .none .none [] []=gl κ p.tx p.tc p.k5 [] 0 false p.aH (.list []) (cy p.m) .none .none [] []∧250000≤p.gr∧p.gr≤1000000∧Br p.gr p.m∧p.b<100000000∧Af p.b p.tx p.tc∧∀(tx:List FV) (tc:Int) (k5:Nat) (aH bg pt:FV) (ae:List Ab),Nat→∀aM,Ax bg pt ae→Af (p.b+100) tx tc→lwQ κ Kf zs ⟨tx,tc,k5,[],0,false,aH,m,bg,pt,[],aM,[]⟩ ae
end
def lwC (v:Int)(aa:Nat)(K':Option FV→St→Prop):Prop:=(∀(a:AV) (aa:Nat),K' (some (FV.int (v.fmod uS))) (St.mk [(l6,a)] [] [] [] aa))→Q [.i 0 60,.i 60 1000,.s 10,.n 1000000000000000000000000000000000000000000000000000000000000] (K' (some (FV.int (v.fmod 1000000000000000000000000000000000000000000000000000000000000))) (St.mk [(l6,.fr (.int v))] [] [] [] aa))
theorem ara (w:World)(h:Heap)(n:Nat)(xs:List Int)(Kf:KF)(X:KX):dD (yG (cfL w h) (λq=>ao (cfL w h) (n+14) q) gV true cY.scope) cY.body ⟨[(eO,.fr (.fl (xs.map .int)))],[],[],[],0⟩ Kf X=
 ((List.map FV.int xs).length≤1000000∧Q [.i 0 63] ((List.map AV.fr (List.take 63 (List.map FV.int xs))).length≤100000∧∃l,List.map AV.fr (List.take 63 (List.map FV.int xs))=List.map (λq=>AV.fr (.int q)) l∧(List (Str×AV)→Nat→True)∧(∀v aa K',lwC v aa K')∧(∀v,AV→∀aa K',lwC v aa K')∧(List (Str×AV)→∀(aa:Nat),Q [.z aa 0x8787878787878785656565656565656565656565656562323,.z aa 0x78787878787878787878787878787878787878787] (lwD aa (List.map (λv=>FV.int (v.fmod 1000000000000000000000000000000000000000000000000000000000000)) l) 0 λ_ ts c m ay=>Q [.z ay 0x1212,.l 6 1000000,.z ay 0x12121212121212121212121212123434343412,.z aa 0x78] (lwT (lwK aa ay) Kf xs (aa+3) ts c m))))):=by kernel_rfl
end
theorem adD {r:Int}(h0:0≤r)(h3:r<3):∃v,itemAt [FV.int 1000000,.int 250000,.int 333333] r=some (FV.int v)∧250000≤v∧v≤1000000:=by
 have:r=0∨r=1∨r=2:=by lia
 rcases this with rfl|rfl|rfl
 ·exact ⟨1000000,rfl,by decide,by decide⟩
 ·exact ⟨250000,rfl,by decide,by decide⟩
 ·exact ⟨333333,rfl,by decide,by decide⟩
theorem aaI {xs:List Int}(hl:xs.length≤63):Af 0 (List.map (λv=>FV.int (v.fmod 1000000000000000000000000000000000000000000000000000000000000)) xs) 0:=by
 refine ⟨xs.map λv=>v.fmod 1000000000000000000000000000000000000000000000000000000000000,by rw [List.map_map]; rfl,λd hd=>?_,by rw [List.length_map]; exact hl,Int.le_refl 0,Int.le_refl 0⟩
 obtain ⟨v,_,rfl⟩:=List.mem_map.mp hd
 exact ⟨fmod_lo (by decide),fmod_hi (by decide)⟩
theorem aaJ {k b:Nat}{xs:List FV}{c:Int}{F:Int→List FV→Int→Sp→Nat→Prop}(t:Af b xs c)(hb:b<800000000)(h:∀v xs c m aa,Af (b+1+7) xs c→250000≤v→v≤1000000→Br v m→F v xs c m aa):lwD k xs c F:=
 Aa rfl (.mk t (by lia) λ_ _ t _ r0 r3=>⟨lX r0 r3,(adD r0 r3).elim λv e=>⟨v,e.1,Aa rfl ⟨Int.le_trans (by decide) e.2.1,e.2.2,.mk t (by lia) λ_ _ t _ _ _ _ _ _ _ hS=>h _ _ _ _ _ t e.2.1 e.2.2 hS⟩⟩⟩)
theorem nB {L:List Tv}{u:Str}{b n:Nat}{xs:List FV}{c:Int}{F:List FV→Int→Int→FV→Pv→Prop}(hL:L.all Tv.aV=true)(t:Af b xs c)(hb:b+10*(n+1)<700000000)(h:∀xs c dH ah (p:Pv),Af (b+10) xs c→(b+10)+10*n<700000000→AM u dH ah p.items p.n→1≤p.aJ→F xs c dH ah p):lwP L u xs c F:=
 Aa hL (.mk t (by lia) λ_ _ t _ _ _ _ _ _ _ _ _ o a _=>h _ _ _ _ ⟨_,_,_,_,_,_⟩ t (by lia) o a)
section
variable {κ:Ky} {Kf:KF} {zs:List Int} (hk:∀S,Kf (.ret (.fr (.bool true))) S)
include hk
theorem alE {d:D4}{x:R1}{tx:List FV}{tc:Int}{k5:Nat}{sn:Int}{aH:FV}{m:Sp}{r:OL}(hm:∃k,k≤10∧AE k m)(hP:Ax x.σ.bg x.σ.pt x.ae):lwA κ Kf zs d x x.σ.aM tx tc k5 sn aH m r:=
 ⟨⟨⟨tx,tc,k5,[],sn,false,aH,m,x.σ.bg,x.σ.pt,[],x.σ.aM,[]⟩,x.ae,0,0,d⟩,rfl,rfl,hm,hP,λ_ _=>hk _⟩
theorem alF {d:D4}{ρ:MS}{ae:List Ab}{tx:List FV}{tc:Int}{k5:Nat}{aH:FV}(R:Ao ρ.m ae d)(hP:Ax ρ.bg ρ.pt ae):lwG κ Kf zs d {ρ with ks:=ae.map Ab.fv} ρ.aM tx tc k5 aH:=
 ⟨⟨⟨tx,tc,k5,[],0,false,aH,ρ.m,ρ.bg,ρ.pt,[],ρ.aM,[]⟩,ae,0,0,d⟩,rfl,rfl,R,λ_ _ _ _ _ _ _ _ hm=>alE hk hm hP⟩
theorem alG {b:Nat}{ρ:MS}{ae:List Ab}{d:D4}(R:Ao ρ.m ae d)(hP:Ax ρ.bg ρ.pt ae)(hb:b<700000000)(t:Af b ρ.tx ρ.tc):lwR κ Kf zs ρ ae d:=
 ⟨{ρ with ks:=ae.map Ab.fv},d,b,rfl,rfl,R.aJ,by rw [List.length_map]; exact Nat.le_trans hP.len (by decide),nk ae,hb,t,λ_ _ _ _ _=>alF hk R hP⟩
theorem alH {ρ:MS}{ae:List Ab}(hP:Ax ρ.bg ρ.pt ae){b:Nat}(hb:b<600000000)(t:Af b ρ.tx ρ.tc):lwQ κ Kf zs ρ ae:=
 aaJ t (by lia) λ_ _ _ _ _ t g1 g2 hS=>nB (n:=3) rfl t (by lia) λ_ _ _ _ _ t hb o1 l1=>nB rfl t hb λ_ _ _ _ _ t hb o2 l2=>nB rfl t hb λ_ _ _ _ _ t hb o3 l3=>nB rfl t hb λ_ _ _ _ _ t hb o4 l4=>Aa rfl (alG hk ⟨hS.spK g1 g2,hP.iZ,hP.len,o1,o2,o3,o4,l1,l2,l3,l4⟩ hP hb t)
theorem arb (w:World)(h:Heap)(n:Nat){xs:List Int}{X:KX}(hl:xs.length≤63):dD (yG (cfL w h) (λq=>ao (cfL w h) (n+14) q) gV true cY.scope) cY.body ⟨[(eO,.fr (.fl (xs.map .int)))],[],[],[],0⟩ Kf X:=by
 have cut:List.take 63 (List.map FV.int xs)=List.map FV.int xs:=List.take_of_length_le (by rw [List.length_map]; exact hl)
 rw [ara]
 exact ⟨by rw [List.length_map]; lia,Aa rfl ⟨by rw [List.length_map,cut,List.length_map]; lia,xs,by rw [cut,List.map_map]; rfl,λ_ _=>trivial,λ_ _ _ k=>Aa rfl (k _ _),λ_ _ _ _ k=>Aa rfl (k _ _),λ_ nx=>Aa rfl (aaJ (aaI hl) (by decide) λg x c m _ t g1 g2 hS=>Aa rfl ⟨⟨0,x,c,_,_,m,g,0+1+7⟩,rfl,rfl,g1,g2,hS,(by decide:0+1+7<100000000),t,λ_ _ _ _ _ _ _ _ _ hP t=>alH hk hP (by decide:0+1+7+100<600000000) t⟩)⟩⟩
end
set_option backward.match.sparseCases false
theorem uT {R:WRecords}:∀{ds:List WData},WShape.hasItems R ds .int=true→∃xs:List Int,ds=xs.map .int
 | [],_=>⟨[],rfl⟩
 |d::ds,h=>by
  rw [hasItems_all,List.all_cons,Bool.and_eq_true] at h
  obtain ⟨i,rfl⟩:=hasW_int h.1
  obtain ⟨xs,rfl⟩:=uT (R:=R) (ds:=ds) (by rw [hasItems_all]; exact h.2)
  exact ⟨i::xs,rfl⟩
theorem well_cons {P:Params}{hp:Heap}{vs:List Value}{d:WData}{ds:List WData}(h:WellAll P hp vs (d::ds)):∃v r,vs=v::r∧Well P hp v d∧WellAll P hp r ds:=
 have z:∀e,WellAll P hp vs e→e=d::ds→∃v r,vs=v::r∧Well P hp v d∧WellAll P hp r ds:=λe h=>WellAll.casesOn (motive_2:=λvs e _=>e=d::ds→∃v r,vs=v::r∧Well P hp v d∧WellAll P hp r ds) h (λe=>nomatch e) λa r e=>(by
  injection e with e1 e2
  exact ⟨_,_,rfl,e1▸a,e2▸r⟩)
 z _ h rfl
theorem well_nil {P:Params}{hp:Heap}{vs:List Value}(h:WellAll P hp vs []):vs=[]:=
 have z:∀e,WellAll P hp vs e→e=[]→vs=[]:=λe h=>WellAll.casesOn (motive_2:=λvs e _=>e=[]→vs=[]) h (λ_=>rfl) λa r e=>nomatch e
 z _ h rfl
theorem well_int {P:Params}{hp:Heap}{v:Value}{i:Int}(h:Well P hp v (.int i)):∃t,v=.int i t:=by
 cases h
 exact ⟨_,rfl⟩
theorem l8 {P:Params}{hp:Heap}{p:Program}{w:World}{c:Cx}:∀{xs:List Int} {vs:List Value},WellAll P hp vs (xs.map .int)→Aj p w c (xs.map .int) vs
 | [],_,h=>well_nil h▸.nil
 |x::xs,_,h=>(well_cons h).elim λv e=>e.elim λr e=>e.1▸.cons ((well_int e.2.1).elim λt q=>q▸.int x t) (l8 e.2.2)
theorem adE {xs:List Int}(h:hH.toRowW.pre.holds hH.toRowW.records {args:=[.list (xs.map .int)]}=true):xs.length≤63:=by
 have h1:=(holds_andW (a:=.not (.lt (.lit (.int 63)) (.len (.arg 0)))) (b:=.lit (.bool true)) h).1
 have h2:=condW_of (X := !decide ((63:Int)<((xs.map WData.int).length:Nat))) h1 (by rfl)
 simp at h2
 lia
theorem avq {w:World}{h h₀:Heap}{l:Addr}{vs:List Value}{xs:List Int}(hn:h₀.Ns h.objs.size (λx=>[(eO,Value.ref l)].reverse.lookup x))(hk:∀b o,h.get? b=some o→h₀.get? b=some o)(hl:h.get? l=some {cls:=.type "list",data:=.seq vs.toArray})(hw:WellAll w.params h vs (xs.map .int)):
  Ad (je w h).prog (je w h).w h [] [] {h:=h₀,ρ:=λ_=>0,n:=0,fz:=λx=>x<h.objs.size} h.objs.size ⟨[(eO,.fr (.fl (xs.map .int)))],[],[],[],0⟩:=by
 have no:h.get? h.objs.size=none:=by
  cases q:h.get? h.objs.size with
  |none=>rfl
  |some o=>exact absurd (Heap.lt_size q) (Nat.lt_irrefl _)
 exact ⟨λb o e=>hk b o e,rfl,⟨[.ref l],hn,.cons (.fr (.fl (n:=0) (Heap.lt_size hl) (hk _ _ hl) (l8 hw))) .nil⟩,λm k o h=>(by cases h),λm k o h=>(by cases h),λm k o m' k' o' h=>(by cases h),.nil,⟨no,λf=>Nat.lt_irrefl _ f⟩,λa f=>Nat.lt_trans f hn.lt,trivial,λb hb=>(by cases hb),λx m k h=>(by cases h),λa o e=>Heap.lt_size e⟩
theorem flr_true {p:Program}{w:World}{c:Cx}{f:Fl}{b:Flow}(k:f=.ret (.fr (.bool true)))(q:AC p w c f b):b=.ret (.bool true):=
 have z:f=.ret (.fr (.bool true))→b=.ret (.bool true):=AC.casesOn (motive:=λf b _=>f=.ret (.fr (.bool true))→b=.ret (.bool true)) q (λe=>nomatch e) (λe=>nomatch e) (λe=>nomatch e) λ{a v} hv e=>(by
  injection e with e
  subst e
  exact hv.dg (P:=λv=>Flow.ret v=.ret (.bool true)) rfl)
 z k
theorem keep0 {c c':Cx}{S S':St}{h:Heap}{L:Addr}(e:Am [] c S L c' S')(ho:S.objs=[])(hL:L=h.objs.size)(hk:∀b o,h.get? b=some o→c.h.get? b=some o):∀b o,h.get? b=some o→c'.h.get? b=some o:=λb o he=>by
 obtain ⟨o',e1,e2⟩:=e.keep b o (hk b o he) (λh=>Nat.lt_irrefl _ (hL▸h▸Heap.lt_size he)) (λm k q h=>by rw [ho] at h; cases h)
 rcases e2 with rfl|⟨h,_⟩
 ·exact e1
 ·cases h
theorem avr:WalkO qV dZ (λ_ _=>True) YL hH.toRowW cY [] λf vs=>PySem.call f vs:=by
 intro w s₀ s₁ mg mb G Y a o pm cd doc dV kV ho hd hcd hD hmg hg args i8 as arc avx hrd hwl hlo
 have hsh:=(pre_splitW arc).1
 have ard:=(pre_splitW arc).2
 obtain ⟨d,r,rfl,hd1,hr⟩:=hasAllW_cons (e:=.list .int) (es:=[]) hsh
 have hr:=hasAllW_nil hr
 subst hr
 obtain ⟨ds,rfl,hi⟩:=hasW_list hd1
 obtain ⟨xs,rfl⟩:=uT hi
 have iD:=adE ard
 obtain ⟨l,vs,rfl,hl,hw⟩:∃l vs,i8=[.ref l]∧s₁.heap.get? l=some {cls:=.type "list",data:=.seq vs.toArray}∧WellAll w.params s₁.heap vs (xs.map .int):=by
  cases hwl with
  |cons hv hr=>
   cases hr
   cases hv with
   |list e q=>exact ⟨_,_,rfl,e,q⟩
 have oz:s₁.heap.NoLimit:=G.T.nolimit
 have ok:=ak0 Y oz
 have Z:=alD Y
 refine enter_call (codeAny_mono ?_ λ_ _ g=>GoodW.toG g)
 have eb:dc (cY.params.args.map (·.arg)) [Value.ref l] []=[(eO,.ref l)]:=by kernel_rfl
 have edv:dV=.none:=by
  rcases hD.pos with ⟨_,h⟩|⟨h,_⟩
  ·exact h
  ·exact absurd (by kernel_rfl) h
 have ek:cY.scope.kind=.function:=by kernel_rfl
 refine codeAny_call_def (body:=cY.body) (by decide) ho hd oz hcd rfl (gk (ds:=[]) (by kernel_rfl) (by kernel_rfl) λM A E Q q=>by rw [edv]; exact wpAny_pure (q none rfl)) (gn (by kernel_rfl)) (λx hx=>?_) (λh₀ hn hk=>?_) (by kernel_rfl) (by kernel_rfl) ek
 ·have hx:x∈dc (cY.params.args.map (·.arg)) [Value.ref l] []:=hx
  rw [eb,List.mem_singleton] at hx
  subst hx
  exact gU (by kernel_rfl)
 ·have hn:h₀.Ns s₁.heap.objs.size (λx=>(dc (cY.params.args.map (·.arg)) [Value.ref l] []).reverse.lookup x):=hn
  rw [eb] at hn
  have rf:∀fd:FuncData,fd.scope=cY.scope→fd.globals=mainGlobals→fd.builtins=builtinsNs→fd.closure=[]→Aq (je w s₁.heap) (callerA.deeper (callEnv fd s₁.heap.objs.size a)) [] (callEnv fd s₁.heap.objs.size a) cY.scope [] s₁.heap.objs.size 129 true:=λfd e1 e2 e3 e4=>
   ⟨⟨ok,⟨e1,ek,rfl,e2,e3,e4⟩,⟨_,rfl,.inr ⟨rfl,rfl⟩⟩,⟨Nat.le_of_ble_eq_true rfl,Nat.le_of_ble_eq_true rfl⟩,λ_=>rfl⟩,rfl,rfl⟩
  have rf:=rf {docDef cY.name cY.params cY.body cY.scope pm cd doc with defaults:=dV,kwdefaults:=kV} rfl rfl rfl rfl
  have snd:=my (G:=je w s₁.heap) (PE:=(52,0)) cY.body λst _=>yH (C:=cfL w s₁.heap) Z.cm Z.su Z.fo Z.wh (λq B=>pe Z (0+14) q B) Z.k Z.g Z.n gV (q:=true) (sc:=cY.scope) rf 0 st
  refine snd _ ⟨[(eO,.fr (.fl (xs.map .int)))],[],[],[],0⟩ {s₁ with heap:=h₀,toks:=_} ⟨avq hn hk hl hw,rfl⟩ (λf _=>f=.ret (.fr (.bool true))) (λ_ _=>False) _ _ (arb (λ_=>rfl) w s₁.heap 0 iD) (λc' f S' b tk k e R hc q=>?_) ⟨Nat.zero_le _,λc' x S' v tk k=>k.elim⟩
  have q:=flr_true k q
  subst q
  exact ⟨.inl ⟨.bool true,.bool true,[],rfl,λcls=>rfl,.bool true,postW_of rfl rfl (same_self _),λ_=>⟨.nil,λa h=>(by cases h)⟩⟩,keep0 e rfl rfl hk,rfl,hg⟩
theorem holds:Challenge.rw_rh0185_01.Holds:=head avr
end
end Mine
theorem PySem.Challenge.cw_rh0185_01_holds : PySem.Challenge.rw_rh0185_01.Holds :=
  Mine.holds
