/-
  What becomes of a state when names are dropped, renamed, or turn no more.
-/
import Derived.Test.YtmgkcipcjabigaaGreatDoorAb4
import Derived.RangeFuncIn
import Derived.RangeFuncRecord
set_option linter.unusedSimpArgs false
set_option linter.unusedVariables false
namespace Go.Ab
theorem VR.pureOwn {D:Nat} {w:World} {γ γ':G}(own: ∀b off,Own γ' b off→Own γ b off) {v:V} {u:Value}(h:VR D w γ v u)(D':Nat):v.pure=true→VR D' w γ' v u:=by
 induction h with
 |undef u=>exact fun _=> .undef u
 |skip=>exact fun _=> .skip
 |int k n=>exact fun _=> .int k n
 |bool b=>exact fun _=> .bool b
 |anyb b=>exact fun _=> .anyb b
 |csl p n cap a hle _ ih=>exact fun hp=>by simp[V.pure]at hp
 |mp p q _ ih=>exact fun hp=> .mp p q (ih (by simpa [V.pure]using hp))
 |agg cs us hl _ ih=>exact fun hp=> .agg cs us hl fun i v u hv hu=>ih i v u hv hu (pureAll_mem (by simpa [V.pure]using hp) v (List.mem_of_getElem? hv))
 |tup cs us hl _ ih=>exact fun hp=> .tup cs us hl fun i v u hv hu=>ih i v u hv hu (pureAll_mem (by simpa [V.pure]using hp) v (List.mem_of_getElem? hv))
 |nilp=>exact fun _=> .nilp
 |ptr d l off b hd hb=>exact fun hp=>by simp[V.pure]at hp
 |ep cs b off _ hc hno _ ih=>exact fun hp=>by simp[V.pure]at hp
 |slnil c sz hcap=>exact fun hp=>by simp[V.pure]at hp;subst hp;exact .slnil _ _ trivial
 |sl0 c sz a cap hcap=>exact fun hp=>by simp[V.pure]at hp;subst hp;exact .sl0 _ _ a cap trivial
 |sl c sz es b off cap hsz hp hle hcap hc hno _ ih=>
   intro hpu
   simp[V.pure]at hpu;subst hpu
   exact .sl _ sz es b off cap hsz hp hle trivial hc (fun i cs j v h1 h2 ho=>hno i cs j v h1 h2 (own _ _ ho)) fun i cs j v u h1 h2 hu=>ih i cs j v u h1 h2 hu (elemAll_mem (hp cs (List.mem_of_getElem? h1)) v (List.mem_of_getElem? h2)).1
 |fn f first cap us ws h1 h2 _ _ i1 i2=>
   intro hp
   simp[V.pure]at hp
   exact .fn f first cap us ws h1 h2 (fun i v u hv hu=>i1 i v u hv hu (pureAll_mem hp.1 v (List.mem_of_getElem? hv))) (fun i v u hv hu=>i2 i v u hv hu (pureAll_mem hp.2 v (List.mem_of_getElem? hv)))
 |nilf=>exact fun _=> .nilf
 |yld d l b hd hb=>exact fun hp=>by simp[V.pure]at hp
 |asl d l sz n off len b k hd hb hle hk=>exact fun hp=>by simp[V.pure]at hp
 |aslnil d l sz base hd hb=>exact fun hp=>by simp[V.pure]at hp
 |aslold d l sz n off len N blk base ln cp hd hb hn=>exact fun hp=>by simp[V.pure]at hp
 |eptr d l n i j b sz k hd hb=>exact fun hp=>by simp[V.pure]at hp
 |eptrold d l n i j N blk p hd hb hn=>exact fun hp=>by simp[V.pure]at hp
 |aslh d l sz n off len lo N f hd hb hn hle hk=>exact fun hp=>by simp[V.pure]at hp
 |eptrh d l n i j sz lo N f hd hb hn=>exact fun hp=>by simp[V.pure]at hp
 |aslho d l sz n off len lo N sz' f base ln cp hd hb hn=>exact fun hp=>by simp[V.pure]at hp
 |eptrho d l n i j lo N sz' f p hd hb hn=>exact fun hp=>by simp[V.pure]at hp
structure RenOk(r:Ren)(D:Nat)(w:World)(γ:G)(D':Nat)(γ':G):Prop where
 p: ∀d l o u,VR D w γ (.ptr d l o) u→VR D' w γ' (r.p d l o) u
 c: ∀c sz base len cap,capOk D γ c sz base len cap→capOk D' γ' (r.c c) sz base len cap
 y: ∀d l u,VR D w γ (.yld d l) u→VR D' w γ' (r.y d l) u
 a: ∀d l z n o k u,VR D w γ (.asl d l z n o k) u→VR D' w γ' (r.a d l z n o k) u
 e: ∀d l n i j u,VR D w γ (.eptr d l n i j) u→VR D' w γ' (r.e d l n i j) u
 own: ∀b off,Own γ' b off→Own γ b off
section
variable {r : Ren} {D D' : Nat} {w : World} {γ γ' : G}
mutual
theorem VR.map'(ok:RenOk r D w γ D' γ'): ∀(v:V) (u:Value),VR D w γ v u→VR D' w γ' (v.map r) u
 | .agg cs,u,h=>by
   obtain⟨us,rfl,hl⟩:=h.agg_inv
   have:=VR.agg_mk (LR.map' ok cs us.toList hl)
   simpa [V.map]using this
 | .tup cs,u,h=>by
   obtain⟨us,rfl,hl⟩:=h.tup_inv
   have:=VR.tup_mk (LR.map' ok cs us.toList hl)
   simpa [V.map]using this
 | .sl c z es,u,h=>by
   simp only[V.map]
   cases h with
   |slnil _ _ hc=>exact .slnil _ _ (ok.c _ _ _ _ _ hc)
   |sl0 _ _ a k hc=>exact .sl0 _ _ a k (ok.c _ _ _ _ _ hc)
   |sl _ _ _ b off k hsz hp hle hcap hc hno h=>
     refine .sl _ _ _ b off k hsz hp hle (ok.c _ _ _ _ _ hcap) hc (fun i cs j v h1 h2 ho=>hno i cs j v h1 h2 (ok.own _ _ ho)) (fun i cs j v u h1 h2 hu=> ?_)
     have hel:=elemAll_mem (hp cs (List.mem_of_getElem? h1)) v (List.mem_of_getElem? h2)
     exact(h i cs j v u h1 h2 hu).pureOwn ok.own _ hel.1
 | .fn f as bs,u,h=>by
   cases h with
   |fn _ _ _ us ws h1 h2 k1 k2=>
     have e1:=LR.map' ok as us.toList ⟨by simpa using h1,fun i v u hv hu=>k1 i v u hv (by simpa using hu)⟩
     have e2:=LR.map' ok bs ws.toList ⟨by simpa using h2,fun i v u hv hu=>k2 i v u hv (by simpa using hu)⟩
     have:=VR.fn_mk (f:=f) e1 e2
     simpa [V.map]using this
 | .undef,u,h=> .undef u
 | .skip,u,h=>by cases h;exact .skip
 | .int k n,u,h=>by cases h;exact .int k n
 | .bool b,u,h=>by cases h;exact .bool b
 | .anyb,u,h=>by cases h;exact .anyb _
 | .csl p n,u,h=>by
   cases h with
   |csl _ _ cap a hle h=>simpa only[V.map]using VR.csl _ n cap a hle (VR.map' ok p _ h)
 | .mp p,u,h=>by
   cases h with
   |mp _ q h=>simpa only[V.map]using VR.mp _ q (VR.map' ok p _ h)
 | .nilp,u,h=>by cases h;exact .nilp
 | .ptr d l o,u,h=>by simpa only[V.map]using ok.p d l o u h
 | .ep cs,u,h=>by
   simp only[V.map]
   cases h with
   |ep _ b off hp hc hno h=>
     exact .ep cs b off hp hc (fun i v hv ho=>hno i v hv (ok.own _ _ ho)) (fun i v u hv hu=>(h i v u hv hu).pureOwn ok.own _ (pureAll_mem hp v (List.mem_of_getElem? hv)))
 | .nilf,u,h=>by cases h;exact .nilf
 | .yld d l,u,h=>by simpa only[V.map]using ok.y d l u h
 | .asl d l z n o k,u,h=>by simpa only[V.map]using ok.a d l z n o k u h
 | .eptr d l n i j,u,h=>by simpa only[V.map]using ok.e d l n i j u h
theorem LR.map'(ok:RenOk r D w γ D' γ'): ∀(vs:List V) (us:List Value),LR D w γ vs us→LR D' w γ' (V.mapAll r vs) us
 |[],us,h=>⟨h.1,fun i v u hv=>by simp[V.mapAll]at hv⟩
 |v::t,us,h=>by
   obtain⟨u,us',rfl,h1,h2⟩:=h.inv
   exact LR.cons (VR.map' ok v u h1) (LR.map' ok t us' h2)
end
theorem env_ren(e:Env)(t:Nat):(Env.ren r e).get t=(e.get t).map r:=by
 induction e with
 |nil=>rfl
 |cons x l ih=>
   obtain⟨k,v⟩:=x
   simp only[Env.ren,List.map_cons,Env.get]
   split
   ·rfl
   ·exact ih
theorem ER.map(ok:RenOk r D w γ D' γ') {e:Env} {a:Act}(h:ER D w γ e a):ER D' w γ' (Env.ren r e) a:=fun t=>by
 rw[env_ren];exact VR.map' ok _ _ (h t)
theorem mapAll_length: ∀(vs:List V),(V.mapAll r vs).length=vs.length
 |[]=>rfl
 |_::t=>by simp[V.mapAll,mapAll_length t]
theorem mapAll_get: ∀(vs:List V) (i:Nat),(V.mapAll r vs)[i]? =(vs[i]?).map (V.map r)
 |[],i=>by simp[V.mapAll]
 |v::t,0=>by simp[V.mapAll]
 |v::t,i+1=>by simp[V.mapAll,mapAll_get t i]
theorem EnR.map {K:KK} {d l d' l':Nat} {x:Entry}(h:EnR K w γ d l x)(ok:RenOk r (d+1) w γ (d'+1) γ')(hg: ∀g,γ d l=some g→γ' d' l'=some g):EnR K w γ' d' l' (x.map r):=by
 cases x with
 |cell cs=>
   obtain⟨b,c,e,h1,h2,h3⟩:=h
   exact⟨b,c,e,hg _ h1,h2,LR.map' ok _ _ h3⟩
 |tok n=>
   obtain⟨blk,h1,h2⟩:=h
   exact⟨blk,hg _ h1,h2⟩
 |harr lo sz es=>
   obtain⟨f,h1,h0,hz,hlo,hc,h2⟩:=h
   refine⟨f,hg _ h1,h0,hz,hlo,hc,fun m m1 m2=> ?_⟩
   obtain⟨h7,h3,h8⟩:=h2 m m1 m2
   refine⟨h7,?_,fun i cs j v k0 k1 k2=> ?_⟩
   ·rcases h3 with h3|h3
    ·exact .inl h3
    ·exact .inr ⟨h3.1,fun off ho=>h3.2 off (ok.own _ _ ho)⟩
   ·obtain⟨u,k3,k4⟩:=h8 i cs j v k0 k1 k2
    exact⟨u,k3,k4.pureOwn ok.own _ (elemAll_mem (h0 cs (List.mem_of_getElem? k1)).2 v (List.mem_of_getElem? k2)).1⟩
 |mp t kvs=>
   obtain⟨b,h1,h2⟩:=h
   exact⟨b,hg _ h1,h2⟩
 |mq kvs=>
   obtain⟨b,h1,h2⟩:=h
   exact⟨b,hg _ h1,h2⟩
 |arr sz es=>
   obtain⟨blk,h1,h0,h2⟩:=h
   refine⟨blk,by rw[List.length_map];exact hg _ h1,fun cs hc=> ?_,?_⟩
   ·obtain⟨c0,hc0,rfl⟩:=List.mem_map.1 hc
    rw[mapAll_length];exact h0 c0 hc0
   ·cases blk with
    |none=>have h2:es=[]:=h2;subst h2;rfl
    |some y=>
      obtain⟨b,sz',k⟩:=y
      obtain⟨e1,c,e,h3,h4,h5,h6,h7,h8⟩:=h2
      refine⟨e1,c,e,h3,by simpa using h4,h5,h6,h7,fun i cs j v u k1 k2 k3=> ?_⟩
      rw[List.getElem?_map]at k1
      obtain⟨c0,k4,rfl⟩:=Option.map_eq_some_iff.1 k1
      rw[mapAll_get]at k2
      obtain⟨v0,k5,rfl⟩:=Option.map_eq_some_iff.1 k2
      exact VR.map' ok _ _ (h8 i c0 j v0 u k4 k5 k3)
 |loop ps A B env o p=>
   obtain⟨b,q,h1,h2,h3,h4,h5⟩:=h
   exact⟨b,q,hg _ h1,h2,h3,fun t=>by rw[env_ren];exact VR.map' ok _ _ (h4 t),h5⟩
end
def idR:Ren:=⟨.ptr,id, .yld, .asl, .eptr⟩
mutual
theorem map_id: ∀(v:V),v.map idR=v
 | .agg cs=>by simp[V.map,mapAll_id cs]
 | .tup cs=>by simp[V.map,mapAll_id cs]
 | .fn f a b=>by simp[V.map,mapAll_id a,mapAll_id b]
 | .csl p n=>by simp[V.map,map_id p]
 | .mp p=>by simp[V.map,map_id p]
 | .sl _ _ _| .undef| .skip| .int _ _| .bool _| .nilp| .ptr _ _ _| .ep _| .nilf| .yld _ _| .asl _ _ _ _ _ _| .eptr _ _ _ _ _| .anyb=>by simp[V.map,idR]
theorem mapAll_id: ∀(vs:List V),V.mapAll idR vs=vs
 |[]=>rfl
 |v::t=>by simp[V.mapAll,map_id v,mapAll_id t]
end
theorem ent_id(x:Entry):x.map idR=x:=by
 cases x with
 |cell cs=>simp[Entry.map,mapAll_id]
 |tok n=>rfl
 |arr z es=>
   have:V.mapAll idR=id:=funext mapAll_id
   simp[Entry.map,this]
 |harr lo z es=>rfl
 |mp t kvs=>rfl
 |mq kvs=>rfl
 |loop ps a b env o p=>
   simp only[Entry.map,Env.ren]
   congr 1
   have:(fun x:Nat×V=>(x.1,x.2.map idR))=id:=by funext x;simp[map_id]
   rw[this];simp
theorem RenOk.id {D D':Nat} {w:World} {γ γ':G}(hD:D≤D')(hg: ∀(d l:Nat) g,d<D→γ d l=some g→γ' d l=some g)(ho: ∀b off,Own γ' b off→Own γ b off):RenOk idR D w γ D' γ' where
 p:=fun d l o u h=>by
  cases h with
  |ptr _ _ _ b hd hb=>exact .ptr _ _ _ b (by omega) (hg d l _ hd hb)
 c:=fun c sz base len cap h=>by
  cases c with
  |no=>trivial
  |full=>exact h
  |own d l=>
    obtain⟨hd,n,blk,h1,h2⟩:=h
    exact⟨by omega,n,blk,hg d l _ hd h1,h2⟩
 y:=fun d l u h=>by
  cases h with
  |yld _ _ b hd hb=>exact .yld _ _ b (by omega) (hg d l _ hd hb)
 a:=fun d l z n o k u h=>by
  cases h with
  |asl _ _ _ _ _ _ b k hd hb hle hk=>exact .asl _ _ _ _ _ _ b k (by omega) (hg d l _ hd hb) hle hk
  |aslnil _ _ _ base hd hb=>exact .aslnil _ _ _ base (by omega) (hg d l _ hd hb)
  |aslold _ _ _ _ _ _ N blk base ln cp hd hb hn2=>exact .aslold _ _ _ _ _ _ N blk base ln cp (by omega) (hg d l _ hd hb) hn2
  |aslh _ _ _ _ _ _ lo N f hd hb hn2 hle hk=>exact .aslh _ _ _ _ _ _ lo N f (by omega) (hg d l _ hd hb) hn2 hle hk
  |aslho _ _ _ _ _ _ lo N sz' f base ln cp hd hb hn2=>exact .aslho _ _ _ _ _ _ lo N sz' f base ln cp (by omega) (hg d l _ hd hb) hn2
 e:=fun d l n i j u h=>by
  cases h with
  |eptr _ _ _ _ _ b sz k hd hb=>exact .eptr _ _ _ _ _ b sz k (by omega) (hg d l _ hd hb)
  |eptrold _ _ _ _ _ N blk p hd hb hn2=>exact .eptrold _ _ _ _ _ N blk p (by omega) (hg d l _ hd hb) hn2
  |eptrh _ _ _ _ _ sz lo N f hd hb hn2=>exact .eptrh _ _ _ _ _ sz lo N f (by omega) (hg d l _ hd hb) hn2
  |eptrho _ _ _ _ _ lo N sz' f p hd hb hn2=>exact .eptrho _ _ _ _ _ lo N sz' f p (by omega) (hg d l _ hd hb) hn2
 own:=ho
theorem VR.restrict {D D':Nat} {w:World} {γ γ':G} {v:V} {u:Value}(h:VR D w γ v u)(hD:D≤D')(hg: ∀(d l:Nat) g,d<D→γ d l=some g→γ' d l=some g)(ho: ∀b off,Own γ' b off→Own γ b off):VR D' w γ' v u:=by
 have:=VR.map' (RenOk.id hD hg ho) v u h
 rwa [map_id]at this
theorem EnR.restrict {K:KK} {d l:Nat} {w:World} {γ γ':G} {x:Entry}(h:EnR K w γ d l x)(hg: ∀(d' l':Nat) g,d'≤d→γ d' l'=some g→γ' d' l'=some g)(ho: ∀b off,Own γ' b off→Own γ b off):EnR K w γ' d l x:=by
 have:=EnR.map (d':=d) (l':=l) h (RenOk.id (Nat.le_refl _) (fun d' l' g h'=>hg d' l' g (by omega)) ho) (fun g=>hg d l g (Nat.le_refl _))
 rwa [ent_id]at this
def G.drop(γ:G)(d:Nat)(keep:List Nat):G:=fun d' l=>if d'=some d∧l∉keep then none else γ d' l
theorem G.drop_eq {γ:G} {d:Nat} {keep:List Nat} {d' l:Nat}(h: ¬(d'=d∧l∉keep)):γ.drop d keep d' l=γ d' l:=by
 simp only[G.drop];rw[if_neg (by rintro⟨e,h2⟩;cases e;exact h ⟨rfl,h2⟩)]
theorem G.drop_none {γ:G} {d:Nat} {keep:List Nat} {l:Nat}:γ.drop d keep none l=γ none l:=by simp[G.drop]
theorem G.drop_some {γ:G} {d:Nat} {keep:List Nat} {d':Option Nat} {l:Nat} {g:GE}(h:γ.drop d keep d' l=some g):γ d' l=some g:=by
 unfold G.drop at h
 split at h
 ·cases h
 ·exact h
theorem own_drop {γ:G} {d:Nat} {keep:List Nat}: ∀b off,Own (γ.drop d keep) b off→Own γ b off:=by
 rintro b off ⟨d',l,g,h1,h2⟩
 exact⟨d',l,g,G.drop_some h1,h2⟩
theorem RenOk.drop {D:Nat} {w:World} {γ:G} {d:Nat} {keep:List Nat}:RenOk (dropR d keep) D w γ D (γ.drop d keep) where
 p:=fun d' l o u h=>by
  simp only[dropR]
  split
  ·exact .undef _
  ·rename_i hn
   cases h with
   |ptr _ _ _ b hd hb=>exact .ptr _ _ _ b hd ((G.drop_eq hn).trans hb)
 c:=fun c sz base len cap h=>by
  cases c with
  |no=>trivial
  |full=>exact h
  |own d' l=>
    simp only[dropR,Cap.drop]
    split
    ·trivial
    ·rename_i hn
     obtain⟨hd,n,blk,h1,h2⟩:=h
     exact⟨hd,n,blk,(G.drop_eq hn).trans h1,h2⟩
 y:=fun d' l u h=>by
  simp only[dropR]
  split
  ·exact .undef _
  ·rename_i hn
   cases h with
   |yld _ _ b hd hb=>exact .yld _ _ b hd ((G.drop_eq hn).trans hb)
 a:=fun d' l z n o k u h=>by
  simp only[dropR]
  split
  ·exact .undef _
  ·rename_i hn
   cases h with
   |asl _ _ _ _ _ _ b k hd hb hle hk=>exact .asl _ _ _ _ _ _ b k hd ((G.drop_eq hn).trans hb) hle hk
   |aslnil _ _ _ base hd hb=>exact .aslnil _ _ _ base hd ((G.drop_eq hn).trans hb)
   |aslold _ _ _ _ _ _ N blk base ln cp hd hb hn2=>exact .aslold _ _ _ _ _ _ N blk base ln cp hd ((G.drop_eq hn).trans hb) hn2
   |aslh _ _ _ _ _ _ lo N f hd hb hn2 hle hk=>exact .aslh _ _ _ _ _ _ lo N f hd ((G.drop_eq hn).trans hb) hn2 hle hk
   |aslho _ _ _ _ _ _ lo N sz' f base ln cp hd hb hn2=>exact .aslho _ _ _ _ _ _ lo N sz' f base ln cp hd ((G.drop_eq hn).trans hb) hn2
 e:=fun d' l n i j u h=>by
  simp only[dropR]
  split
  ·exact .undef _
  ·rename_i hn
   cases h with
   |eptr _ _ _ _ _ b sz k hd hb=>exact .eptr _ _ _ _ _ b sz k hd ((G.drop_eq hn).trans hb)
   |eptrold _ _ _ _ _ N blk p hd hb hn2=>exact .eptrold _ _ _ _ _ N blk p hd ((G.drop_eq hn).trans hb) hn2
   |eptrh _ _ _ _ _ sz lo N f hd hb hn2=>exact .eptrh _ _ _ _ _ sz lo N f hd ((G.drop_eq hn).trans hb) hn2
   |eptrho _ _ _ _ _ lo N sz' f p hd hb hn2=>exact .eptrho _ _ _ _ _ lo N sz' f p hd ((G.drop_eq hn).trans hb) hn2
 own:=own_drop
theorem lget_ren(r:Ren)(loc:Loc)(l:Nat):(Loc.ren r loc).get l=(loc.get l).map (Entry.map r):=by
 induction loc with
 |nil=>rfl
 |cons x t ih=>
   obtain⟨k,x⟩:=x
   simp only[Loc.ren,List.map_cons,Loc.get]
   split
   ·rfl
   ·exact ih
theorem lget_filter(keep:List Nat)(loc:Loc)(l:Nat):Loc.get (loc.filter fun x=>keep.contains x.1) l=if l∈keep then loc.get l else none:=by
 induction loc with
 |nil=>simp[Loc.get]
 |cons x t ih=>
   obtain⟨k,x⟩:=x
   simp only[List.filter_cons]
   split
   ·rename_i hk
    simp only[Loc.get]
    split
    ·rename_i h;subst h;rw[if_pos (by simpa using hk)]
    ·exact ih
   ·rename_i hk
    rw[ih]
    simp only[Loc.get]
    split
    ·split
     ·rename_i h1 h2;subst h2;exact absurd h1 (by simpa using hk)
     ·rfl
    ·rfl
theorem sget_lt {s:Stk} {d l:Nat} {x:Entry}(h:sget s d l=some x):d<s.length:=by
 apply Nat.lt_of_not_le;intro hle;rw[sget_none hle]at h;cases h
theorem SR.gc {K:KK} {s:Stk} {w:World} {γ:G}(h:SR K s w γ)(keep:List Nat):SR K (gcStk keep s) w (γ.drop (dep s) keep):=by
 cases s with
 |nil=>
   refine⟨fun d l x hx=>by simp[gcStk,sget]at hx,fun d l _=> ?_,fun d l g d' l' g' b h1 h2=>h.inj d l g d' l' g' b (G.drop_some h1) (G.drop_some h2),fun l g b h1=>h.frn l g b (G.drop_some h1),h.glob.less fun b off ⟨d,l,g,hg,ho⟩=>⟨d,l,g,G.drop_some hg,ho⟩⟩
   unfold G.drop;split
   ·rfl
   ·exact h.none d l rfl
 |cons loc r=>
   have hdep:dep (loc::r)=r.length:=by simp[dep]
   rw[hdep]
   refine⟨fun d l x hx=> ?_,fun d l hx=> ?_,fun d l g d' l' g' b h1 h2=>h.inj d l g d' l' g' b (G.drop_some h1) (G.drop_some h2),fun l g b h1=>h.frn l g b (G.drop_some h1),h.glob.less fun b off ⟨d,l,g,hg,ho⟩=>⟨d,l,g,G.drop_some hg,ho⟩⟩
   ·simp only[gcStk,sget]at hx
    split at hx
    ·rename_i hd
     subst hd
     rw[Loc.gc,lget_ren,lget_filter]at hx
     split at hx
     ·rename_i hk
      obtain⟨y,hy,rfl⟩:=Option.map_eq_some_iff.1 hx
      have he:=h.ent r.length l y (by simp[sget,hy])
      exact EnR.map he RenOk.drop (fun g h=>(G.drop_eq (by simp[hk])).trans h)
     ·cases hx
    ·rename_i hd
     have he:=h.ent d l x (by simp[sget,hd,hx])
     have hlt:=sget_lt hx
     exact he.restrict (fun d' l' g h' h=>(G.drop_eq (by omega)).trans h) own_drop
   ·simp only[gcStk,sget]at hx
    split at hx
    ·rename_i hd
     subst hd
     rw[Loc.gc,lget_ren,lget_filter]at hx
     unfold G.drop
     split
     ·rfl
     ·rename_i hk
      have hk':l∈keep:=by
       by_cases hm:l∈keep
       ·exact hm
       ·exact absurd ⟨rfl,hm⟩ hk
      rw[if_pos hk']at hx
      exact h.none _ l (by simpa [sget]using hx)
    ·rename_i hd
     rw[G.drop_eq (by omega)]
     exact h.none d l (by simp[sget,hd,hx])
theorem gcStk_length(keep:List Nat)(s:Stk):(gcStk keep s).length=s.length:=by cases s<;>simp[gcStk]
theorem ER.gc {w:World} {γ:G} {e:Env} {a:Act} {s:Stk}(h:ER s.length w γ e a)(live keep:List Nat):ER s.length w (γ.drop (dep s) keep) (gcEnv live keep e s) a:=
 ER.map RenOk.drop (h.only live)
theorem Ext.drop {D:Nat} {w:World} {γ:G} {d:Nat} {keep:List Nat}(hD:D≤d):Ext D w γ w (γ.drop d keep):=by
 have hne: ∀ {d' l:Nat},d'<D→γ.drop d keep d' l=γ d' l:=fun h=>G.drop_eq (by omega)
 refine⟨rfl,rfl,rfl,Nat.le_refl _,Nat.le_refl _,fun d' l b h hb=>by rw[hne h];exact hb,fun d' l b h hb=>by rw[hne h];exact hb,fun d' l n blk h hb=>⟨n,blk,by rw[hne h];exact hb, .inl ⟨rfl,rfl⟩⟩,fun d' l lo N _ f h hb=>⟨lo,N,f,by rw[hne h];exact hb,Nat.le_refl _,Nat.le_refl _,fun _ _ _=>rfl⟩,fun d' l n blk h hb=>⟨n,blk,by rw[hne h];exact hb, .inl ⟨rfl,rfl⟩⟩,fun _ _ _ h _=>h,fun b off _ hno ho=>hno (own_drop b off ho),fun _ _ _=>rfl,fun _=>G.drop_none,fun _ _ _ _ _=>rfl⟩
end Go.Ab

/-
  Ghost steps: arrays that turn no more; the right to append.
-/
namespace Go.Ab
section
variable {K : KK} {s : Stk} {w : World} {γ : G} {e : Env} {a : Act}
def Ghost(K:KK)(_:Env)(s:Stk)(a:Act)(w:World)(γ:G)(e':Env)(s':Stk):Prop:=
 ∃γ',ER s'.length w γ' e' a∧SR K s' w γ'∧Ext (dep s) w γ w γ'∧s'.length=s.length∧ ∀b off,Own γ' b off→Own γ b off
theorem Ghost.refl(hE:ER s.length w γ e a)(hS:SR K s w γ):Ghost K e s a w γ e s:=⟨γ,hE,hS,Ext.refl _ _ _,rfl,fun _ _ h=>h⟩
theorem elemsOk_mem {es:List (List V)} {sz:Nat}(h:elemsOk es sz=true): ∀cs,cs∈es→V.elemAll cs=true∧cs.length=sz:=by
 intro cs hc
 have:=List.all_eq_true.1 h cs hc
 simpa using this
theorem LR.pureOwn {D D':Nat} {γ γ':G}(own: ∀b off,Own γ' b off→Own γ b off) {vs:List V} {us:List Value}(h:LR D w γ vs us)(hp: ∀v,v∈vs→v.pure=true):LR D' w γ' vs us:=
 ⟨h.1,fun i v u hv hu=>(h.2 i v u hv hu).pureOwn own _ (hp v (List.mem_of_getElem? hv))⟩
theorem arr_frozen(hS:SR K s w γ) {d l:Nat} {z q f n:Nat} {u:Value}(h:VR s.length w γ (.asl d l z q f n) u) {sz:Nat} {es:List (List V)}(hg:sget s d l=some (.arr sz es))(hok:elemsOk (es.map V.stripAll) sz=true)(hq:q=es.length)(hn:f+n≤es.length)
 {D':Nat} {γ':G} (own: ∀b off,Own γ' b off→Own γ b off) (hno: ∀b sz k,γ d l=some (.arr q (some (b,sz,k)))→ ∀j,j<es.length*sz→ ¬Own γ' b j) {c:Cap}
 (hcap: ∀base cap,(∀b k,γ d l=some (.arr q (some (b,z,k)))→base=some ⟨b,f*z,none⟩∧cap=k-f)→(γ d l=some (.arr 0 none)→n=0∧cap=0∧q=0)→capOk D' γ' c z base n cap):
 z=sz→VR D' w γ' (.sl c sz (((es.map V.stripAll).drop f).take n)) u:=by
 rintro rfl
 have hlen:(((es.map V.stripAll).drop f).take n).length=n:=by simp;omega
 have hread:=arr_read hS h hg hq hn
 have hmem: ∀cs,cs∈((es.map V.stripAll).drop f).take n→V.elemAll cs=true∧cs.length=z:=fun cs hc=>elemsOk_mem hok cs (List.mem_of_mem_drop (List.mem_of_mem_take hc))
 have hal:aliveE q (sget s d l)=true:=by rw[hg];simp[aliveE,hq]
 rcases alive_asl hS h hal with ⟨hd,⟨base,rfl,hq0,rfl,rfl,hb⟩|⟨b,k,rfl,hb,hle,hk⟩⟩
 ·have hc0:=hcap base 0 (fun b k h=>by rw[hb]at h;cases h) (fun _=>⟨rfl,rfl,hq0⟩)
  simp only[List.take_zero]
  exact VR.sl_empty hc0 (fun _=>rfl)
 ·replace hb:=hb.2.2 ⟨_,_,hg⟩
  have hc0:=hcap (some ⟨b,f*z,none⟩) (k-f) (fun b' k' h=>by rw[hb]at h;cases h;exact⟨rfl,rfl⟩) (fun h=>by rw[hb]at h;cases h)
  rcases hread with ⟨h1,h2⟩|⟨b',off,cap,us,h1,h2,h3,h4,_⟩
  ·have h0:n=0:=by rw[←hlen,h2];rfl
   subst h0
   simp only[List.take_zero]
   exact .sl c z [] b (f*z) (k-f) (by simp) (by simp) (Nat.zero_le _) hc0 (fun i cs j v hi=>by simp at hi) (fun i cs j v hi=>by simp at hi) (fun i cs j v u hi=>by simp at hi)
  ·rw[hlen]at h1
   cases h1
   have hp: ∀v,v∈(((es.map V.stripAll).drop f).take n).flatten→v.pure=true:=fun v hv=>by
    obtain⟨cs,hc,hv⟩:=List.mem_flatten.1 hv
    exact(elemAll_mem (hmem cs hc).1 v hv).1
   have:=VR.sl_mk (D:=D') (w:=w) (γ:=γ') (c:=c) (sz:=z) (es:=((es.map V.stripAll).drop f).take n) (b:=b) (off:=f*z) (cap:=k-f) (us:=us) (fun cs hc=>(hmem cs hc).2) (fun cs hc=>(hmem cs hc).1) (by rw[hlen];omega)
    (by rw[hlen];exact hc0) (h3.pureOwn own hp) h4 (fun j hj=>by
     refine hno b z k hb _ ?_
     rw[←h3.1,flatten_len _ (fun cs hc=>(hmem cs hc).2),hlen]at hj
     have:=Nat.mul_le_mul_right z hn
     rw[Nat.add_mul]at this
     omega)
   rwa [hlen]at this
theorem strip_get: ∀(vs:List V) (j:Nat),(V.stripAll vs)[j]? =(vs[j]?).map V.strip
 |[],j=>by simp[V.stripAll]
 |v::r,0=>by simp[V.stripAll]
 |v::r,j+1=>by simp[V.stripAll,strip_get r j]
theorem grows_ok(hE:ER s.length w γ e a)(hS:SR K s w γ)(l:Nat):Ghost K e s a w γ (grows l e s).1 (grows l e s).2:=by
 cases s with
 |nil=>exact Ghost.refl hE hS
 |cons loc r=>
   simp only[grows]
   cases hl:loc.get l with
   |none=>exact Ghost.refl hE hS
   |some x=>
     cases x with
     |arr sz es=>
       dsimp only
       split
       ·rename_i hc
        obtain⟨hok,hne⟩:=hc
        have hg:sget (loc::r) r.length l=some (.arr sz es):=by simp[sget,hl]
        obtain⟨blk,h1,h0,h2⟩:=hS.ent _ _ _ hg
        obtain⟨b,k,rfl⟩: ∃b k,blk=some (b,sz,k):=by
         cases blk with
         |none=>exact absurd h2 hne
         |some y=>obtain⟨b,sz',k⟩:=y;obtain⟨rfl,_⟩:=h2;exact⟨b,k,rfl⟩
        obtain⟨_,c,el,q3,q4,q5,q6,q7,q8⟩:=h2
        obtain⟨γ',hγ⟩: ∃γ':G,γ'=γ.set r.length l (.harr es.length es.length sz (fun _=>(b,k))):=⟨_,rfl⟩
        have hsame:γ' r.length l=some (.harr es.length es.length sz (fun _=>(b,k))):=by rw[hγ,G.set_same]
        have hoth': ∀ {d':Option Nat} {l'},¬(d'=some r.length∧l'=l)→γ' d' l'=γ d' l':=fun h=>by rw[hγ,G.set_other' γ _ h]
        have hoth: ∀ {d' l':Nat},¬(d'=r.length∧l'=l)→γ' d' l'=γ d' l':=fun h=>hoth' (by rintro⟨e,e2⟩;cases e;exact h ⟨rfl,e2⟩)
        have own: ∀b off,Own γ' b off→Own γ b off:=by
         rintro b1 off ⟨d',l',g,k1,k2⟩
         by_cases e:d'=some r.length∧l'=l
         ·obtain⟨rfl,rfl⟩:=e
          rw[hsame]at k1;cases k1
          exact⟨_,_,_,h1,by simpa [GE.owns]using k2⟩
         ·rw[hoth' e]at k1
          exact⟨d',l',g,k1,k2⟩
        have old: ∀ {d' l':Nat} {g:GE},γ d' l'=some g→(∀n x,g≠ .arr n x)→γ' d' l'=some g:=by
         intro d' l' g hg' hna
         rw[hoth];exact hg'
         rintro⟨rfl,rfl⟩
         rw[h1]at hg';cases hg'
         exact hna _ _ rfl
        have ok: ∀D,RenOk idR D w γ D γ':=fun D=>
         { p := fun d' l' o u h => by
            cases h with
            |ptr _ _ _ b hd hb=>exact .ptr _ _ _ b hd (old hb (by rintro _ _ ⟨⟩))
           c:=fun c sz base len cap h=>by
            cases c with
            |no=>trivial
            |full=>exact h
            |own d' l'=>
              obtain⟨hd,n,blk,k1,k2⟩:=h
              exact⟨hd,n,blk,old k1 (by rintro _ _ ⟨⟩),k2⟩
           y:=fun d' l' u h=>by
            cases h with
            |yld _ _ b hd hb=>exact .yld _ _ b hd (old hb (by rintro _ _ ⟨⟩))
           a:=fun d' l' z n o k' u h=>by
            simp only[idR]
            by_cases e:d'=r.length∧l'=l
            ·obtain⟨rfl,rfl⟩:=e
             cases h with
             |asl _ _ _ _ _ _ b' k' hd hb hle hk=>
               rw[h1]at hb;cases hb
               exact .aslh _ _ _ _ _ _ es.length es.length (fun _=>(b,k)) hd hsame ⟨Nat.le_refl _,Nat.le_refl _⟩ hle hk
             |aslnil _ _ _ base hd hb=>rw[h1]at hb;simp at hb
             |aslold _ _ _ _ _ _ N blk base ln cp hd hb hn2=>
               rw[h1]at hb;cases hb
               exact .aslho _ _ _ _ _ _ es.length es.length _ (fun _=>(b,k)) base ln cp hd hsame hn2
             |aslh _ _ _ _ _ _ lo N f hd hb=>rw[h1]at hb;cases hb
             |aslho _ _ _ _ _ _ lo N sz' f base ln cp hd hb=>rw[h1]at hb;cases hb
            ·cases h with
             |asl _ _ _ _ _ _ b k hd hb hle hk=>exact .asl _ _ _ _ _ _ b k hd ((hoth e).trans hb) hle hk
             |aslnil _ _ _ base hd hb=>exact .aslnil _ _ _ base hd ((hoth e).trans hb)
             |aslold _ _ _ _ _ _ N blk base ln cp hd hb hn2=>exact .aslold _ _ _ _ _ _ N blk base ln cp hd ((hoth e).trans hb) hn2
             |aslh _ _ _ _ _ _ lo N f hd hb hn2 hle hk=>exact .aslh _ _ _ _ _ _ lo N f hd ((hoth e).trans hb) hn2 hle hk
             |aslho _ _ _ _ _ _ lo N sz' f base ln cp hd hb hn2=>exact .aslho _ _ _ _ _ _ lo N sz' f base ln cp hd ((hoth e).trans hb) hn2
           e:=fun d' l' n i j u h=>by
            simp only[idR]
            by_cases e:d'=r.length∧l'=l
            ·obtain⟨rfl,rfl⟩:=e
             cases h with
             |eptr _ _ _ _ _ b' sz' k' hd hb=>
               rw[h1]at hb;cases hb
               exact .eptrh _ _ _ _ _ sz es.length es.length (fun _=>(b,k)) hd hsame ⟨Nat.le_refl _,Nat.le_refl _⟩
             |eptrold _ _ _ _ _ N blk p hd hb hn2=>
               rw[h1]at hb;cases hb
               exact .eptrho _ _ _ _ _ es.length es.length sz (fun _=>(b,k)) p hd hsame hn2
             |eptrh _ _ _ _ _ sz lo N f hd hb=>rw[h1]at hb;cases hb
             |eptrho _ _ _ _ _ lo N sz' f p hd hb=>rw[h1]at hb;cases hb
            ·cases h with
             |eptr _ _ _ _ _ b sz k hd hb=>exact .eptr _ _ _ _ _ b sz k hd ((hoth e).trans hb)
             |eptrold _ _ _ _ _ N blk p hd hb hn2=>exact .eptrold _ _ _ _ _ N blk p hd ((hoth e).trans hb) hn2
             |eptrh _ _ _ _ _ sz lo N f hd hb hn2=>exact .eptrh _ _ _ _ _ sz lo N f hd ((hoth e).trans hb) hn2
             |eptrho _ _ _ _ _ lo N sz' f p hd hb hn2=>exact .eptrho _ _ _ _ _ lo N sz' f p hd ((hoth e).trans hb) hn2
           own:=own}
        have hvr: ∀ {D:Nat} {v:V} {u:Value},VR D w γ v u→VR D w γ' v u:=fun {D v u} h=>by
         have:=VR.map' (ok D) v u h
         rwa [map_id]at this
        have hblt:b<w.heap.size:=(Array.getElem?_eq_some_iff.1 q3).1
        refine⟨γ',fun t=>hvr (hE t),⟨fun d' l' x hx=> ?_,fun d' l' hx=> ?_,?_,fun l' g b h=>hS.frn l' g b (by rwa [hoth' (by rintro⟨e,_⟩;cases e)]at h),hS.glob.less own⟩,?_,rfl,own⟩
        ·by_cases e:d'=r.length∧l'=l
         ·obtain⟨rfl,rfl⟩:=e
          simp only[sget,if_true]at hx
          rw[lget_put_same]at hx
          cases hx
          have e9:(es.map V.stripAll).length=es.length:=List.length_map _
          refine⟨fun _=>(b,k),by rw[e9];exact hsame,fun cs hcs=> ?_,q6,by rw[e9];exact Nat.le_refl _,⟨c,el,q3,q5,q7⟩,fun m m1 m2=>⟨Nat.le_trans (by rw[e9]at m2;exact m2) q4, .inl rfl,fun i cs j v hi hcs hv=> ?_⟩⟩
          ·have:=elemsOk_mem hok cs hcs
           exact⟨this.2,this.1⟩
          ·rw[List.getElem?_map]at hcs
           obtain⟨cs0,hcs0,rfl⟩:=Option.map_eq_some_iff.1 hcs
           rw[strip_get]at hv
           obtain⟨v0,hv0,rfl⟩:=Option.map_eq_some_iff.1 hv
           have hj:j<sz:=by rw[←h0 cs0 (List.mem_of_getElem? hcs0)];exact(List.getElem?_eq_some_iff.1 hv0).1
           have hi':i<es.length:=(List.getElem?_eq_some_iff.1 hcs0).1
           have hlt:i*sz+j<c.size:=by
            have p1:=Nat.mul_le_mul_right sz (show i+1≤es.length from hi')
            have p2:=Nat.mul_le_mul_right sz q4
            rw[Nat.add_mul,Nat.one_mul]at p1
            rw[q5];omega
           have hcell:c[i*sz+j]? =some c[i*sz+j]:=Array.getElem?_eq_getElem hlt
           refine⟨c[i*sz+j],?_,hvr (VR.strip' _ _ (q8 i cs0 j v0 _ hcs0 hv0 hcell))⟩
           rw[cell_of_row w b _ c el (0,0) q3]
           exact hcell
         ·have hx':sget (loc::r) d' l'=some x:=by
           rw[←hx]
           simp only[sget]
           split
           ·rename_i hd;rw[lget_put_other];intro e2;exact e ⟨hd,e2⟩
           ·rfl
          have:=(hS.ent d' l' x hx').map (ok (d'+1)) (d':=d') (l':=l') (fun g hg'=>(hoth e).trans hg')
          rwa [ent_id]at this
        ·by_cases e:d'=r.length∧l'=l
         ·obtain⟨rfl,rfl⟩:=e
          simp only[sget,if_true]at hx
          rw[lget_put_same]at hx
          cases hx
         ·rw[hoth e]
          refine hS.none d' l' ?_
          rw[←hx]
          simp only[sget]
          split
          ·rename_i hd;rw[lget_put_other];intro e2;exact e ⟨hd,e2⟩
          ·rfl
        ·intro d1 l1 g1 d2 l2 g2 b0 k1 k2 b1 b2
         have pull: ∀ {d:Option Nat} {l' g},γ' d l'=some g→g.blk=some b0→ ∃g',γ d l'=some g'∧g'.blk=some b0:=by
          intro d l' g k kb
          by_cases e:d=some r.length∧l'=l
          ·obtain⟨rfl,rfl⟩:=e
           rw[hsame]at k;cases k
           exact⟨_,h1,by simpa [GE.blk]using kb⟩
          ·rw[hoth' e]at k;exact⟨g,k,kb⟩
         obtain⟨g1',k1',b1'⟩:=pull k1 b1
         obtain⟨g2',k2',b2'⟩:=pull k2 b2
         exact hS.inj d1 l1 g1' d2 l2 g2' b0 k1' k2' b1' b2'
        ·have hne: ∀ {d' l':Nat},d'<dep (loc::r)→γ' d' l'=γ d' l':=fun h=>hoth (by simp[dep]at h;omega)
         exact⟨rfl,rfl,rfl,Nat.le_refl _,Nat.le_refl _,fun d' l' b h hb=>by rw[hne h];exact hb,fun d' l' b h hb=>by rw[hne h];exact hb,fun d' l' n blk h hb=>⟨n,blk,by rw[hne h];exact hb, .inl ⟨rfl,rfl⟩⟩,fun d' l' lo N _ f h hb=>⟨lo,N,f,by rw[hne h];exact hb,Nat.le_refl _,Nat.le_refl _,fun _ _ _=>rfl⟩,fun d' l' n blk h hb=>⟨n,blk,by rw[hne h];exact hb, .inl ⟨rfl,rfl⟩⟩,fun _ _ _ h _=>h,fun b off _ hno ho=>hno (own b off ho),fun _ _ _=>rfl,fun _=>hoth' (by rintro⟨e,_⟩;cases e),fun _ _ _ _ _=>rfl⟩
       ·exact Ghost.refl hE hS
     |_=>exact Ghost.refl hE hS
theorem dropT_ok(hE:ER s.length w γ e a)(hS:SR K s w γ)(l:Nat):Ghost K e s a w γ (dropT l e s).1 (dropT l e s).2:=
 ⟨γ.drop (dep s) _,by rw[show(dropT l e s).2.length=s.length from gcStk_length _ _];exact ER.map RenOk.drop hE,hS.gc _,Ext.drop (Nat.le_refl _),gcStk_length _ _,own_drop⟩
theorem frz1_ok(hE:ER s.length w γ e a)(hS:SR K s w γ)(l:Nat):Ghost K e s a w γ (frz1 l e s).1 (frz1 l e s).2:=by
 unfold frz1
 split
 ·exact dropT_ok hE hS _
 split
 ·exact grows_ok hE hS _
 cases s with
 |nil=>exact Ghost.refl hE hS
 |cons loc r=>
   dsimp only
   cases hl:loc.get l with
   |none=>exact Ghost.refl hE hS
   |some x=>
     cases x with
     |arr sz es=>
       dsimp only
       split
       ·rename_i hok
        have hg:sget (loc::r) r.length l=some (.arr sz es):=by simp[sget,hl]
        obtain⟨blk,h1,h0,h2⟩:=hS.ent _ _ _ hg
        obtain⟨γ',hγ⟩: ∃γ':G,γ'=γ.set r.length l (.tok es.length blk):=⟨_,rfl⟩
        have hsame:γ' r.length l=some (.tok es.length blk):=by rw[hγ,G.set_same]
        have hoth': ∀ {d':Option Nat} {l'},¬(d'=some r.length∧l'=l)→γ' d' l'=γ d' l':=fun h=>by rw[hγ,G.set_other' γ _ h]
        have hoth: ∀ {d' l':Nat},¬(d'=r.length∧l'=l)→γ' d' l'=γ d' l':=fun h=>hoth' (by rintro⟨e,e2⟩;cases e;exact h ⟨rfl,e2⟩)
        have own: ∀b off,Own γ' b off→Own γ b off:=by
         rintro b off ⟨d',l',g,k1,k2⟩
         by_cases e:d'=some r.length∧l'=l
         ·obtain⟨rfl,rfl⟩:=e
          rw[hsame]at k1;cases k1
          refine⟨_,_,_,h1,?_⟩
          cases blk with
          |none=>exact k2.elim
          |some y=>obtain⟨b0,sz0,k0⟩:=y;simp[GE.owns]at k2⊢;exact k2.1
         ·rw[hoth' e]at k1
          exact⟨d',l',g,k1,k2⟩
        have hD:(loc::r).length=r.length+1:=rfl
        have hno: ∀b sz' k,γ r.length l=some (.arr es.length (some (b,sz',k)))→ ∀j,j<es.length*sz'→ ¬Own γ' b j:=by
         rintro b sz' k hb j hj ⟨d',l',g,k1,k2⟩
         rw[h1]at hb;cases hb
         by_cases e:d'=some r.length∧l'=l
         ·obtain⟨rfl,rfl⟩:=e
          rw[hsame]at k1;cases k1
          simp[GE.owns]at k2;omega
         ·rw[hoth' e]at k1
          exact e (hS.inj d' l' g r.length l _ b k1 h1 (GE.owns_blk k2) rfl)
        have ok:RenOk (frzR r.length l sz (es.map V.stripAll)) (r.length+1) w γ (r.length+1) γ':=
         { p := fun d' l' o u h => by
            cases h with
            |ptr _ _ _ b hd hb=>
              refine .ptr _ _ _ b hd ?_
              rw[hoth];exact hb
              rintro⟨rfl,rfl⟩
              rw[h1]at hb;cases hb
           c:=fun c sz base len cap h=>by
            cases c with
            |no=>trivial
            |full=>exact h
            |own d' l'=>
              obtain⟨hd,n,blk',k1,k2⟩:=h
              refine⟨hd,n,blk',?_,k2⟩
              rw[hoth];exact k1
              rintro⟨rfl,rfl⟩
              rw[h1]at k1;cases k1
           y:=fun d' l' u h=>by
            cases h with
            |yld _ _ b hd hb=>
              refine .yld _ _ b hd ?_
              rw[hoth];exact hb
              rintro⟨rfl,rfl⟩
              rw[h1]at hb;cases hb
           a:=fun d' l' z n o k u h=>by
            simp only[frzR]
            split
            ·rename_i e
             obtain⟨rfl,rfl⟩:=e
             split
             ·rename_i hc
              obtain⟨rfl,hq,hn⟩:=hc
              rw[List.length_map]at hq hn
              refine arr_frozen hS h hg hok hq hn own (fun b sz' k hb j hj=>hno b sz' k (by rw[←hq];exact hb) j hj) ?_ rfl
              intro base cap q1 q2
              split
              ·rename_i ho
               rw[List.length_map]at ho
               obtain⟨rfl,hko⟩:=ho
               refine⟨Nat.lt_succ_self _,es.length,blk,hsame,by omega,fun hnn=> ?_⟩
               cases blk with
               |none=>
                 have he:es=[]:=h2
                 obtain⟨q3,q4,_⟩:=q2 (by rw[h1,he];rfl)
                 simp only;omega
               |some y=>
                 obtain⟨b,sz',k⟩:=y
                 obtain⟨rfl,_⟩:=h2
                 obtain⟨q3,q4⟩:=q1 b k (by rw[hq];exact h1)
                 rw[Nat.zero_mul]at q3
                 exact⟨q3,q4,rfl⟩
              ·trivial
             ·exact .undef _
            ·rename_i e
             cases h with
             |asl _ _ _ _ _ _ b k hd hb hle hk=>exact .asl _ _ _ _ _ _ b k hd (by rw[hoth e];exact hb) hle hk
             |aslnil _ _ _ base hd hb=>exact .aslnil _ _ _ base hd (by rw[hoth e];exact hb)
             |aslold _ _ _ _ _ _ N blk base ln cp hd hb hn2=>exact .aslold _ _ _ _ _ _ N blk base ln cp hd (by rw[hoth e];exact hb) hn2
             |aslh _ _ _ _ _ _ lo N f hd hb hn2 hle hk=>exact .aslh _ _ _ _ _ _ lo N f hd (by rw[hoth e];exact hb) hn2 hle hk
             |aslho _ _ _ _ _ _ lo N sz' f base ln cp hd hb hn2=>exact .aslho _ _ _ _ _ _ lo N sz' f base ln cp hd (by rw[hoth e];exact hb) hn2
           e:=fun d' l' n i j u h=>by
            simp only[frzR]
            split
            ·exact .undef _
            ·rename_i e
             cases h with
             |eptr _ _ _ _ _ b sz k hd hb=>exact .eptr _ _ _ _ _ b sz k hd (by rw[hoth e];exact hb)
             |eptrold _ _ _ _ _ N blk p hd hb hn2=>exact .eptrold _ _ _ _ _ N blk p hd (by rw[hoth e];exact hb) hn2
             |eptrh _ _ _ _ _ sz lo N f hd hb hn2=>exact .eptrh _ _ _ _ _ sz lo N f hd (by rw[hoth e];exact hb) hn2
             |eptrho _ _ _ _ _ lo N sz' f p hd hb hn2=>exact .eptrho _ _ _ _ _ lo N sz' f p hd (by rw[hoth e];exact hb) hn2
           own:=own}
        refine⟨γ',ER.map ok hE,⟨fun d' l' x hx=> ?_,fun d' l' hx=> ?_,?_,fun l' g b h=>hS.frn l' g b (by rwa [hoth' (by rintro⟨e,_⟩;cases e)]at h),hS.glob.less own⟩,?_,rfl,own⟩
        ·simp only[sget]at hx
         split at hx
         ·rename_i hd
          subst hd
          by_cases e:l'=l
          ·subst e
           rw[lget_put_same]at hx
           cases hx
           refine⟨blk,hsame,fun b sz' k hb=> ?_⟩
           subst hb
           obtain⟨rfl,c,e,h3,h4,h5,h6,h7,_⟩:=h2
           exact⟨c,e,h3,h4,h5,h6,h7⟩
          ·rw[lget_put_other _ _ e,lget_ren]at hx
           obtain⟨y,hy,rfl⟩:=Option.map_eq_some_iff.1 hx
           have he:=hS.ent r.length l' y (by simp[sget,hy])
           exact EnR.map he ok (fun g h=>(hoth (by rintro⟨_,rfl⟩;exact e rfl)).trans h)
         ·rename_i hd
          have he:=hS.ent d' l' x (by simp[sget,hd,hx])
          have hlt:=sget_lt hx
          exact he.restrict (fun d1 l1 g h' h=>(hoth (by omega)).trans h) own
        ·simp only[sget]at hx
         split at hx
         ·rename_i hd
          subst hd
          by_cases e:l'=l
          ·subst e;rw[lget_put_same]at hx;cases hx
          ·rw[lget_put_other _ _ e,lget_ren]at hx
           rw[hoth (by rintro⟨_,rfl⟩;exact e rfl)]
           exact hS.none _ l' (by simpa [sget]using hx)
         ·rename_i hd
          rw[hoth (by omega)]
          exact hS.none d' l' (by simp[sget,hd,hx])
        ·intro d1 l1 g1 d2 l2 g2 b k1 k2 b1 b2
         have pull: ∀ {d:Option Nat} {l' g},γ' d l'=some g→g.blk=some b→ ∃g',γ d l'=some g'∧g'.blk=some b:=by
          intro d l' g k kb
          by_cases e:d=some r.length∧l'=l
          ·obtain⟨rfl,rfl⟩:=e
           rw[hsame]at k;cases k
           refine⟨_,h1,?_⟩
           cases blk with
           |none=>exact kb
           |some y=>exact kb
          ·rw[hoth' e]at k;exact⟨g,k,kb⟩
         obtain⟨g1',k1',b1'⟩:=pull k1 b1
         obtain⟨g2',k2',b2'⟩:=pull k2 b2
         exact hS.inj d1 l1 g1' d2 l2 g2' b k1' k2' b1' b2'
        ·have hne: ∀ {d' l':Nat},d'<dep (loc::r)→γ' d' l'=γ d' l':=fun h=>hoth (by simp[dep]at h;omega)
         exact⟨rfl,rfl,rfl,Nat.le_refl _,Nat.le_refl _,fun d' l b h hb=>by rw[hne h];exact hb,fun d' l b h hb=>by rw[hne h];exact hb,fun d' l n blk h hb=>⟨n,blk,by rw[hne h];exact hb, .inl ⟨rfl,rfl⟩⟩,fun d' l lo N _ f h hb=>⟨lo,N,f,by rw[hne h];exact hb,Nat.le_refl _,Nat.le_refl _,fun _ _ _=>rfl⟩,fun d' l n blk h hb=>⟨n,blk,by rw[hne h];exact hb, .inl ⟨rfl,rfl⟩⟩,fun _ _ _ h _=>h,fun b off _ hno ho=>hno (own b off ho),fun _ _ _=>rfl,fun _=>hoth' (by rintro⟨e,_⟩;cases e),fun _ _ _ _ _=>rfl⟩
       ·exact Ghost.refl hE hS
     |_=>exact Ghost.refl hE hS
theorem Ghost.trans {e1 e2:Env} {s1 s2:Stk}(h:Ghost K e s a w γ e1 s1)(k: ∀γ1,ER s1.length w γ1 e1 a→SR K s1 w γ1→Ghost K e1 s1 a w γ1 e2 s2):Ghost K e s a w γ e2 s2:=by
 obtain⟨γ1,h1,h2,h3,h4,h5⟩:=h
 obtain⟨γ2,k1,k2,k3,k4,k5⟩:=k γ1 h1 h2
 have hd:dep s1=dep s:=by simp[dep,h4]
 exact⟨γ2,k1,k2,h3.trans (by rw[←hd];exact k3),k4.trans h4,fun b off h=>h5 b off (k5 b off h)⟩
theorem frzAll_ok: ∀(ls:List Nat) {e:Env} {s:Stk} {γ:G},ER s.length w γ e a→SR K s w γ→Ghost K e s a w γ (frzAll ls e s).1 (frzAll ls e s).2
 |[],_,_,_,hE,hS=>Ghost.refl hE hS
 |l::r,e,s,γ,hE,hS=>by
   have h:=frz1_ok hE hS l
   simp only[frzAll]
   exact h.trans fun γ1 h1 h2=>frzAll_ok r h1 h2
theorem tok_new(hS:SR K s w γ)(hs:s≠[]) {l n:Nat}(hn:sget s (dep s) l=none):SR K (sput s (dep s) l (.tok n)) w (γ.set (dep s) l (.tok n none))∧Ext s.length w γ w (γ.set (dep s) l (.tok n none))∧ ∀b off,Own (γ.set (dep s) l (.tok n none)) b off→Own γ b off:=by
 have hd:=dep_succ hs
 have hx:Ext s.length w γ w (γ.set (dep s) l (.tok n none)):=Ext.name _ w γ (hS.none _ _ hn) (fun b off h=>h.elim)
 refine⟨hS.step (by omega) hx rfl ⟨none,G.set_same _ _ _ _,fun _ _ _ h=>by cases h⟩ (fun _ _ _ _ _ _ _=>rfl) (fun b hb=>by simp[GE.blk]at hb),hx,fun b off h=> ?_⟩
 rcases own_set h with h|h
 ·exact h.elim
 ·exact h
theorem own_full {D:Nat} {z sz l:Nat} {es:List (List V)} {u:Value}(h:VR D w γ (.sl .full z es) u)(hz:z=sz∨es=[]) {d:Nat}(hd:d<D)(hg:γ d l=some (.tok es.length none)):VR D w γ (.sl (.own d l) sz es) u:=by
 cases h with
 |slnil _ _ hc=>exact .slnil _ _ ⟨hd,0,none,hg,Nat.le_refl _,fun _=>rfl⟩
 |sl0 _ _ a cap hc=>exact .sl0 _ _ a cap ⟨hd,0,none,hg,Nat.le_refl _,fun _=>hc⟩
 |sl _ _ _ b off cap hsz hp hle hcap hc hno h=>
   have hcap':cap=es.length:=hcap
   have hcap2:capOk D γ (.own d l) sz (some ⟨b,off,none⟩) es.length cap:=⟨hd,es.length,none,hg,Nat.le_refl _,fun _=>hcap'⟩
   rcases hz with rfl|rfl
   ·exact .sl _ _ _ b off cap hsz hp hle hcap2 hc hno h
   ·exact .sl _ sz [] b off cap (by simp) (by simp) hle hcap2 (fun i cs j v hi=>by simp at hi) (fun i cs j v hi=>by simp at hi) (fun i cs j v u hi=>by simp at hi)
theorem arr_newG(hS:SR K s w γ)(hs:s≠[]) {l:Nat}(sz:Nat)(hn:sget s (dep s) l=none):SR K (sput s (dep s) l (.arr sz [])) w (γ.set (dep s) l (.arr 0 none))∧Ext s.length w γ w (γ.set (dep s) l (.arr 0 none))∧ ∀b off,Own (γ.set (dep s) l (.arr 0 none)) b off→Own γ b off:=by
 have hd:=dep_succ hs
 have hx:Ext s.length w γ w (γ.set (dep s) l (.arr 0 none)):=Ext.name _ w γ (hS.none _ _ hn) (fun b off h=>h.elim)
 refine⟨hS.step (by omega) hx rfl ⟨none,G.set_same _ _ _ _,by simp,rfl⟩ (fun _ _ _ _ _ _ _=>rfl) (fun b hb=>by simp[GE.blk]at hb),hx,fun b off h=> ?_⟩
 rcases own_set h with h|h
 ·exact h.elim
 ·exact h
theorem own_fullA {D:Nat} {z l:Nat} {u:Value}(h:VR D w γ (.sl .full z []) u)(sz:Nat) {d:Nat}(hd:d<D)(hg:γ d l=some (.arr 0 none)):VR D w γ (.asl d l sz 0 0 0) u:=by
 cases h with
 |slnil _ _ hc=>exact .aslnil _ _ _ none hd hg
 |sl0 _ _ a cap hc=>
   have:cap=0:=hc
   subst this
   exact .aslnil _ _ _ (some a) hd hg
 |sl _ _ _ b off cap hsz hp hle hcap hc hno h=>
   have:cap=0:=hcap
   subst this
   exact .aslnil _ _ _ _ hd hg
theorem thaw_ok(hE:ER s.length w γ e a)(hS:SR K s w γ) {t l sz:Nat} {ex:Ex} {e':Env} {s':Stk}(h:thaw t l sz e s=some (ex,e',s')):ex= .normal∧Ghost K e s a w γ e' s':=by
 unfold thaw at h
 split at h
 ·rename_i z es he
  split at h
  ·split at h
   ·rename_i hc
    obtain⟨rfl,hn,hs⟩:=hc
    cases h
    obtain⟨h1,h2,h3⟩:=arr_newG hS hs (l:=l) (sz-100) (by simpa using hn)
    have hd:=dep_succ hs
    refine⟨rfl,_,fun t'=> ?_,h1,h2.mono (by omega),by simp,h3⟩
    rw[sput_length]
    simp only[Env.get]
    split
    ·rename_i ht
     subst ht
     have hv:=hE t'
     rw[he]at hv
     exact own_fullA (hv.ext h2) _ (by omega) (G.set_same _ _ _ _)
    ·exact(hE t').ext h2
   ·cases h
  split at h
  ·rename_i hc
   obtain⟨hz,hn,hs⟩:=hc
   cases h
   obtain⟨h1,h2,h3⟩:=tok_new hS hs (l:=l) (n:=es.length) (by simpa using hn)
   have hd:=dep_succ hs
   refine⟨rfl,_,fun t'=> ?_,h1,h2.mono (by omega),by simp,h3⟩
   rw[sput_length]
   simp only[Env.get]
   split
   ·rename_i ht
    subst ht
    have hv:=hE t'
    rw[he]at hv
    exact own_full (hv.ext h2) hz (by omega) (G.set_same _ _ _ _)
   ·exact(hE t').ext h2
  ·cases h
 ·cases h;exact⟨rfl,Ghost.refl hE hS⟩
 ·cases h;exact⟨rfl,Ghost.refl hE hS⟩
 ·cases h
theorem thawc_ok(hE:ER s.length w γ e a)(hS:SR K s w γ) {t off l sz:Nat} {ex:Ex} {e':Env} {s':Stk}(h:thawc t off l sz e s=some (ex,e',s')):ex= .normal∧Ghost K e s a w γ e' s':=by
 unfold thawc at h
 split at h
 ·rename_i d k o he
  split at h
  ·rename_i cs hg
   split at h
   ·rename_i z es hcs
    split at h
    ·split at h
     ·rename_i hc
      obtain⟨rfl,hdd,hn,hs,hkl⟩:=hc
      cases h
      subst hdd
      have hd:=dep_succ hs
      obtain⟨b,c,el,g1,g2,g3⟩:=hS.cell hg
      obtain⟨γ',hγ⟩: ∃γ',γ'=γ.set (dep s) l (.arr 0 none):=⟨_,rfl⟩
      have hn':sget s (dep s) l=none:=by simpa using hn
      obtain⟨h1,h2,h3⟩:=arr_newG hS hs (l:=l) (sz-100) hn'
      rw[←hγ]at h1 h2 h3
      have gk:γ' (dep s) k=some (.cell b):=by rw[hγ,G.set_other γ _ (by rintro⟨_,rfl⟩;exact hkl rfl)];exact g1
      have gl:γ' (dep s) l=some (.arr 0 none):=by rw[hγ,G.set_same]
      have hlr:LR (dep s+1) w γ' (cs.set (o+off) (.asl (dep s) l (sz-100) 0 0 0)) c.toList:=by
       have hl0:=g3.ext (h2.mono (show dep s+1≤s.length by omega))
       refine⟨by simpa using hl0.1,fun i v u hv hu=> ?_⟩
       rw[List.getElem?_set]at hv
       split at hv
       ·rename_i hi
        split at hv
        ·cases hv
         subst hi
         exact own_fullA (hl0.2 _ _ u hcs hu) _ (by omega) gl
        ·cases hv
       ·exact hl0.2 i v u hv hu
      have h4:SR K (sput (sput s (dep s) l (.arr (sz-100) [])) (dep s) k (.cell (cs.set (o+off) (.asl (dep s) l (sz-100) 0 0 0)))) w γ':=by
       refine h1.step (g:= .cell b) (by rw[sput_length];omega) (Ext.refl _ _ _) (set_self gk).symm ⟨b,c,el,gk,g2,hlr⟩ (fun _ _ _ _ _ _ _=>rfl) ?_
       intro b1 hb1 d' l' g' hne hg' hb'
       simp[GE.blk]at hb1;subst hb1
       exact hne (h1.inj d' l' g' (dep s) k _ b hg' gk hb' rfl)
      have hcomm: ∀d' l',sget (sput (sput s (dep s) k (.cell (cs.set (o+off) (.asl (dep s) l (sz-100) 0 0 0)))) (dep s) l (.arr (sz-100) [])) d' l'=sget (sput (sput s (dep s) l (.arr (sz-100) [])) (dep s) k (.cell (cs.set (o+off) (.asl (dep s) l (sz-100) 0 0 0)))) d' l':=by
       intro d' l'
       have hlt:dep s<s.length:=by omega
       by_cases e1:d'=dep s∧l'=l
       ·obtain⟨rfl,rfl⟩:=e1
        rw[sget_put_same _ _ _ (by simpa using hlt),sget_put_other _ _ (by rintro⟨_,rfl⟩;exact hkl rfl),sget_put_same _ _ _ hlt]
       ·rw[sget_put_other _ _ e1]
        by_cases e2:d'=dep s∧l'=k
        ·obtain⟨rfl,rfl⟩:=e2
         rw[sget_put_same _ _ _ hlt,sget_put_same _ _ _ (by simpa using hlt)]
        ·rw[sget_put_other _ _ e2,sget_put_other _ _ e2,sget_put_other _ _ e1]
      refine⟨rfl,γ',?_,⟨fun d' l' x hx=>h4.ent d' l' x (by rw[←hcomm];exact hx),fun d' l' hx=>h4.none d' l' (by rw[←hcomm];exact hx),h4.inj,h4.frn,h4.glob⟩,h2.mono (by omega),by simp,h3⟩
      simp only[sput_length]
      exact hE.ext h2
     ·cases h
    split at h
    ·rename_i hc
     obtain⟨hz,hdd,hn,hs,hkl⟩:=hc
     cases h
     subst hdd
     have hd:=dep_succ hs
     obtain⟨b,c,el,g1,g2,g3⟩:=hS.cell hg
     obtain⟨γ',hγ⟩: ∃γ',γ'=γ.set (dep s) l (.tok es.length none):=⟨_,rfl⟩
     have hn':sget s (dep s) l=none:=by simpa using hn
     have hs1:sput s (dep s) l (.tok es.length)≠[]:=fun e0=>hs (List.eq_nil_of_length_eq_zero (by rw[←sput_length s (dep s) l (.tok es.length),e0];rfl))
     obtain⟨h1,h2,h3⟩:=tok_new hS hs (l:=l) (n:=es.length) hn'
     rw[←hγ]at h1 h2 h3
     have gk:γ' (dep s) k=some (.cell b):=by rw[hγ,G.set_other γ _ (by rintro⟨_,rfl⟩;exact hkl rfl)];exact g1
     have gl:γ' (dep s) l=some (.tok es.length none):=by rw[hγ,G.set_same]
     have hlr:LR (dep s+1) w γ' (cs.set (o+off) (.sl (.own (dep s) l) sz es)) c.toList:=by
      have hl0:=g3.ext (h2.mono (show dep s+1≤s.length by omega))
      refine⟨by simpa using hl0.1,fun i v u hv hu=> ?_⟩
      rw[List.getElem?_set]at hv
      split at hv
      ·rename_i hi
       split at hv
       ·cases hv
        subst hi
        exact own_full (hl0.2 _ _ u hcs hu) hz (by omega) gl
       ·cases hv
      ·exact hl0.2 i v u hv hu
     have h4:SR K (sput (sput s (dep s) l (.tok es.length)) (dep s) k (.cell (cs.set (o+off) (.sl (.own (dep s) l) sz es)))) w γ':=by
      refine h1.step (g:= .cell b) (by rw[sput_length];omega) (Ext.refl _ _ _) (set_self gk).symm ⟨b,c,el,gk,g2,hlr⟩ (fun _ _ _ _ _ _ _=>rfl) ?_
      intro b1 hb1 d' l' g' hne hg' hb'
      simp[GE.blk]at hb1;subst hb1
      exact hne (h1.inj d' l' g' (dep s) k _ b hg' gk hb' rfl)
     have hcomm: ∀d' l',sget (sput (sput s (dep s) k (.cell (cs.set (o+off) (.sl (.own (dep s) l) sz es)))) (dep s) l (.tok es.length)) d' l'=sget (sput (sput s (dep s) l (.tok es.length)) (dep s) k (.cell (cs.set (o+off) (.sl (.own (dep s) l) sz es)))) d' l':=by
      intro d' l'
      have hlt:dep s<s.length:=by omega
      by_cases e1:d'=dep s∧l'=l
      ·obtain⟨rfl,rfl⟩:=e1
       rw[sget_put_same _ _ _ (by simpa using hlt),sget_put_other _ _ (by rintro⟨_,rfl⟩;exact hkl rfl),sget_put_same _ _ _ hlt]
      ·rw[sget_put_other _ _ e1]
       by_cases e2:d'=dep s∧l'=k
       ·obtain⟨rfl,rfl⟩:=e2
        rw[sget_put_same _ _ _ hlt,sget_put_same _ _ _ (by simpa using hlt)]
       ·rw[sget_put_other _ _ e2,sget_put_other _ _ e2,sget_put_other _ _ e1]
     refine⟨rfl,γ',?_,⟨fun d' l' x hx=>h4.ent d' l' x (by rw[←hcomm];exact hx),fun d' l' hx=>h4.none d' l' (by rw[←hcomm];exact hx),h4.inj,h4.frn,h4.glob⟩,h2.mono (by omega),by simp,h3⟩
     simp only[sput_length]
     exact hE.ext h2
    ·cases h
   ·cases h;exact⟨rfl,Ghost.refl hE hS⟩
   ·cases h;exact⟨rfl,Ghost.refl hE hS⟩
   ·cases h
  ·cases h
 ·cases h
end
end Go.Ab

/-
  A call is over: the callee's frame goes, what its result names goes to the caller's.
-/
namespace Go.Ab
theorem idxOf_inj {ls:List Nat} {a b:Nat}(ha:a∈ls)(hb:b∈ls)(h:idxOf a ls=idxOf b ls):a=b:=by
 induction ls with
 |nil=>cases ha
 |cons x r ih=>
   simp only[idxOf]at h
   split at h
   ·rename_i h1
    split at h
    ·rename_i h2;rw[h1,h2]
    ·omega
   ·rename_i h1
    split at h
    ·omega
    ·rename_i h2
     refine ih ?_ ?_ (by omega)
     ·cases ha with
      |head=>exact absurd rfl h1
      |tail _ h=>exact h
     ·cases hb with
      |head=>exact absurd rfl h2
      |tail _ h=>exact h
theorem newLab_inj {ls:List Nat} {a b lab:Nat}(ha:a∈ls)(hb:b∈ls)(h:newLab lab a ls=newLab lab b ls):a=b:=by
 unfold newLab at h
 exact idxOf_inj ha hb (by omega)
theorem dep_sput(s:Stk)(d l:Nat)(x:Entry):dep (sput s d l x)=dep s:=by simp[dep]
theorem adoptAll_spec {own:Bool} {d:Nat} {ls:List Nat} {loc:Loc} {lab:Nat}: ∀ {r:List Nat} {s s':Stk},(∀l∈r,l∈ls)→s≠[]→adoptAll own d ls loc lab r s=some s'→
 s'.length=s.length∧(∀l∈r,∃x,loc.get l=some x∧x.goes own=true∧sget s (dep s) (newLab lab l ls)=none∧sget s' (dep s) (newLab lab l ls)=some (x.map (renR own d loc ls (dep s) lab)))∧
 ∀d' l',(¬(d'=dep s∧ ∃l∈r,l'=newLab lab l ls))→sget s' d' l'=sget s d' l'
 |[],s,s',_,_,h=>by simp[adoptAll]at h;subst h;simp
 |l::r,s,s',hm,hs,h=>by
   simp only[adoptAll]at h
   split at h
   ·rename_i x hx
    split at h
    ·rename_i hc
     simp only[Bool.and_eq_true]at hc
     have hn:sget s (dep s) (newLab lab l ls)=none:=by simpa using hc.2
     have hs1:sput s (dep s) (newLab lab l ls) (x.map (renR own d loc ls (dep s) lab))≠[]:=fun e0=>hs (List.eq_nil_of_length_eq_zero (by rw[←sput_length s (dep s) (newLab lab l ls),e0];rfl))
     obtain⟨h1,h2,h3⟩:=adoptAll_spec (fun l' hl=>hm l' (by simp[hl])) hs1 h
     rw[dep_sput]at h2 h3
     rw[sput_length]at h1
     have hlt:dep s<s.length:=by have:=dep_succ hs;omega
     have hnr:l∉r:=by
      intro hr
      obtain⟨_,_,_,h4,_⟩:=h2 l hr
      rw[sget_put_same _ _ _ hlt]at h4
      cases h4
     refine⟨h1,?_,?_⟩
     ·intro l' hl'
      cases hl' with
      |head=>
        refine⟨x,hx,hc.1,hn,?_⟩
        rw[h3 _ _ (by
         rintro⟨_,l',hl',e⟩
         exact hnr (by rw[newLab_inj (hm l (by simp)) (hm l' (by simp[hl'])) e];exact hl')),sget_put_same _ _ _ hlt]
      |tail _ hl'=>
        obtain⟨y,k1,k2,k3,k4⟩:=h2 l' hl'
        refine⟨y,k1,k2,?_,k4⟩
        rw[sget_put_other]at k3
        ·exact k3
        ·rintro⟨_,e⟩
         exact hnr (by rw[newLab_inj (hm l (by simp)) (hm l' (List.mem_cons_of_mem _ hl')) e.symm];exact hl')
     ·intro d' l' hne
      rw[h3 d' l' (by rintro⟨e,l2,hl2,e2⟩;exact hne ⟨e,l2,by simp[hl2],e2⟩),sget_put_other _ _ (by rintro⟨e,e2⟩;exact hne ⟨e,l,by simp,e2⟩)]
    ·cases h
   ·cases h
section
variable {K : KK} {s : Stk} {w : World} {γ : G} {own : Bool} {loc : Loc} {lab : Nat} {ls : List Nat}
def G.pop(γ:G)(n:Nat)(ls:List Nat)(lab:Nat):G:=fun d' l=>match d' with
 |none=>γ none l
 |some d=>if d<n then(match γ d l with
   |some g=>some g
   |none=>if d=n-1 then(match ls.find? fun k=>newLab lab k ls==l with
     |some k=>γ n k
     |none=>none)else none)
 else none
theorem pop_old {n:Nat} {d l:Nat} {g:GE}(hd:d<n)(h:γ d l=some g):γ.pop n ls lab d l=some g:=by
 simp[G.pop,hd,h]
theorem pop_new {n:Nat}(hn:0<n) {l:Nat}(hl:l∈ls)(h:γ (some (n-1)) (newLab lab l ls)=none):γ.pop n ls lab (some (n-1)) (newLab lab l ls)=γ n l:=by
 simp only[G.pop]
 rw[if_pos (by omega),h]
 simp only[if_true]
 cases hf:ls.find? fun k=>newLab lab k ls==newLab lab l ls with
 |none=>exact absurd (List.find?_eq_none.1 hf l hl) (by simp)
 |some k=>
   have h1:=List.find?_some hf
   have h2:=List.mem_of_find?_eq_some hf
   rw[newLab_inj h2 hl (by simpa using h1)]
theorem pop_from {n:Nat} {d:Option Nat} {l:Nat} {g:GE}(h:γ.pop n ls lab d l=some g):((∀d',d=some d'→d'<n)∧γ d l=some g)∨(d=some (n-1)∧0<n∧ ∃k,k∈ls∧newLab lab k ls=l∧γ n k=some g):=by
 cases d with
 |none=>exact .inl ⟨(fun _ e=>by cases e),h⟩
 |some d=>
 simp only[G.pop]at h
 split at h
 ·rename_i hd
  split at h
  ·rename_i g' hg;cases h;exact .inl ⟨(fun d' e=>by cases e;exact hd),hg⟩
  ·split at h
   ·rename_i hd'
    split at h
    ·rename_i k hf
     exact .inr ⟨by rw[hd'],by omega,k,List.mem_of_find?_eq_some hf,by simpa using List.find?_some hf,h⟩
    ·cases h
   ·cases h
 ·cases h
theorem own_pop {n:Nat}: ∀b off,Own (γ.pop n ls lab) b off→Own γ b off:=by
 rintro b off ⟨d,l,g,h1,h2⟩
 rcases pop_from h1 with ⟨_,h⟩|⟨_,_,k,_,_,h⟩
 ·exact⟨d,l,g,h,h2⟩
 ·exact⟨n,k,g,h,h2⟩
theorem pop_ok(hS:SR K (loc::s) w γ)(hs:s=[]→ls=[]) {s':Stk}(hlen:s'.length=s.length)
 (h1: ∀l∈ls,∃x,loc.get l=some x∧x.goes own=true∧sget s (dep s) (newLab lab l ls)=none∧sget s' (dep s) (newLab lab l ls)=some (x.map (renR own s.length loc ls (dep s) lab)))
 (h2: ∀d' l',(¬(d'=dep s∧ ∃l∈ls,l'=newLab lab l ls))→sget s' d' l'=sget s d' l'):
 RenOk (renR own s.length loc ls (dep s) lab) (s.length+1) w γ s.length (γ.pop s.length ls lab)∧SR K s' w (γ.pop s.length ls lab):=by
 have hdep:dep s=s.length-1:=rfl
 have hlow: ∀ {d l},d<s.length→sget (loc::s) d l=sget s d l:=fun h=>by simp only[sget];rw[if_neg (by omega)]
 have hpos: ∀ {l},l∈ls→0<s.length:=fun hl=>by
  cases s with
  |nil=>rw[hs rfl]at hl;cases hl
  |cons _ _=>simp
 have hnew: ∀ {l},l∈ls→γ.pop s.length ls lab (dep s) (newLab lab l ls)=γ s.length l:=fun {l} hl=>by
  obtain⟨x,_,_,k3,_⟩:=h1 l hl
  refine pop_new (hpos hl) hl (hS.none _ _ ?_)
  rw[hlow (by have:=hpos hl;omega)];exact k3
 have ok:RenOk (renR own s.length loc ls (dep s) lab) (s.length+1) w γ s.length (γ.pop s.length ls lab):=
  { p := fun a l o u h => by
     simp only[renR]
     cases h with
     |ptr _ _ _ b hd hb=>
       split
       ·rename_i ha
        subst ha
        split
        ·rename_i hl
         have hl:l∈ls:=by simpa using hl
         exact .ptr _ _ _ b (by have:=hpos hl;omega) ((hnew hl).trans hb)
        ·exact .undef _
       ·rename_i ha
        exact .ptr _ _ _ b (by omega) (pop_old (by omega) hb)
    c:=fun c sz base len cap h=>by
     simp only[renR]
     split
     ·cases c with
      |no=>trivial
      |full=>exact h
      |own a l=>
        simp only[Cap.ren]
        obtain⟨hd,n,blk,k1,k2⟩:=h
        split
        ·rename_i ha
         subst ha
         split
         ·rename_i hl
          have hl:l∈ls:=by simp only[Bool.and_eq_true]at hl;simpa using hl.2
          exact⟨by have:=hpos hl;omega,n,blk,(hnew hl).trans k1,k2⟩
         ·trivial
        ·rename_i ha
         exact⟨by omega,n,blk,pop_old (by omega) k1,k2⟩
     ·trivial
    y:=fun a l u h=>by
     simp only[renR]
     cases h with
     |yld _ _ b hd hb=>
       split
       ·exact .undef _
       ·rename_i ha
        exact .yld _ _ b (by omega) (pop_old (by omega) hb)
    a:=fun a l z n o k u h=>by
     simp only[renR]
     split
     ·rename_i ha
      subst ha
      split
      ·split
       ·rename_i hl
        have hl:l∈ls:=by simpa using hl
        cases h with
        |asl _ _ _ _ _ _ b k hd hb hle hk=>exact .asl _ _ _ _ _ _ b k (by have:=hpos hl;omega) ((hnew hl).trans hb) hle hk
        |aslnil _ _ _ base hd hb=>exact .aslnil _ _ _ base (by have:=hpos hl;omega) ((hnew hl).trans hb)
        |aslold _ _ _ _ _ _ N blk base ln cp hd hb hn2=>exact .aslold _ _ _ _ _ _ N blk base ln cp (by have:=hpos hl;omega) ((hnew hl).trans hb) hn2
        |aslh _ _ _ _ _ _ lo N f hd hb hn2 hle hk=>exact .aslh _ _ _ _ _ _ lo N f (by have:=hpos hl;omega) ((hnew hl).trans hb) hn2 hle hk
        |aslho _ _ _ _ _ _ lo N sz' f base ln cp hd hb hn2=>exact .aslho _ _ _ _ _ _ lo N sz' f base ln cp (by have:=hpos hl;omega) ((hnew hl).trans hb) hn2
       ·exact .undef _
      ·rename_i hown
       split
       ·rename_i sz es hl
        split
        ·rename_i hc
         obtain⟨hz,hq,hn,hok⟩:=hc
         refine arr_frozen hS h (by simp[sget,hl]) hok hq hn own_pop ?_ (fun _ _ _ _=>trivial) hz
         rintro b sz' k hb j _ ⟨d1,l1,g1,k1,k2⟩
         have kb:=GE.owns_blk k2
         rcases pop_from k1 with ⟨hd1,h3⟩|⟨_,_,k',hk',_,h3⟩
         ·have:=(hS.inj d1 l1 g1 s.length l _ b h3 hb kb rfl).1;exact absurd (hd1 _ this) (Nat.lt_irrefl _)
         ·have:=(hS.inj s.length k' g1 s.length l _ b h3 hb kb rfl).2
          subst this
          obtain⟨x,hx,hg,_⟩:=h1 k' hk'
          rw[hl]at hx;cases hx
          simp[Entry.goes]at hg
          exact hown hg
        ·exact .undef _
       ·exact .undef _
     ·rename_i ha
      cases h with
      |asl _ _ _ _ _ _ b k hd hb hle hk=>exact .asl _ _ _ _ _ _ b k (by omega) (pop_old (by omega) hb) hle hk
      |aslnil _ _ _ base hd hb=>exact .aslnil _ _ _ base (by omega) (pop_old (by omega) hb)
      |aslold _ _ _ _ _ _ N blk base ln cp hd hb hn2=>exact .aslold _ _ _ _ _ _ N blk base ln cp (by omega) (pop_old (by omega) hb) hn2
      |aslh _ _ _ _ _ _ lo N f hd hb hn2 hle hk=>exact .aslh _ _ _ _ _ _ lo N f (by omega) (pop_old (by omega) hb) hn2 hle hk
      |aslho _ _ _ _ _ _ lo N sz' f base ln cp hd hb hn2=>exact .aslho _ _ _ _ _ _ lo N sz' f base ln cp (by omega) (pop_old (by omega) hb) hn2
    e:=fun a l n i j u h=>by
     simp only[renR]
     split
     ·exact .undef _
     ·cases h with
      |eptr _ _ _ _ _ b sz k hd hb=>exact .eptr _ _ _ _ _ b sz k (by omega) (pop_old (by omega) hb)
      |eptrold _ _ _ _ _ N blk p hd hb hn2=>exact .eptrold _ _ _ _ _ N blk p (by omega) (pop_old (by omega) hb) hn2
      |eptrh _ _ _ _ _ sz lo N f hd hb hn2=>exact .eptrh _ _ _ _ _ sz lo N f (by omega) (pop_old (by omega) hb) hn2
      |eptrho _ _ _ _ _ lo N sz' f p hd hb hn2=>exact .eptrho _ _ _ _ _ lo N sz' f p (by omega) (pop_old (by omega) hb) hn2
    own:=own_pop}
 refine⟨ok,⟨fun d l x hx=> ?_,fun d l hx=> ?_,?_,hS.frn,hS.glob.less own_pop⟩⟩
 ·by_cases e:d=dep s∧ ∃k∈ls,l=newLab lab k ls
  ·obtain⟨rfl,k,hk,rfl⟩:=e
   obtain⟨y,k1,k2,k3,k4⟩:=h1 k hk
   rw[k4]at hx
   cases hx
   have he:=hS.ent s.length k y (by simp[sget,k1])
   have hp:=hpos hk
   have hd1:dep s+1=s.length:=by omega
   exact EnR.map he (by rw[hd1];exact ok) (fun g hg=>(hnew hk).trans hg)
  ·rw[h2 d l e]at hx
   have hlt:=sget_lt hx
   have he:=hS.ent d l x (by rw[hlow hlt];exact hx)
   exact he.restrict (fun d' l' g hd' hg=>pop_old (by omega) hg) own_pop
 ·cases hp:γ.pop s.length ls lab d l with
  |none=>rfl
  |some g=>
    exfalso
    rcases pop_from hp with ⟨hd,hg⟩|⟨hd,hpos',k,hk,rfl,hg⟩
    ·by_cases e:d=dep s∧ ∃k∈ls,l=newLab lab k ls
     ·obtain⟨rfl,k,hk,rfl⟩:=e
      obtain⟨y,_,_,_,k4⟩:=h1 k hk
      rw[k4]at hx;cases hx
     ·rw[h2 d l e]at hx
      have:=hS.none d l (by rw[hlow (hd d rfl)];exact hx)
      rw[this]at hg;cases hg
    ·obtain⟨y,_,_,_,k4⟩:=h1 k hk
     cases hd
     rw[←hdep,k4]at hx;cases hx
 ·intro d1 l1 g1 d2 l2 g2 b k1 k2 b1 b2
  rcases pop_from k1 with ⟨hd1,q1⟩|⟨hd1,hp1,m1,hm1,rfl,q1⟩
  ·rcases pop_from k2 with ⟨hd2,q2⟩|⟨hd2,hp2,m2,hm2,rfl,q2⟩
   ·exact hS.inj d1 l1 g1 d2 l2 g2 b q1 q2 b1 b2
   ·have:=(hS.inj d1 l1 g1 s.length m2 g2 b q1 q2 b1 b2).1;exact absurd (hd1 _ this) (Nat.lt_irrefl _)
  ·rcases pop_from k2 with ⟨hd2,q2⟩|⟨hd2,hp2,m2,hm2,rfl,q2⟩
   ·have:=(hS.inj s.length m1 g1 d2 l2 g2 b q1 q2 b1 b2).1;exact absurd (hd2 _ this.symm) (Nat.lt_irrefl _)
   ·have:=(hS.inj _ m1 g1 _ m2 g2 b q1 q2 b1 b2).2
    subst this
    exact⟨hd1.trans hd2.symm,rfl⟩
theorem pop_ext(ls:List Nat)(lab:Nat) {w0:World} {γ0:G} {n:Nat}(hx:Ext n w0 γ0 w γ):Ext n w0 γ0 w (γ.pop n ls lab):=
 ⟨hx.os,hx.tape,hx.output,hx.size,hx.drawn,fun d l b hd hb=>pop_old hd (hx.cell d l b hd hb),fun d l b hd hb=>pop_old hd (hx.obj d l b hd hb),fun d l n blk hd hb=>by obtain⟨n',blk',h1,h2⟩:=hx.arr d l n blk hd hb;exact⟨n',blk',pop_old hd h1,h2⟩,
  fun d l lo N sz f hd hb=>by obtain⟨lo',N',f',h1,h2⟩:=hx.harr d l lo N sz f hd hb;exact⟨lo',N',f',pop_old hd h1,h2⟩,
  fun d l n blk hd hb=>by obtain⟨n',blk',h1,h2⟩:=hx.tok d l n blk hd hb;exact⟨n',blk',pop_old hd h1,h2⟩,hx.keep,fun b off hlt hno ho=>hx.free b off hlt hno (own_pop b off ho),hx.block,fun l=>hx.frn l,hx.fheap⟩
theorem adopt_ok(hS:SR K (loc::s) w γ) {r v:V} {u:Value}(hr:VR (s.length+1) w γ r u) {s':Stk}(h:adopt own loc r lab s=some (v,s')):
 ∃γ',VR s'.length w γ' v u∧SR K s' w γ'∧s'.length=s.length∧ ∀w0 γ0,Ext s.length w0 γ0 w γ→Ext s.length w0 γ0 w γ':=by
 have ext: ∀(ls:List Nat) w0 γ0,Ext s.length w0 γ0 w γ→Ext s.length w0 γ0 w (γ.pop s.length ls lab):=fun ls w0 γ0 hx=>pop_ext ls lab hx
 unfold adopt at h
 split at h
 ·cases h
  obtain⟨ok,hS'⟩:=pop_ok (own:=own) (lab:=lab) (ls:=[]) hS (fun _=>rfl) rfl (by simp) (fun _ _ _=>rfl)
  exact⟨_,VR.map' ok _ _ hr,hS',rfl,ext []⟩
 ·rename_i ls _
  split at h
  ·cases h
  ·rename_i hemp
   obtain⟨s1,h1,h2⟩:=Option.map_eq_some_iff.1 h
   cases h2
   have hs:s≠[]:=by simpa using hemp
   obtain⟨k1,k2,k3⟩:=adoptAll_spec (fun _ h=>h) hs h1
   obtain⟨ok,hS'⟩:=pop_ok hS (fun e=>absurd e hs) k1 k2 k3
   refine⟨_,?_,hS',k1,ext _⟩
   rw[k1]
   exact VR.map' ok _ _ hr
end
end Go.Ab

/-
  'exec' is right, of code: all but a call's entry.
-/
namespace Go.Ab
def Ex.out:Ex→Exit
 | .normal=> .normal
 | .exit id=> .exit id
 | .ret=> .ret
def KP(P:Program):KK:=⟨fun ps A B _ N tps assign body=>
 tps.toList=ps∧(∃ann a1,comp P N assign ann=some (A,a1))∧(∃ann a2,comp P N body ann=some (B,a2))∧noRng assign=true∧noRng body=true∧ ∀t∈ps,t<N,laidG P⟩
def Marks(w0:Nat)(γ:G)(ds:List Deferred)(w:World):Prop:=
 (ds.map (·.target)).Nodup∧ ∀d∈ds,∃r,d.target= .collected r∧w0≤r∧w.heap[r]? =some (.deferred (some []))∧ ∀off,¬Own γ r off
theorem Marks.ext {w0:Nat} {γ γ':G} {ds:List Deferred} {w w':World} {D:Nat}(h:Marks w0 γ ds w)(x:Ext D w γ w' γ'):Marks w0 γ' ds w':=by
 refine⟨h.1,fun d hd=> ?_⟩
 obtain⟨r,h1,h2,h3,h4⟩:=h.2 d hd
 have hlt:r<w.heap.size:=(Array.getElem?_eq_some_iff.1 h3).1
 exact⟨r,h1,h2,(x.block r hlt h4).trans h3,fun off=>x.free r off hlt (h4 off)⟩
theorem Marks.own {w0:Nat} {γ γ':G} {ds:List Deferred} {w:World}(h:Marks w0 γ ds w)(own: ∀b off,Own γ' b off→Own γ b off):Marks w0 γ' ds w:=by
 refine⟨h.1,fun d hd=> ?_⟩
 obtain⟨r,h1,h2,h3,h4⟩:=h.2 d hd
 exact⟨r,h1,h2,h3,fun off ho=>h4 off (own _ _ ho)⟩
def CodePost(K:KK)(N w0 D L:Nat)(w:World)(γ:G)(ex:Ex)(e':Env)(s':Stk):Exit→Act→World→Prop:=fun x a' w'=>
 x=ex.out∧ ∃γ',a'.tmps.size=N∧ER s'.length w' γ' e' a'∧SR K s' w' γ'∧Ext D w γ w' γ'∧s'.length=L∧Marks w0 γ' a'.defers w'
structure Pre(P:Program)(N w0:Nat)(e:Env)(s:Stk)(a:Act)(w:World)(γ:G):Prop where
 ne:s≠[]
 size:a.tmps.size=N
 env:ER s.length w γ e a
 stk:SR (KP P) s w γ
 marks:Marks w0 γ a.defers w
 w0:w0≤w.heap.size
def CodeOk(P:Program)(X:Exec):Prop:= ∀N c ann ac ann',comp P N c ann=some (ac,ann')→ ∀e s ex e' s',X ac e s=some (ex,e',s')→
 ∀F,Wide F→(F.round=none∨noRng c=true)→ ∀n w0 w γ a,Pre P N w0 e s a w γ→c.wpIn F n P (CodePost (KP P) N w0 (dep s) s.length w γ ex e' s') a w
def DrawOk(P:Program)(T:Tab)(X:Exec):Prop:= ∀N id ops muts al als live,compOpers P N muts ops ops.toList.zipIdx=some als→presOk ops.toList 0 (Ab.pres ops.toList [])=true→
 ∀e s ex e' s',stepDrawn T X (drawn al als (Ab.pres ops.toList []) als.zipIdx) live e s=some (ex,e',s')→ ∀F,Wide F→ ∀n w0 w γ a,Pre P N w0 e s a w γ→
  (Code.region id ops true).wpIn F n P (CodePost (KP P) N w0 (dep s) s.length w γ ex e' s') a w
section
variable {P : Program} {T : Tab} {N w0 : Nat} {e : Env} {s : Stk} {a : Act} {w : World} {γ : G}
theorem Pre.post(h:Pre P N w0 e s a w γ) {D L:Nat} {wI:World} {γI:G}(hx:Ext D wI γI w γ)(hL:s.length=L)(ex:Ex):CodePost (KP P) N w0 D L wI γI ex e s ex.out a w:=
 ⟨rfl,γ,h.size,h.env,h.stk,hx,hL,h.marks⟩
theorem Pre.ghost(h:Pre P N w0 e s a w γ) {e':Env} {s':Stk}(g:Ghost (KP P) e s a w γ e' s'): ∃γ',Pre P N w0 e' s' a w γ'∧Ext (dep s) w γ w γ'∧s'.length=s.length:=by
 obtain⟨γ',h1,h2,h3,h4,h5⟩:=g
 refine⟨γ',⟨?_,h.size,h1,h2,h.marks.own h5,h.w0⟩,h3,h4⟩
 intro e0
 rw[e0]at h4
 exact h.ne (List.eq_nil_of_length_eq_zero h4.symm)
theorem CodePost.pre {D L:Nat} {wI:World} {γI:G} {ex:Ex} {e':Env} {s':Stk} {x:Exit} {a':Act} {w':World}(h:CodePost (KP P) N w0 D L wI γI ex e' s' x a' w')(hL:L≠0)(hw:w0≤wI.heap.size):
 ∃γ',Pre P N w0 e' s' a' w' γ'∧Ext D wI γI w' γ'∧s'.length=L∧x=ex.out:=by
 obtain⟨h0,γ',h1,h2,h3,h4,h5,h6⟩:=h
 exact⟨γ',⟨fun e0=>by rw[e0]at h5;exact hL h5.symm,h1,h2,h3,h6,Nat.le_trans hw h4.size⟩,h4,h5,h0⟩
theorem CodePost.weak {D L:Nat} {wI w1:World} {γI γ1:G} {ex:Ex} {e':Env} {s':Stk} {x:Exit} {a':Act} {w':World}(h:CodePost (KP P) N w0 D L w1 γ1 ex e' s' x a' w')(hx:Ext D wI γI w1 γ1):CodePost (KP P) N w0 D L wI γI ex e' s' x a' w':=by
 obtain⟨h0,γ',h1,h2,h3,h4,h5,h6⟩:=h
 exact⟨h0,γ',h1,h2,h3,hx.trans h4,h5,h6⟩
theorem Pre.len(h:Pre P N w0 e s a w γ):s.length≠0:=fun e0=>h.ne (List.eq_nil_of_length_eq_zero e0)
theorem ghosts_ok: ∀(gs:List Gh) {c:AC} {n:Nat} {e:Env} {s:Stk} {γ:G} {r:Ex×Env×Stk},exec T n (ghosts gs c) e s=some r→Pre P N w0 e s a w γ→
 ∃e1 s1 m γ1,m≤n∧exec T m c e1 s1=some r∧Pre P N w0 e1 s1 a w γ1∧Ext (dep s) w γ w γ1∧s1.length=s.length
 |[],c,n,e,s,γ,r,h,hp=>⟨e,s,n,γ,Nat.le_refl _,h,hp,Ext.refl _ _ _,rfl⟩
 |g::gs,c,n,e,s,γ,r,h,hp=>by
   cases n with
   |zero=>cases g<;>cases h
   |succ n=>
     have key: ∀(ag:AC),exec T (n+1) (.seq ag (ghosts gs c)) e s=some r→(∀m ex e' s',exec T m ag e s=some (ex,e',s')→ex= .normal∧Ghost (KP P) e s a w γ e' s')→
      ∃e1 s1 m γ1,m≤n+1∧exec T m c e1 s1=some r∧Pre P N w0 e1 s1 a w γ1∧Ext (dep s) w γ w γ1∧s1.length=s.length:=by
      intro ag h hg
      simp only[exec,step]at h
      split at h
      ·rename_i e' s' h1
       obtain⟨_,h2⟩:=hg n _ _ _ h1
       obtain⟨γ',p1,p2,p3⟩:=hp.ghost h2
       obtain⟨e1,s1,m,γ1,q1,q2,q3,q4,q5⟩:=ghosts_ok gs h p1
       refine⟨e1,s1,m,γ1,by omega,q2,q3,p2.trans ?_,q5.trans p3⟩
       have:dep s'=dep s:=by simp[dep,p3]
       rwa [this]at q4
      ·rename_i h1
       exfalso
       obtain⟨ex,e',s'⟩:=r
       obtain⟨rfl,_⟩:=hg n _ _ _ h
       exact h1 _ _ h
     cases g with
     |t t l z=>
       refine key (.thaw t l z) h fun m ex e' s' hm=> ?_
       cases m with
       |zero=>cases hm
       |succ m=>exact thaw_ok hp.env hp.stk hm
     |c t off l z=>
       refine key (.thawc t off l z) h fun m ex e' s' hm=> ?_
       cases m with
       |zero=>cases hm
       |succ m=>exact thawc_ok hp.env hp.stk hm
theorem frozen_ok {ls:List Nat} {c:AC} {n:Nat} {r:Ex×Env×Stk}(h:exec T n (frozen ls c) e s=some r)(hp:Pre P N w0 e s a w γ):
 ∃e1 s1 m γ1,m≤n∧exec T m c e1 s1=some r∧Pre P N w0 e1 s1 a w γ1∧Ext (dep s) w γ w γ1∧s1.length=s.length:=by
 cases ls with
 |nil=>exact⟨e,s,n,γ,Nat.le_refl _,h,hp,Ext.refl _ _ _,rfl⟩
 |cons l ls=>
   simp only[frozen]at h
   cases n with
   |zero=>cases h
   |succ n=>
     cases n with
     |zero=>simp[exec,step]at h
     |succ n=>
       simp only[exec,step]at h
       obtain⟨γ',p1,p2,p3⟩:=hp.ghost (frzAll_ok (l::ls) hp.env hp.stk)
       exact⟨_,_,n+1,γ',by omega,h,p1,p2,p3⟩
theorem loop_ok {c:Code} {ac:AC} {ann ann':Ann}(hc:comp P N c ann=some (ac,ann')) {F:Fence}(hF:Wide F)(hr:F.round=none∨noRng c=true) {n:Nat} {live keep:List Nat} {ex:Ex} {e':Env} {s':Stk} {D L:Nat} {wI:World} {γI:G}(hw:w0≤wI.heap.size):
 ∀(k:Nat),(∀j,j<k→CodeOk P (exec T j))→ ∀ {e:Env} {s:Stk} {a:Act} {w:World} {γ:G},exec T k (.loop live keep ac) e s=some (ex,e',s')→Pre P N w0 e s a w γ→Ext D wI γI w γ→dep s=D→s.length=L→
  Code.roundsIn F n P c (CodePost (KP P) N w0 D L wI γI ex e' s') k a w
 |0,_,_,_,_,_,_,h,_,_,_,_=>by cases h
 |k+1,ih,e,s,a,w,γ,h,hp,hx,hD,hL=>by
   simp only[exec,step,stepLoop]at h
   rw[roundsIn_succ]
   have hdep:dep (gcStk keep s)=dep s:=by simp[dep,gcStk_length]
   have hpg:Pre P N w0 (gcEnv live keep e s) (gcStk keep s) a w (γ.drop (dep s) keep):=
    ⟨fun e0=>hp.len (by rw[←gcStk_length keep s,e0];rfl),hp.size,by rw[gcStk_length];exact hp.env.gc live keep,hp.stk.gc keep,hp.marks.own own_drop,hp.w0⟩
   have hxg:Ext (dep s) w γ w (γ.drop (dep s) keep):=Ext.drop (Nat.le_refl _)
   have run: ∀ex1 e1 s1,exec T k ac (gcEnv live keep e s) (gcStk keep s)=some (ex1,e1,s1)→
    c.wpIn F n P (CodePost (KP P) N w0 D L wI γI ex1 e1 s1) a w:=by
    intro ex1 e1 s1 h1
    have:=ih k (by omega) N c ann ac ann' hc _ _ _ _ _ h1 F hF hr n w0 w _ a hpg
    rw[hdep,hD,gcStk_length,hL]at this
    refine wpIn_mono this fun x a1 w1 hq=> ?_
    exact(hq.weak (by rw[←hD];exact hxg)).weak hx
   split at h
   ·rename_i e1 s1 h1
    refine wpIn_mono (run _ _ _ h1) fun x a1 w1 hq=> ?_
    obtain⟨γ1,q1,q2,q3,q4⟩:=hq.pre (by rw[←hL];exact hp.len) hw
    subst q4
    show Code.roundsIn F n P c _ k a1 w1
    exact loop_ok hc hF hr hw k (fun j hj=>ih j (by omega)) h q1 q2 (by rw[←hD];simp[dep,q3,hL]) q3
   ·rename_i h1
    obtain⟨y,hy⟩: ∃y,exec T k ac (gcEnv live keep e s) (gcStk keep s)=y:=⟨_,rfl⟩
    rw[hy]at h
    subst h
    refine wpIn_mono (run _ _ _ hy) fun x a1 w1 hq=> ?_
    have hx:x=ex.out:=hq.1
    cases ex with
    |normal=>exact absurd hy (h1 _ _)
    |exit id=>subst hx;exact hq
    |ret=>subst hx;exact hq
theorem shut_ext {D:Nat} {w0:World} {γ0:G} {w w':World} {γ:G}(h:Ext D w0 γ0 w γ) {r:Nat}(hr:w0.heap.size≤r)(os:w'.os=w.os)(tape:w'.tape=w.tape)(output:w'.output=w.output)(size:w'.heap.size=w.heap.size)(drawn:w'.drawn=w.drawn)
 (heap: ∀k,k≠r→w'.heap[k]? =w.heap[k]?) (hf: ∀l g b,γ0 none l=some g→g.blk=some b→b<w0.heap.size):Ext D w0 γ0 w' γ:=by
 refine⟨os.trans h.os,tape.trans h.tape,output.trans h.output,by rw[size];exact h.size,by rw[drawn];exact h.drawn,h.cell,h.obj,h.arr,h.harr,h.tok,fun b off u hc hno=> ?_,h.free,fun b hb hno=> ?_,h.frn,fun l g b hg hb=> ?_⟩
 ·have hlt:b<w0.heap.size:=World.block_lt_of_cell? w0 _ hc
  have:=h.keep b off u hc hno
  rw[←this]
  exact World.cell?_of_block (heap b (by omega))
 ·rw[heap b (by omega)];exact h.block b hb hno
 ·rw[heap b (by have:=hf l g b hg hb;omega)];exact h.fheap l g b hg hb
end
end Go.Ab

/-
  'exec' is right: a call's entry and end; rounds; the whole.
-/
namespace Go.Ab
section
variable {P : Program} {T : Tab} {N w0 : Nat} {e : Env} {s : Stk} {a : Act} {w : World} {γ : G}
structure TabOk(P:Program)(T:Tab):Prop where
 code: ∀f fn,T.fns f=some (.code fn)→ ∃func ann,P.funcs[f]? =some func∧compFn P func ann=some fn
 prim: ∀f p,T.fns f=some (.prim p)→ ∀args lab s v s',p args lab s=some (v,s')→Enters P f∧
  ∀w γ us,LR s.length w γ args us→SR (KP P) s w γ→Calls P f us.toArray w (CPost (KP P) s w γ v s')
theorem SR.push(h:SR (KP P) s w γ):SR (KP P) ([]::s) w γ:=by
 refine⟨fun d l x hx=> ?_,fun d l hx=> ?_,h.inj,h.frn,h.glob⟩
 ·simp only[sget]at hx
  split at hx
  ·cases hx
  ·exact h.ent d l x hx
 ·simp only[sget]at hx
  split at hx
  ·rename_i hd
   cases hg:γ d l with
   |none=>rfl
   |some g=>have:=h.lt hg;omega
  ·exact h.none d l hx
theorem argEnv_get: ∀(args:List V) (i t:Nat),(argEnv i args).get t=if i≤t then(args[t-i]?).getD .undef else .undef
 |[],i,t=>by simp[argEnv,Env.get]
 |v::r,i,t=>by
   simp only[argEnv,Env.get]
   split
   ·rename_i h;subst h;simp
   ·rename_i h
    rw[argEnv_get r (i+1) t]
    by_cases hi:i≤t
    ·rw[if_pos hi,if_pos (by omega),show t-i=(t-(i+1))+1 by omega];simp
    ·rw[if_neg hi,if_neg (by omega)]
theorem ER.args {D:Nat} {args:List V} {us:List Value}(h:LR D w γ args us)(n:Nat):ER D w γ (argEnv 0 args) {tmps:=us.toArray ++Array.replicate n undef,defers:=[]}:=by
 intro t
 rw[argEnv_get]
 simp only[Nat.zero_le,if_true,Nat.sub_zero]
 by_cases ht:t<args.length
 ·have hu:t<us.length:=by rw[←h.1];exact ht
  have:(us.toArray ++Array.replicate n undef).getD t undef=us[t]:=by simp[Array.getD_eq_getD_getElem?,Array.getElem?_append,hu]
  rw[this]
  simp only[List.getElem?_eq_getElem ht,Option.getD_some]
  exact h.2 t _ _ (by simp) (by simp)
 ·rw[List.getElem?_eq_none (by omega)]
  exact .undef _
def resStep(tmps:Array Value):ResultVar→Sem Value
 | .tmp t=>pure (tmps.getD t undef)
 | .cell x t=>do loadVar t (←asAddr (tmps.getD x undef))
theorem results_ok(hE:ER s.length w γ e a)(hS:SR (KP P) s w γ): ∀ {rs:List ResultVar} {ars:List ARes} {vs:List V},compRes P rs=some ars→results e s ars=some vs→
 ∃us,(rs.mapM (resStep a.tmps)).run P w= .ok us w∧LR s.length w γ vs us
 |[],ars,vs,hc,hr=>by
   simp[compRes]at hc;subst hc
   simp[results]at hr;subst hr
   exact⟨[],by simp,LR.nil⟩
 | .tmp t::rs,ars,vs,hc,hr=>by
   simp only[compRes]at hc
   obtain⟨l,h1,rfl⟩:=Option.map_eq_some_iff.1 hc
   simp only[results]at hr
   split at hr
   ·rename_i v vs' h2 h3
    cases hr
    cases h2
    obtain⟨us,k1,k2⟩:=results_ok hE hS h1 h3
    exact⟨a.tmps.getD t undef::us,by simp only[List.mapM_cons,Sem.run_bind,resStep,Sem.run_pure,Result.andThen_ok,k1],LR.cons (hE t) k2⟩
   ·cases hr
 | .cell x t::rs,ars,vs,hc,hr=>by
   simp only[compRes]at hc
   split at hc
   ·rename_i n l hn h1
    cases hc
    simp only[results]at hr
    split at hr
    ·rename_i v vs' h2 h3
     cases hr
     obtain⟨us,k1,k2⟩:=results_ok hE hS h1 h3
     split at h2
     ·rename_i d lb off he
      split at h2
      ·rename_i cs hg
       have hx:=hE x
       rw[he]at hx
       obtain⟨b,c,hu,hb,hl,hrd,hd⟩:=ptr_mem hS hx hg
       obtain⟨u,q1,q2⟩:=load_ok hn ((show LR s.length w γ cs c from hl.mono (by omega)).drop off) (by simpa using hrd.drop off) (part_drop h2)
       refine⟨u::us,?_,LR.cons q2 k2⟩
       simp only[List.mapM_cons,Sem.run_bind,resStep,hu,asAddr,Sem.run_pure,Result.andThen_ok,k1,q1]
      ·cases h2
     ·cases h2
    ·cases hr
   ·cases hc
theorem results_run(hE:ER s.length w γ e a)(hS:SR (KP P) s w γ) {fn:Func} {ars:List ARes} {vs:List V}(hc:compRes P fn.results.toList=some ars)(hr:results e s ars=some vs):
 ∃u,(Go.results fn a.tmps).run P w= .ok u w∧VR s.length w γ (pack vs) u:=by
 obtain⟨us,h1,h2⟩:=results_ok hE hS hc hr
 refine⟨if us.length=1 then us.headD undef else .tuple us.toArray,?_,?_⟩
 ·have hm:(fn.results.mapM (resStep a.tmps)).run P w= .ok us.toArray w:=by
   rw[Array.mapM_eq_mapM_toList]
   simp[h1]
  have hfun:Go.results fn a.tmps=(do let vs←fn.results.mapM (resStep a.tmps);pure (if h:vs.size=1 then vs[0]else .tuple vs)):=rfl
  rw[hfun]
  simp only[Sem.run_bind,hm,Result.andThen_ok,Sem.run_pure]
  congr 1
  match us with
  |[]=>simp
  |[x]=>simp
  |x::y::r=>simp
 ·match vs,us,h2 with
  |[],us,h2=>
    have:us=[]:=List.eq_nil_of_length_eq_zero h2.1.symm
    subst this
    simpa [pack]using VR.tup_mk h2
  |[v],us,h2=>
    obtain⟨u,us',rfl,h3,h4⟩:=h2.inv
    have:us'=[]:=List.eq_nil_of_length_eq_zero h4.1.symm
    subst this
    simpa [pack]using h3
  |v::v'::r,us,h2=>
    have hne:us.length≠1:=by rw[←h2.1];simp
    rw[if_neg hne]
    exact VR.tup_mk h2
theorem VR.world {D:Nat} {w w':World} {v:V} {u:Value}(h:VR D w γ v u)(hc: ∀b off u,w.cell? ⟨b,off,none⟩=some u→w'.cell? ⟨b,off,none⟩=some u):VR D w' γ v u:=by
 induction h with
 |undef u=>exact .undef u
 |skip=>exact .skip
 |int k n=>exact .int k n
 |bool b=>exact .bool b
 |anyb b=>exact .anyb b
 |csl p n cap a hle _ ih=>exact .csl p n cap a hle ih
 |mp p q _ ih=>exact .mp p q ih
 |agg cs us hl _ ih=>exact .agg cs us hl ih
 |tup cs us hl _ ih=>exact .tup cs us hl ih
 |nilp=>exact .nilp
 |ptr d l off b hd hb=>exact .ptr d l off b hd hb
 |ep cs b off hp hc' hno _ ih=>
   refine .ep cs b off hp (fun i v hv=> ?_) hno (fun i v u hv hu=> ?_)
   ·obtain⟨u,hu⟩:=hc' i v hv;exact⟨u,hc _ _ _ hu⟩
   ·obtain⟨u',hu'⟩:=hc' i v hv
    rw[hc _ _ _ hu']at hu;cases hu
    exact ih i v _ hv hu'
 |slnil c sz hcap=>exact .slnil c sz hcap
 |sl0 c sz a cap hcap=>exact .sl0 c sz a cap hcap
 |sl c sz es b off cap hsz hp hle hcap hc' hno _ ih=>
   refine .sl c sz es b off cap hsz hp hle hcap (fun i cs j v hi hj=> ?_) hno (fun i cs j v u hi hj hu=> ?_)
   ·obtain⟨u,hu⟩:=hc' i cs j v hi hj;exact⟨u,hc _ _ _ hu⟩
   ·obtain⟨u',hu'⟩:=hc' i cs j v hi hj
    rw[hc _ _ _ hu']at hu;cases hu
    exact ih i cs j v _ hi hj hu'
 |fn f first cap us ws h1 h2 _ _ i1 i2=>exact .fn f first cap us ws h1 h2 i1 i2
 |nilf=>exact .nilf
 |yld d l b hd hb=>exact .yld d l b hd hb
 |asl d l sz n off len b k hd hb hle hk=>exact .asl d l sz n off len b k hd hb hle hk
 |aslnil d l sz base hd hb=>exact .aslnil d l sz base hd hb
 |aslold d l sz n off len N blk base ln cp hd hb hn=>exact .aslold d l sz n off len N blk base ln cp hd hb hn
 |eptr d l n i j b sz k hd hb=>exact .eptr d l n i j b sz k hd hb
 |eptrold d l n i j N blk p hd hb hn=>exact .eptrold d l n i j N blk p hd hb hn
 |aslh d l sz n off len lo N f hd hb hn hle hk=>exact .aslh d l sz n off len lo N f hd hb hn hle hk
 |eptrh d l n i j sz lo N f hd hb hn=>exact .eptrh d l n i j sz lo N f hd hb hn
 |aslho d l sz n off len lo N sz' f base ln cp hd hb hn=>exact .aslho d l sz n off len lo N sz' f base ln cp hd hb hn
 |eptrho d l n i j lo N sz' f p hd hb hn=>exact .eptrho d l n i j lo N sz' f p hd hb hn
theorem SR.world {w':World}(h:SR (KP P) s w γ)(hc: ∀b off u,w.cell? ⟨b,off,Option.none⟩=some u→w'.cell? ⟨b,off,Option.none⟩=some u)(hs:w.heap.size≤w'.heap.size)
 (hb: ∀d l g b,γ d l=some g→g.blk=some b→w'.heap[b]? =w.heap[b]?):SR (KP P) s w' γ:=by
 refine⟨fun d l x hx=> ?_,h.none,h.inj,fun l g b h1 h2=>Nat.lt_of_lt_of_le (h.frn l g b h1 h2) hs,fun g cs hg=>⟨Nat.lt_of_lt_of_le (h.glob g cs hg).1 hs,(h.glob g cs hg).2.1,fun i n hi=>hc _ _ _ ((h.glob g cs hg).2.2 i n hi)⟩⟩
 have he:=h.ent d l x hx
 cases x with
 |cell cs=>
   obtain⟨b,c,e,h1,h2,h3⟩:=he
   exact⟨b,c,e,h1,(hb _ _ _ _ h1 rfl).trans h2,h3.1,fun i v u hv hu=>(h3.2 i v u hv hu).world hc⟩
 |tok n=>
   obtain⟨blk,h1,h2⟩:=he
   refine⟨blk,h1,fun b sz k e=> ?_⟩
   obtain⟨c,el,h3,h4⟩:=h2 b sz k e
   exact⟨c,el,(hb _ _ _ b h1 (by rw[e];rfl)).trans h3,h4⟩
 |arr sz es=>
   obtain⟨blk,h1,h0,h2⟩:=he
   refine⟨blk,h1,h0,?_⟩
   cases blk with
   |none=>exact h2
   |some y=>
     obtain⟨b,sz',k⟩:=y
     obtain⟨e1,c,e,h3,h4,h5,h6,h7,h8⟩:=h2
     exact⟨e1,c,e,(hb _ _ _ b h1 rfl).trans h3,h4,h5,h6,h7,fun i cs j v u k1 k2 k3=>(h8 i cs j v u k1 k2 k3).world hc⟩
 |harr lo sz es=>
   obtain⟨f,h1,h0,hz,hlo,⟨c,e,h4,h5,h6⟩,h2⟩:=he
   refine⟨f,h1,h0,hz,hlo,⟨c,e,(hb _ _ _ _ h1 rfl).trans h4,h5,h6⟩,fun m m1 m2=> ?_⟩
   obtain⟨h7,h3,h8⟩:=h2 m m1 m2
   refine⟨h7,?_,fun i cs j v k0 k1 k2=> ?_⟩
   ·rcases h3 with h3|h3
    ·exact .inl h3
    ·exact .inr ⟨Nat.lt_of_lt_of_le h3.1 hs,h3.2⟩
   ·obtain⟨u,k3,k4⟩:=h8 i cs j v k0 k1 k2
    exact⟨u,hc _ _ _ k3,k4.world hc⟩
 |mp t kvs=>
   obtain⟨b,h1,h2,h3⟩:=he
   exact⟨b,h1,(hb _ _ _ _ h1 rfl).trans h2,h3⟩
 |mq kvs=>
   obtain⟨b,h1,h2⟩:=he
   exact⟨b,h1,(hb _ _ _ _ h1 rfl).trans h2⟩
 |loop ps A B env o p=>
   obtain⟨b,r,h1,h2,h3,h4,h5⟩:=he
   exact⟨b,r,h1,(hb _ _ _ _ h1 rfl).trans h2,h3,fun t=>(h4 t).world hc,h5⟩
theorem leaves_ok {fn:Func} {ars:List ARes} {vs:List V} {loc:Loc} {own:Bool} {lab:Nat} {v:V} {s':Stk} {tmps:Array Value}(hc:compRes P fn.results.toList=some ars) {wI:World} {γI:G}(hf: ∀l g b,γI Option.none l=some g→g.blk=some b→b<wI.heap.size)
 (hr:results e (loc::s) ars=some vs) (had:adopt own loc (pack vs) lab s=some (v,s')): ∀(ds:List Deferred) {w:World},Marks wI.heap.size γ ds w→ER (loc::s).length w γ e {tmps,defers:=[]}→SR (KP P) (loc::s) w γ→Ext s.length wI γI w γ→
  LeavesInM Fence.wide 0 P fn tmps (CPost (KP P) s wI γI v s') ds .returning w
 |[],w,_,hE,hS,hx=>by
   obtain⟨u,h1,h2⟩:=results_run hE hS hc hr
   obtain⟨γ',k1,k2,k3,k4⟩:=adopt_ok hS h2 had
   exact⟨u,h1,u,γ',rfl,k1,k2,k4 _ _ hx,k3⟩
 |d::ds,w,hm,hE,hS,hx=>by
   obtain⟨r,h1,h2,h3,h4⟩:=hm.2 d (by simp)
   refine⟨by simp, .inl ⟨r,w.putObj r (.deferred none),h1,run_takeDeferred h3,?_⟩⟩
   have hlt:r<w.heap.size:=(Array.getElem?_eq_some_iff.1 h3).1
   have hold: ∀k,k≠r→(w.putObj r (.deferred none)).heap[k]? =w.heap[k]? :=fun k hk=>World.putObj_heap_other hk
   have hcell: ∀b off u,w.cell? ⟨b,off,none⟩=some u→(w.putObj r (.deferred none)).cell? ⟨b,off,none⟩=some u:=by
    intro b off u hu
    have hb:b≠r:=by rintro rfl;simp[World.cell?,h3]at hu
    rw[←hu]
    exact World.cell?_of_block (hold b hb)
   have hblk: ∀d l g b,γ d l=some g→g.blk=some b→(w.putObj r (.deferred none)).heap[b]? =w.heap[b]? :=by
    intro d l g b hg hb
    refine hold b ?_
    rintro rfl
    cases g with
    |cell b'=>simp[GE.blk]at hb;subst hb;exact h4 0 ⟨d,l,_,hg,rfl⟩
    |obj b'=>simp[GE.blk]at hb;subst hb;exact h4 0 ⟨d,l,_,hg,rfl⟩
    |tok n blk=>
      cases blk with
      |none=>simp[GE.blk]at hb
      |some y=>obtain⟨b',sz,k⟩:=y;simp[GE.blk]at hb;subst hb;exact h4 (n*sz) ⟨d,l,_,hg,rfl,Nat.le_refl _⟩
    |arr n blk=>
      cases blk with
      |none=>simp[GE.blk]at hb
      |some y=>obtain⟨b',sz,k⟩:=y;simp[GE.blk]at hb;subst hb;exact h4 0 ⟨d,l,_,hg,rfl⟩
    |harr lo n sz f=>simp[GE.blk]at hb;subst hb;exact h4 0 ⟨d,l,_,hg,rfl⟩
   refine leaves_ok hc hf hr had ds ⟨?_,fun d' hd'=> ?_⟩ (fun t=>(hE t).world hcell) (hS.world hcell (by simp) hblk) (shut_ext hx h2 rfl rfl rfl (by simp) rfl hold hf)
   ·have:=hm.1;simp only[List.map_cons,List.nodup_cons]at this;exact this.2
   ·obtain⟨r',q1,q2,q3,q4⟩:=hm.2 d' (by simp[hd'])
    refine⟨r',q1,q2,?_,q4⟩
    rw[hold r' ?_];exact q3
    rintro rfl
    have:=hm.1
    simp only[List.map_cons,List.nodup_cons]at this
    exact this.1 (List.mem_map.2 ⟨d',hd',by rw[q1,h1]⟩)
theorem stat_of_code(tab:TabOk P T) {X:Exec}(hX:CodeOk P X):StatOk (KP P) P T X:=by
 intro f args lab s v s' h
 unfold enter at h
 split at h
 ·cases h
 ·rename_i p hp
  exact tab.prim f p hp args lab s v s' h
 ·rename_i fn hfn
  obtain⟨func,ann,hf,hcomp⟩:=tab.code f fn hfn
  unfold compFn at hcomp
  split at hcomp
  ·rename_i c hbody
   split at hcomp
   ·rename_i body ann' res hc hres
    split at hcomp
    ·rename_i hcond
     cases hcomp
     refine⟨fun args w=> ?_,fun w γ us hl hS=> ?_⟩
     ·simp[callFunc,hf,hcond.2,hbody]
     ·split at h
      ·rename_i hlen
       split at h
       ·rename_i ex e' s1 hx
        have hargs:us.toArray.size≤func.ntmps:=by
         have:us.length=func.params.size+func.nfree:=by rw[←hl.1];exact hlen
         simp;omega
        have hend: ∀loc s2,s1=loc::s2→ex≠ .exit 0→(match results e' s1 res with|none=>none|some vs=>adopt ann.own loc (pack vs) lab s2)=some (v,s')→(∀id,ex≠ .exit id)→Calls P f us.toArray w (CPost (KP P) s w γ v s'):=by
         intro loc s2 hs1 _ hend hne
         subst hs1
         split at hend
         ·cases hend
         ·rename_i vs hvs
          refine callsIn_wide.1 (callsIn_of_wp_marks (F:=Fence.wide) (n:=0) hf hbody trivial ?_)
          have hpre:Pre P func.ntmps w.heap.size (argEnv 0 args) ([]::s) {tmps:=us.toArray ++Array.replicate (func.ntmps-us.toArray.size) undef,defers:=[]} w γ:=
           ⟨by simp,by simp;simp at hargs;omega,ER.args (hl.mono (by simp)) _,hS.push,⟨by simp,by simp⟩,Nat.le_refl _⟩
          have:=hX _ _ _ _ _ hc _ _ _ _ _ hx Fence.wide (.inl rfl) (.inl rfl) 0 w.heap.size w γ _ hpre
          refine wpIn_mono this fun x a1 w1 hq=> ?_
          obtain⟨hxo,γ1,q1,q2,q3,q4,q5,q6⟩:=hq
          have hd:dep ([]::s)=s.length:=by simp[dep]
          rw[hd]at q4
          have hlen2:s2.length=s.length:=by simpa using q5
          have fin:LeavesInM Fence.wide 0 P func a1.tmps (CPost (KP P) s w γ v s') a1.defers .returning w1:=by
           have:=leaves_ok (w:=w1) (γ:=γ1) (s:=s2) (tmps:=a1.tmps) hres (wI:=w) (γI:=γ) (fun l g b h1 h2=>hS.frn l g b h1 h2) hvs hend a1.defers q6 q2 q3 (by rw[hlen2];exact q4)
           have e1:CPost (KP P) s2 w γ v s'=CPost (KP P) s w γ v s':=by unfold CPost;rw[hlen2]
           rwa [e1]at this
          cases ex with
          |normal=>subst hxo;exact fin
          |ret=>subst hxo;exact fin
          |exit id=>exact absurd rfl (hne id)
        cases ex with
        |exit id=>cases h
        |normal=>
          dsimp only at h
          split at h
          ·cases h
          ·rename_i loc s2
           exact hend loc s2 rfl (by simp) h (by simp)
        |ret=>
          dsimp only at h
          split at h
          ·cases h
          ·rename_i loc s2
           exact hend loc s2 rfl (by simp) h (by simp)
       ·cases h
      ·cases h
    ·cases hcomp
   ·cases hcomp
  ·cases hcomp
end
end Go.Ab

/-
  'exec' is right: rounds of a range over a function; the whole.
-/
namespace Go.Ab
section
variable {P : Program} {T : Tab} {N w0 : Nat} {e : Env} {s : Stk} {a : Act} {w : World} {γ : G}
theorem ER.bind {D:Nat} {ds:List Deferred}: ∀ {ps:List Nat} {args:List V} {us:List Value} {e:Env} {tmps:Array Value},LR D w γ args us→(∀t∈ps,t<tmps.size)→ER D w γ e {tmps,defers:=ds}→
 ER D w γ (bindEnv ps args e) {tmps:=(ps.zip us).foldl (fun tmps (x:Nat×Value)=>tmps.setIfInBounds x.1 x.2) tmps,defers:=ds}∧((ps.zip us).foldl (fun tmps (x:Nat×Value)=>tmps.setIfInBounds x.1 x.2) tmps).size=tmps.size
 |[],args,us,e,tmps,hl,hp,hE=>by simpa [bindEnv]using hE
 |t::ps,[],us,e,tmps,hl,hp,hE=>by
   have:us=[]:=List.eq_nil_of_length_eq_zero hl.1.symm
   subst this
   simpa [bindEnv]using hE
 |t::ps,v::args,us,e,tmps,hl,hp,hE=>by
   obtain⟨u,us',rfl,h1,h2⟩:=hl.inv
   have ht:t<tmps.size:=hp t (by simp)
   have hE':ER D w γ ((t,v)::e) {tmps:=tmps.setIfInBounds t u,defers:=ds}:=by
    have:=ER.put (dst:=some t) hE h1 (fun d hd=>by cases hd;exact ht)
    simpa [setDst,Act.put]using this
   have:=ER.bind (ps:=ps) (tmps:=tmps.setIfInBounds t u) h2 (fun t' ht'=>by have:=hp t' (List.mem_cons_of_mem _ ht');simpa using this) hE'
   exact⟨by simpa [bindEnv]using this.1,by simpa using this.2⟩
theorem loop_turn_e(hS:SR (KP P) s w γ) {d l b:Nat} {ps:List Nat} {A B:AC} {env:Env} {st:LoopState} {pend:Option Ex}(hg:sget s d l=some (.loop ps A B env st pend))(hb:γ d l=some (.obj b)) {r:Loop}(hr:w.heap[b]? =some (.loop r))(st':LoopState)(pend':Option Ex)
 {r':Loop} (hr':r'= {r with state:=st',pending:=pend'.map Ex.code}) {env':Env} (henv: ∀t,env'.get t=env.get t∨env'.get t= .undef):
 SR (KP P) (sput s d l (.loop ps A B env' st' pend')) (w.putObj b (.loop r')) γ∧Ext s.length w γ (w.putObj b (.loop r')) γ:=by
 obtain⟨b',q,h1,h2,h3,h4,h5⟩:=hS.ent d l _ hg
 rw[hb]at h1;cases h1
 rw[hr]at h2;cases h2
 have hlt:b<w.heap.size:=(Array.getElem?_eq_some_iff.1 hr).1
 have hold: ∀k,k≠b→(w.putObj b (.loop r')).heap[k]? =w.heap[k]? :=fun k hk=>World.putObj_heap_other hk
 have hx:Ext s.length w γ (w.putObj b (.loop r')) γ:=by
  refine⟨rfl,rfl,rfl,by simp,Nat.le_refl _,fun _ _ _ _ h=>h,fun _ _ _ _ h=>h,fun _ _ n blk _ h=>⟨n,blk,h, .inl ⟨rfl,rfl⟩⟩,fun _ _ lo N _ f _ h=>⟨lo,N,f,h,Nat.le_refl _,Nat.le_refl _,fun _ _ _=>rfl⟩,fun _ _ n blk _ h=>⟨n,blk,h, .inl ⟨rfl,rfl⟩⟩,?_,fun _ _ _ h=>h,?_,fun _=>rfl,?_⟩
  ·intro b1 off u hc _
   have:b1≠b:=by rintro rfl;simp[World.cell?,hr]at hc
   rw[←hc]
   exact World.cell?_of_block (hold b1 this)
  ·intro b1 _ hno
   refine hold b1 ?_
   rintro rfl
   exact hno 0 ⟨d,l,_,hb,rfl⟩
  ·intro l1 g1 b1 k1 k2
   refine hold b1 ?_
   rintro rfl
   exact hS.notfrn hb rfl l1 g1 k1 k2
 refine⟨hS.step (g:= .obj b) (hS.lt hb) hx (set_self hb).symm ⟨b,r',hb,World.putObj_heap_same hlt,?_,fun t=> ?_,?_⟩ ?_ ?_,hx⟩
 ·rw[hr'];exact h3
 ·have e1:r'.tmps=r.tmps:=by rw[hr']
  rw[e1]
  rcases henv t with h|h
  ·rw[h];exact(h4 t).ext (hx.mono (hS.lt hb))
  ·rw[h];exact .undef _
 ·rw[hr'];exact⟨rfl,rfl⟩
 ·intro d' l' g' b1 hne hg' hb1
  refine hold b1 ?_
  rintro rfl
  exact hne (hS.inj d' l' g' d l _ b1 hg' hb hb1 rfl)
 ·intro b1 hb1 d' l' g' hne hg' hb'
  simp[GE.blk]at hb1;subst hb1
  exact hne (hS.inj d' l' g' d l _ b hg' hb hb' rfl)
theorem loop_turn(hS:SR (KP P) s w γ) {d l b:Nat} {ps:List Nat} {A B:AC} {env:Env} {st:LoopState} {pend:Option Ex}(hg:sget s d l=some (.loop ps A B env st pend))(hb:γ d l=some (.obj b)) {r:Loop}(hr:w.heap[b]? =some (.loop r))(st':LoopState)(pend':Option Ex)
 {r':Loop} (hr':r'= {r with state:=st',pending:=pend'.map Ex.code}):
 SR (KP P) (sput s d l (.loop ps A B env st' pend')) (w.putObj b (.loop r')) γ∧Ext s.length w γ (w.putObj b (.loop r')) γ:=
 loop_turn_e hS hg hb hr st' pend' hr' fun _=> .inl rfl
theorem SR.loop {K:KK}(hS:SR K s w γ) {d l:Nat} {ps:List Nat} {A B:AC} {env:Env} {st:LoopState} {pend:Option Ex}(hg:sget s d l=some (.loop ps A B env st pend)):
 ∃b r,γ d l=some (.obj b)∧w.heap[b]? =some (.loop r)∧K ps A B r.fn r.tmps.size r.params r.assign r.body∧(∀t,VR (d+1) w γ (env.get t) (r.tmps.getD t undef))∧r.state=st∧r.pending=pend.map Ex.code:=hS.ent d l _ hg
theorem SR.pop {loc:Loc}(hS:SR (KP P) (loc::s) w γ):SR (KP P) s w (γ.pop s.length [] 0):=
 (pop_ok (own:=false) (lab:=0) (ls:=[]) hS (fun _=>rfl) rfl (by simp) (fun _ _ _=>rfl)).2
theorem yld_of_code {X:Exec}(hX:CodeOk P X):YldOk (KP P) P T X:=by
 intro d l args lab s v s' h w γ b us hγ hl hS
 simp only[enterV]at h
 split at h
 ·rename_i ps A B env hg
  split at h
  ·rename_i hlen
   split at h
   ·rename_i e1 s1 h1
    split at h
    ·rename_i ps1 A1 B1 env1 hg1
     split at h
     ·rename_i ex e2 s2 h2
      split at h
      ·cases h
      ·rename_i loc3 s3
       split at h
       ·rename_i ps3 A3 B3 env3 st3 pend3 hg3
        obtain⟨b',r,k1,k2,k3,k4,k5,k6⟩:=hS.loop hg
        rw[hγ]at k1;cases k1
        obtain⟨hps,⟨ann1,ann1',hcA⟩,⟨ann2,ann2',hcB⟩,nA,nB,hpN⟩:=k3
        have hd:d<s.length:=hS.lt hγ
        have hsz:us.toArray.size=r.params.size:=by
         have:us.length=ps.length:=by rw[←hl.1];exact hlen
         rw[←hps]at this
         simpa using this
        refine⟨_,_,_,_,run_yield k2 hsz,roundIn_of_wpIn (F:=Fence.wide) trivial ?_⟩
        have hfold:(r.params.zip us.toArray).foldl (fun tmps (x:Nat×Value)=>tmps.setIfInBounds x.1 x.2) r.tmps=(ps.zip us).foldl (fun tmps (x:Nat×Value)=>tmps.setIfInBounds x.1 x.2) r.tmps:=by
         rw[←Array.foldl_toList,Array.toList_zip,hps]
        have hb:=ER.bind (ds:=[]) (ps:=ps) (tmps:=r.tmps) (e:=env) (D:=s.length+1) (hl.mono (Nat.le_succ _)) hpN (fun t=>(k4 t).mono (by omega))
        have hpreA:Pre P r.tmps.size w.heap.size (bindEnv ps args env) ([]::s) {tmps:=(r.params.zip us.toArray).foldl (fun tmps (x:Nat×Value)=>tmps.setIfInBounds x.1 x.2) r.tmps,defers:=[]} w γ:=by
         rw[hfold]
         exact⟨by simp,hb.2,hb.1,hS.push,⟨by simp,by simp⟩,Nat.le_refl _⟩
        have hA:=hX _ _ _ _ _ hcA _ _ _ _ _ h1 (Fence.wide.inRound b) (.inr ⟨b,rfl⟩) (.inr nA) 0 _ w γ _ hpreA
        have hdep:dep ([]::s)=s.length:=by simp[dep]
        rw[hdep]at hA
        refine wpIn_mono hA fun x a1 w1 hq=> ?_
        obtain⟨γ1,p1,x1,l1,rfl⟩:=hq.pre (by simp) (Nat.le_refl _)
        have hg1':=x1.obj d l b hd hγ
        obtain⟨b1,r1,q1,q2,q3,q4,q5,q6⟩:=p1.stk.loop hg1
        rw[hg1']at q1;cases q1
        refine⟨_,run_beginRound q2 q5,?_⟩
        obtain⟨t1,t2⟩:=loop_turn p1.stk hg1 hg1' q2 .busy none (r':= {r1 with state:= .busy}) (by cases r1;simp_all)
        have hpreB:Pre P r.tmps.size w.heap.size e1 (sput s1 d l (.loop ps1 A1 B1 env1 .busy none)) a1 (w1.putObj b (.loop {r1 with state:= .busy})) γ1:=
         ⟨fun e0=>p1.len (by rw[←sput_length s1 d l,e0];rfl),p1.size,by rw[sput_length];exact p1.env.ext t2,t1,p1.marks.ext t2,Nat.le_trans p1.w0 t2.size⟩
        have hB:=hX _ _ _ _ _ hcB _ _ _ _ _ h2 (Fence.wide.inRound b) (.inr ⟨b,rfl⟩) (.inr nB) 0 _ _ γ1 _ hpreB
        have l1':s1.length=s.length+1:=by simpa using l1
        have hdep2:dep (sput s1 d l (.loop ps1 A1 B1 env1 .busy none))=s.length:=by rw[dep_sput];simp[dep,l1']
        rw[hdep2]at hB
        refine wpIn_mono hB fun x a2 w2 hq2=> ?_
        obtain⟨γ2,p2,x2,l2,rfl⟩:=hq2.pre (by rw[sput_length,l1'];omega) (Nat.le_trans p1.w0 t2.size)
        have l3:s3.length=s.length:=by rw[sput_length,l1']at l2;simpa using l2
        have hS3:=p2.stk.pop
        have xall:Ext s.length w γ w2 γ2:=(x1.trans (t2.mono (by omega))).trans x2
        have xpop:Ext s.length w γ w2 (γ2.pop s3.length [] 0):=by rw[l3];exact pop_ext [] 0 xall
        have hg3':=xpop.obj d l b hd hγ
        obtain⟨b3,r3,z1,z2,z3,z4,z5,z6⟩:=hS3.loop hg3
        rw[hg3']at z1;cases z1
        have fin: ∀(st:LoopState) (pend:Option Ex) (bv:Bool) (j:Option Code),j=pend.map Ex.code→st=(if j.isNone then .ready else .done)→bv=j.isNone→some (V.bool bv,sput s3 d l (.loop ps3 A3 B3 env3 st pend))=some (v,s')→
         ∃v' w',(Instr.endRound b j).run P w2= .ok v' w'∧CPost (KP P) s w γ v s' (.returned v') w':=by
         intro st pend bv j hj hst hbv hv
         cases hv
         obtain⟨y1,y2⟩:=loop_turn hS3 hg3 hg3' z2 st pend (r':= {r3 with state:=if j.isNone then .ready else .done,pending:=j}) (by rw[hst,hj])
         refine⟨_,_,run_endRound j z2,_,_,rfl,?_,y1,xpop.trans (y2.mono (by omega)),by rw[sput_length];exact l3⟩
         rw[hbv];exact .bool _
        cases ex with
        |normal=>exact fin .ready none true none rfl rfl rfl h
        |exit id=>exact fin .done (some (.exit id)) false (some (.exit id)) rfl rfl rfl h
        |ret=>exact fin .done (some .ret) false (some .ret) rfl rfl rfl h
       ·cases h
     ·cases h
    ·cases h
   ·cases h
  ·cases h
 ·cases h
theorem wpIn_code {F:Fence} {n:Nat} {Q:Exit→Act→World→Prop}(ex:Ex)(h:Q ex.out a w):ex.code.wpIn F n P Q a w:=by
 cases ex with
 |normal=>exact wpIn_skip h
 |exit id=>exact wpIn_exit h
 |ret=>exact wpIn_ret h
theorem rng_ok {X:Exec}(hst:StatOk (KP P) P T X) {g:Operand} {ps:Array Tmp} {assign body:Code} {f:Opd}(hf:copd g=some f) {A B:AC} {ann1 ann1' ann2 ann2':Ann}(hcA:comp P N assign ann1=some (A,ann1'))(hcB:comp P N body ann2=some (B,ann2'))
 (nA:noRng assign=true) (nB:noRng body=true) (hps: ∀t∈ps.toList,t<N) {site:Nat} {ex:Ex} {e':Env} {s':Stk} (h:step T X (.rng site ps.toList A B f) e s=some (ex,e',s')) {F:Fence} (hF:Wide F) (hro:F.round=none) {n:Nat} (hp:Pre P N w0 e s a w γ):
 (Code.rangeFunc g ps assign body).wpIn F n P (CodePost (KP P) N w0 (dep s) s.length w γ ex e' s') a w:=by
 simp only[step]at h
 split at h
 ·rename_i hc
  obtain⟨hn,hs⟩:=hc
  split at h
  ·rename_i gf first cap hfe
   split at h
   ·rename_i v s1 hen
    have hg:=hp.env.opd hf
    rw[hfe]at hg
    cases hgv:a.eval g with
    |func fn us ws=>
      rw[hgv]at hg
      cases hg with
      |fn _ _ _ _ _ e1 e2 k1 k2=>
        have la:LR s.length w γ first us.toList:=⟨by simpa using e1,fun i v u hv hu=>k1 i v u hv (by simpa using hu)⟩
        have lb:LR s.length w γ cap ws.toList:=⟨by simpa using e2,fun i v u hv hu=>k2 i v u hv (by simpa using hu)⟩
        refine wpIn_rangeFunc fun fn _=> ?_
        rw[hro]
        have hn':sget s (dep s) (16*site+7)=none:=by simpa using hn
        have hd:=dep_succ hs
        obtain⟨r,hr⟩: ∃r:Loop,r= {state:= .ready,pending:=none,fn,tmps:=a.tmps,params:=ps,assign,body,defers:=w.heap.size}:=⟨_,rfl⟩
        obtain⟨w1,hw1⟩: ∃w1,w1=(w.alloc (.deferred (some []))).alloc (.loop r):=⟨_,rfl⟩
        obtain⟨γ1,hγ1⟩: ∃γ1,γ1=γ.set (dep s) (16*site+7) (.obj (w.heap.size+1)):=⟨_,rfl⟩
        have x0:Ext s.length w γ w γ1:=by rw[hγ1];exact Ext.name _ w γ (hp.stk.none _ _ hn') (fun b off h=>by simp[GE.owns]at h;omega)
        have x1:Ext s.length w γ w1 γ1:=by
         rw[hw1]
         refine(x0.trans (Ext.alloc _ w γ1 _ (by rw[hγ1];exact hp.stk.frn_set _ _ _))).trans (Ext.alloc _ _ γ1 _ ?_)
         intro l g b h1 h2
         have:=hp.stk.frn_set (dep s) (16*site+7) (.obj (w.heap.size+1)) l g b (by rw[←hγ1];exact h1) h2
         simp;omega
        have hblk:w1.heap[w.heap.size+1]? =some (.loop r):=by
         rw[hw1];have:=World.alloc_heap_new (w.alloc (.deferred (some []))) (.loop r);rwa [World.size_alloc]at this
        have hmark:w1.heap[w.heap.size]? =some (.deferred (some [])):=by
         rw[hw1];exact(heap_alloc_old _ _ _ (by simp)).trans (World.alloc_heap_new w _)
        have hold: ∀b,b<w.heap.size→w1.heap[b]? =w.heap[b]? :=fun b hb=>by
         rw[hw1];exact(heap_alloc_old _ _ _ (by simp;omega)).trans (heap_alloc_old _ _ _ hb)
        have hsame:γ1 (dep s) (16*site+7)=some (.obj (w.heap.size+1)):=by rw[hγ1,G.set_same]
        have hS1:SR (KP P) (sput s (dep s) (16*site+7) (.loop ps.toList A B e .ready none)) w1 γ1:=by
         refine hp.stk.step (by omega) x1 hγ1 ⟨w.heap.size+1,r,hsame,hblk,?_,fun t=> ?_,?_⟩ ?_ ?_
         ·rw[hr];exact⟨rfl,⟨_,_,by rw[hp.size];exact hcA⟩,⟨_,_,by rw[hp.size];exact hcB⟩,nA,nB,by rw[hp.size];exact hps⟩
         ·rw[hd,hr];exact(hp.env t).ext x1
         ·rw[hr];exact⟨rfl,rfl⟩
         ·intro d' l' g' b _ hg' hb
          exact hold b (hp.stk.blk_lt hg' hb)
         ·intro b hb d' l' g' _ hg' hb'
          simp[GE.blk]at hb
          have:=hp.stk.blk_lt hg' hb'
          omega
        have hlr:LR (sput s (dep s) (16*site+7) (.loop ps.toList A B e .ready none)).length w1 γ1 (first ++[.yld (dep s) (16*site+7)] ++cap) (us ++ #[Value.func (.yield (w.heap.size+1)) #[] #[]] ++ws).toList:=by
         rw[sput_length]
         have:=((la.ext x1).append (LR.cons (.yld (dep s) (16*site+7) (w.heap.size+1) (by omega) hsame) LR.nil)).append (lb.ext x1)
         simpa using this
        obtain⟨hent,hcall⟩:=hst gf _ 0 _ v s1 hen
        have hcall:=hcall w1 γ1 _ hlr hS1
        rw[Array.toArray_toList]at hcall
        refine⟨w.heap.size+1,[{target:= .collected w.heap.size,args:= #[]}],w1,{target:= .fn (.func gf) ws,args:=us ++ #[.func (.yield (w.heap.size+1)) #[] #[]]},w1,gf,us ++ #[.func (.yield (w.heap.size+1)) #[] #[]] ++ws,w1,?_,?_,?_,?_,?_,?_⟩
        ·rw[hw1,hr];exact run_enterLoop_outer _ _ _ _ _
        ·simp only[resolve,hgv,Deferred.ofValue,Sem.run_pure]
         simp[Act.eval]
        ·intro f' _;exact hF.fn f'
        ·simp only[invoke]
         exact hent _ w1
        ·intro hx;rw[hF.depth]at hx;cases hx
        ·refine(hF.calls hcall).mono ?_
         rintro en w3 ⟨u,γ3,rfl,_,hS3,x3,l3⟩
         rw[sput_length]at x3 l3
         have ho3:=x3.obj (dep s) (16*site+7) (w.heap.size+1) (by omega) hsame
         have mk1:Marks w0 γ1 ({target:= .collected w.heap.size,args:= #[]}::a.defers) w1:=by
          have hm:=hp.marks.ext x1
          refine⟨?_,fun d hd'=> ?_⟩
          ·simp only[List.map_cons,List.nodup_cons]
           refine⟨fun hin=> ?_,hm.1⟩
           obtain⟨d,hd1,hd2⟩:=List.mem_map.1 hin
           obtain⟨q,hq1,_,hq3,_⟩:=hp.marks.2 d hd1
           rw[hq1]at hd2;cases hd2
           have:=(Array.getElem?_eq_some_iff.1 hq3).1
           omega
          ·cases hd' with
           |head=>
             refine⟨w.heap.size,rfl,hp.w0,hmark,fun off ho=> ?_⟩
             rw[hγ1]at ho
             rcases own_set ho with h1|⟨d',l',g',h1,h2⟩
             ·simp[GE.owns]at h1
             ·have:=hp.stk.blk_lt h1 (GE.owns_blk h2);omega
           |tail _ h'=>exact hm.2 d h'
         have fin: ∀(ps':List Nat) (A' B':AC) (env:Env) (st:LoopState) (pend:Option Ex),sget s1 (dep s) (16*site+7)=some (.loop ps' A' B' env st pend)→st≠ .busy→ex=pend.getD .normal→e'=e→s'=sput s1 (dep s) (16*site+7) (.loop ps' A' B' [] .exhausted pend)→
          rangePost F n P (w.heap.size+1) (CodePost (KP P) N w0 (dep s) s.length w γ ex e' s') {a with defers:=[{target:= .collected w.heap.size,args:= #[]}] ++a.defers} (.returned u) w3:=by
          intro ps' A' B' env st pend hg' hst hex he hs'
          obtain⟨b,q,z1,z2,z3,z4,z5,z6⟩:=hS3.loop hg'
          rw[ho3]at z1;cases z1
          refine⟨q.pending,_,run_endLoop z2 (by rw[z5];exact hst),?_⟩
          obtain⟨y1,y2⟩:=loop_turn_e hS3 hg' ho3 z2 .exhausted pend (r':= {q with state:= .exhausted}) (by cases q;simp_all) (env':=[]) (fun _=> .inr rfl)
          have xall:Ext s.length w γ (w3.putObj (w.heap.size+1) (.loop {q with state:= .exhausted})) γ3:=(x1.trans x3).trans (y2.mono (by omega))
          have post:CodePost (KP P) N w0 (dep s) s.length w γ ex e' s' ex.out {a with defers:=[{target:= .collected w.heap.size,args:= #[]}] ++a.defers} (w3.putObj (w.heap.size+1) (.loop {q with state:= .exhausted})):=by
           refine⟨rfl,γ3,hp.size,?_,by rw[hs'];exact y1,xall.mono (by omega),by rw[hs',sput_length,l3],(mk1.ext x3).ext y2⟩
           rw[he,hs',sput_length,l3]
           exact fun t=>(hp.env t).ext xall
          clear y1 y2 xall
          generalize w3.putObj (w.heap.size+1) (.loop {q with state:= .exhausted})=W4 at post⊢
          rw[z6]
          cases pend with
          |none=>simp only[Option.getD_none]at hex;subst hex;exact post
          |some x=>
            simp only[Option.getD_some]at hex;subst hex
            exact wpIn_code ex post
         split at h
         ·rename_i ps' A' B' env hg'
          simp only[Option.some.injEq,Prod.mk.injEq]at h
          obtain⟨h1,h2,h3⟩:=h
          exact fin _ _ _ _ _ _ hg' (by simp) h1.symm h2.symm h3.symm
         ·rename_i ps' A' B' env x hg'
          simp only[Option.some.injEq,Prod.mk.injEq]at h
          obtain⟨h1,h2,h3⟩:=h
          exact fin _ _ _ _ _ _ hg' (by simp) h1.symm h2.symm h3.symm
         ·cases h
    |_=>rw[hgv]at hg;cases hg
   ·cases h
  ·cases h
 ·cases h
def Exit.noGoto'(Q:Exit→Act→World→Prop):Exit→Act→World→Prop
 | .goto _,_,_=>False
 |e,a,w=>Q e a w
theorem stepR_scope {b:Frame} {k:List Item} {cs:List Frame} {c:Code}:Go.step P (lone (b.atR a (.code (.scope c)::k)) cs w)= .next (lone (b.atR a (.code c:: .inScope c::k)) cs w):=
 step_lone_go (by simp[stepG,stepG.exec,Frame.atR])
theorem stepR_inScope {b:Frame} {k:List Item} {cs:List Frame} {c:Code}:Go.step P (lone (b.atR a (.inScope c::k)) cs w)= .next (lone (b.atR a k) cs w):=
 step_lone_go (by simp[stepG,stepG.exec,Frame.atR])
theorem wpIn_scope {F:Fence} {n:Nat} {Q:Exit→Act→World→Prop} {c:Code}(h:c.wpIn F n P (Exit.noGoto' Q) a w):(Code.scope c).wpIn F n P Q a w:=by
 intro b k cs hro hb hr
 have h0:(lone (b.atR a (.code (.scope c)::k)) cs w).fenced P F:=fenced_calm hb hr rfl
 obtain⟨e,a₁,w₁,hq,harr⟩:=h b (.inScope c::k) cs hro hb hr
 cases e with
 |normal=>exact⟨.normal,a₁,w₁,hq, .head h0 stepR_scope (StepsIn.trans harr (.one (fenced_calm hb hr rfl) stepR_inScope))⟩
 |exit id'=>
   have hx:exitTo id' (.inScope c::k)=exitTo id' k:=by simp[exitTo]
   exact⟨.exit id',a₁,w₁,hq,fun k' hk=> .head h0 stepR_scope (harr.1 k' (by rw[hx];exact hk)),
    fun hr' hk=>let ⟨k₁,h1,h2⟩:=harr.2 hr' (by rw[hx];exact hk);⟨k₁,h1, .head h0 stepR_scope h2⟩⟩
 |goto l=>exact hq.elim
 |ret=>exact⟨_,a₁,w₁,hq, .of_steps (.one h0 stepR_scope) harr⟩
 |panic ch=>exact⟨_,a₁,w₁,hq, .of_steps (.one h0 stepR_scope) harr⟩
 |outgrown=>exact⟨_,a₁,w₁,hq, .of_steps (.one h0 stepR_scope) harr⟩
end
end Go.Ab

/-
  'exec' is right: the whole, but regions that draw.
-/
namespace Go.Ab
section
variable {P : Program} {T : Tab}
theorem CodePost.then {N w0 D L:Nat} {w:World} {γ:G} {ex:Ex} {e':Env} {s':Stk} {Q:Exit→Act→World→Prop} {K:Act→World→Prop} {x:Exit} {a':Act} {w':World}(h:CodePost (KP P) N w0 D L w γ ex e' s' x a' w')(hne:ex≠ .normal)(hQ:Q x a' w'):Exit.then K Q x a' w':=by
 have hx:=h.1
 cases ex with
 |normal=>exact absurd rfl hne
 |exit id=>subst hx;exact hQ
 |ret=>subst hx;exact hQ
theorem code_ok(tab:TabOk P T)(hd: ∀X,StatOk (KP P) P T X→YldOk (KP P) P T X→DrawOk P T X): ∀n,CodeOk P (exec T n):=by
 intro n
 induction n using Nat.strongRecOn with
 |_ k ih=>
 intro N c ann ac ann' hc e s ex e' s' h F hF hro n w0 w γ a hp
 cases c with
 |skip=>
   simp only[comp,Option.some.injEq,Prod.mk.injEq]at hc
   obtain⟨rfl,_⟩:=hc
   cases k with
   |zero=>cases h
   |succ k=>
     simp only[exec,step,Option.some.injEq,Prod.mk.injEq]at h
     obtain⟨rfl,rfl,rfl⟩:=h
     exact wpIn_skip (hp.post (Ext.refl _ _ _) rfl .normal)
 |label l=>
   simp only[comp,Option.some.injEq,Prod.mk.injEq]at hc
   obtain⟨rfl,_⟩:=hc
   cases k with
   |zero=>cases h
   |succ k=>
     simp only[exec,step,Option.some.injEq,Prod.mk.injEq]at h
     obtain⟨rfl,rfl,rfl⟩:=h
     exact wpIn_label (hp.post (Ext.refl _ _ _) rfl .normal)
 |exit id=>
   simp only[comp,Option.some.injEq,Prod.mk.injEq]at hc
   obtain⟨rfl,_⟩:=hc
   cases k with
   |zero=>cases h
   |succ k=>
     simp only[exec,step,Option.some.injEq,Prod.mk.injEq]at h
     obtain⟨rfl,rfl,rfl⟩:=h
     exact wpIn_exit (hp.post (Ext.refl _ _ _) rfl (.exit id))
 |ret=>
   simp only[comp,Option.some.injEq,Prod.mk.injEq]at hc
   obtain⟨rfl,_⟩:=hc
   cases k with
   |zero=>cases h
   |succ k=>
     simp only[exec,step,Option.some.injEq,Prod.mk.injEq]at h
     obtain⟨rfl,rfl,rfl⟩:=h
     exact wpIn_ret (hp.post (Ext.refl _ _ _) rfl .ret)
 |goto l=>simp[comp]at hc
 |refuse m=>simp[comp]at hc
 |region id ops d=>
   simp only[comp]at hc
   split at hc
   ·rename_i live lr hlive
    split at hc
    ·rename_i als hals
     cases d with
     |true=>
       simp only[if_true]at hc
       split at hc
       ·rename_i hpr
        simp only[Option.some.injEq,Prod.mk.injEq]at hc
        obtain⟨rfl,_⟩:=hc
        obtain⟨e1,s1,m,γ1,hm,h1,hp1,x1,l1⟩:=frozen_ok h hp
        cases m with
        |zero=>cases h1
        |succ m=>
          simp only[exec,step]at h1
          have hI:=ih m (by omega)
          have:=hd _ (stat_of_code tab hI) (yld_of_code hI) N id ops _ _ als live hals hpr _ _ _ _ _ h1 F hF n w0 w γ1 a hp1
          have hdep:dep s1=dep s:=by simp[dep,l1]
          rw[hdep,l1]at this
          exact wpIn_mono this fun x a1 w1 hq=>hq.weak x1
       ·cases hc
     |false=>
       simp only[Bool.false_eq_true,if_false,Option.some.injEq,Prod.mk.injEq]at hc
       obtain⟨rfl,_⟩:=hc
       obtain⟨e1,s1,m,γ1,hm,h1,hp1,x1,l1⟩:=frozen_ok h hp
       cases m with
       |zero=>cases h1
       |succ m=>
         simp only[exec,step]at h1
         split at h1
         ·rename_i e2 s2 h2
          simp only[Option.some.injEq,Prod.mk.injEq]at h1
          obtain⟨rfl,rfl,rfl⟩:=h1
          have hI:=ih m (by omega)
          refine region_sound rfl (live:=live) (stat_of_code tab hI) (yld_of_code hI) hF hals h2 hp1.ne hp1.size hp1.env hp1.stk fun a' w' γ' st hl hdf=> ?_
          have hds:=dep_succ hp1.ne
          have hdep:dep s1=dep s:=by simp[dep,l1]
          exact⟨rfl,γ',st.size,st.env,st.stk,x1.trans (st.ext.mono (by omega)),by rw[hl,l1],by rw[hdf];exact hp1.marks.ext st.ext⟩
         ·cases h1
    ·cases hc
   ·cases hc
 |seq x y=>
   simp only[comp]at hc
   split at hc
   ·rename_i x' a1 hcx
    split at hc
    ·rename_i y' a2 hcy
     simp only[Option.some.injEq,Prod.mk.injEq]at hc
     obtain⟨hc,_⟩:=hc
     rcases mkSeq_cases x' y' with e0|⟨d,ops,live,tk,z,rfl,hz,e0⟩
     rotate_left
     ·rw[e0]at hc
      subst hc
      obtain⟨r0,c0,x0,y0,am,an,rfl,g1,g2,g3,g4⟩:=comp_seq_inv hz hcx
      cases k with
      |zero=>cases h
      |succ k=>
        have rr:F.round=none∨noRng r0=true:=hro.imp (fun h=>h) fun h=>by simp only[noRng,Bool.and_eq_true]at h;exact h.1.1
        have r1:F.round=none∨noRng x0=true:=hro.imp (fun h=>h) fun h=>by simp only[noRng,Bool.and_eq_true]at h;exact h.1.2.1
        have r2:F.round=none∨noRng y0=true:=hro.imp (fun h=>h) fun h=>by simp only[noRng,Bool.and_eq_true]at h;exact h.1.2.2
        have ry:F.round=none∨noRng y=true:=hro.imp (fun h=>h) fun h=>by simp only[noRng,Bool.and_eq_true]at h;exact h.2
        have retOf: ∀ {p:Nat} {e1:Env} {s1:Stk},exec T (p+1) (.only z) e1 s1=some (ex,e',s')→exec T p z e1 s1=some (ex,e',s')∧ex= .ret:=by
         intro p e1 s1 h
         simp only[exec,step,onlyRet]at h
         split at h
         ·rename_i e2 s2 h2
          simp only[Option.some.injEq,Prod.mk.injEq]at h
          obtain⟨rfl,rfl,rfl⟩:=h
          exact⟨h2,rfl⟩
         ·cases h
        simp only[exec,step]at h
        split at h
        ·rename_i e1 s1 h1
         refine wpIn_seq (wpIn_seq (wpIn_mono (ih k (by omega) _ _ _ _ _ g1 _ _ _ _ _ h1 F hF rr n w0 w γ a hp) fun q a1 w1 hq=> ?_))
         obtain⟨γ1,q1,q2,q3,q4⟩:=hq.pre hp.len hp.w0
         subst q4
         show(Code.cond c0 x0 y0).wpIn F n P _ a1 w1
         have hdep:dep s1=dep s:=by simp[dep,q3]
         have hv:=q1.env.opd g2
         have goRet: ∀ {p:Nat},p<k+1→a1.eval c0= .bool true→exec T p z e1 s1=some (ex,e',s')∧ex= .ret→(Code.cond c0 x0 y0).wpIn F n P (Exit.then (fun a' w'=>y.wpIn F n P (CodePost (KP P) N w0 (dep s) s.length w γ ex e' s') a' w') (CodePost (KP P) N w0 (dep s) s.length w γ ex e' s')) a1 w1:=by
          intro p hp2 hb ⟨hx,hret⟩
          subst hret
          have:=ih p hp2 _ _ _ _ _ g3 _ _ _ _ _ hx F hF r1 n w0 w1 γ1 a1 q1
          rw[hdep,q3]at this
          refine wpIn_cond_true hb (wpIn_mono this fun q a2 w2 hq2=> ?_)
          exact(hq2.weak q2).then (by intro h;cases h) (hq2.weak q2)
         have goOn: ∀ {p:Nat},p<k+1→0<k→a1.eval c0= .bool false→exec T p y' e1 s1=some (ex,e',s')→(Code.cond c0 x0 y0).wpIn F n P (Exit.then (fun a' w'=>y.wpIn F n P (CodePost (KP P) N w0 (dep s) s.length w γ ex e' s') a' w') (CodePost (KP P) N w0 (dep s) s.length w γ ex e' s')) a1 w1:=by
          intro p hp2 hk0 hb hx
          have hs:exec T 1 .skip e1 s1=some (.normal,e1,s1):=by simp only[exec,step]
          have:=ih 1 (by omega) _ _ _ _ _ g4 _ _ _ _ _ hs F hF r2 n w0 w1 γ1 a1 q1
          rw[hdep,q3]at this
          refine wpIn_cond_false hb (wpIn_mono this fun q a2 w2 hq2=> ?_)
          obtain⟨γ2,u1,u2,u3,u4⟩:=(hq2.weak q2).pre hp.len hp.w0
          subst u4
          show y.wpIn F n P _ a2 w2
          have hy:=ih p hp2 _ _ _ _ _ hcy _ _ _ _ _ hx F hF ry n w0 w2 γ2 a2 u1
          rw[hdep,q3]at hy
          exact wpIn_mono hy fun q a3 w3 hq3=>hq3.weak u2
         have eqv: ∀ {Q:Exit→Act→World→Prop},(Code.cond c0 x0 y0).wpIn F n P Q a1 w1→(Code.cond c0 x0 y0).wpIn F n P Q a1 w1:=fun h=>h
         refine wpIn_mono (Q:=Exit.then (fun a' w'=>y.wpIn F n P (CodePost (KP P) N w0 (dep s) s.length w γ ex e' s') a' w') (CodePost (KP P) N w0 (dep s) s.length w γ ex e' s')) ?_ fun q a2 w2 hq=>hq
         cases k with
         |zero=>cases h
         |succ m=>
           simp only[exec,step]at h
           split at h
           ·rename_i hb
            rw[hb]at hv
            cases m with
            |zero=>cases h
            |succ p=>exact goRet (p:=p) (by omega) hv.bool_inv (retOf h)
           ·rename_i hb
            rw[hb]at hv
            exact goOn (p:=m) (by omega) (by omega) hv.bool_inv h
           ·rename_i hb
            rw[hb]at hv
            split at h
            ·rename_i t1 t2 k1 k2
             split at h
             ·rename_i he
              subst he
              cases h
              generalize hu:a1.eval c0=u at hv
              cases hv with
              |anyb b=>
                cases b
                ·exact goOn (p:=m) (by omega) (by omega) hu k2
                ·cases m with
                 |zero=>cases k1
                 |succ p=>exact goRet (p:=p) (by omega) hu (retOf k1)
             ·cases h
            ·cases h
           ·cases h
        ·rename_i h1
         refine wpIn_seq (wpIn_seq (wpIn_mono (ih k (by omega) _ _ _ _ _ g1 _ _ _ _ _ h F hF rr n w0 w γ a hp) fun q a1 w1 hq=>hq.then (fun e0=> ?_) (hq.then (fun e0=> ?_) hq)))
         ·subst e0;exact h1 _ _ h
         ·subst e0;exact h1 _ _ h
     rw[e0]at hc
     subst hc
     cases k with
     |zero=>cases h
     |succ k=>
       have hI:=ih k (by omega)
       have rx:F.round=none∨noRng x=true:=hro.imp (fun h=>h) fun h=>by simp only[noRng,Bool.and_eq_true]at h;exact h.1
       have ry:F.round=none∨noRng y=true:=hro.imp (fun h=>h) fun h=>by simp only[noRng,Bool.and_eq_true]at h;exact h.2
       simp only[exec,step]at h
       split at h
       ·rename_i e1 s1 h1
        refine wpIn_seq (wpIn_mono (hI _ _ _ _ _ hcx _ _ _ _ _ h1 F hF rx n w0 w γ a hp) fun z a1 w1 hq=> ?_)
        obtain⟨γ1,q1,q2,q3,q4⟩:=hq.pre hp.len hp.w0
        subst q4
        show y.wpIn F n P _ a1 w1
        have:=hI _ _ _ _ _ hcy _ _ _ _ _ h F hF ry n w0 w1 γ1 a1 q1
        have hdep:dep s1=dep s:=by simp[dep,q3]
        rw[hdep,q3]at this
        exact wpIn_mono this fun z a2 w2 hq2=>hq2.weak q2
       ·rename_i h1
        refine wpIn_seq (wpIn_mono (hI _ _ _ _ _ hcx _ _ _ _ _ h F hF rx n w0 w γ a hp) fun z a1 w1 hq=>hq.then (fun e0=> ?_) hq)
        subst e0
        exact h1 _ _ h
    ·cases hc
   ·cases hc
 |cond c x y=>
   simp only[comp]at hc
   split at hc
   ·rename_i c' x' a1 hcc hcx
    split at hc
    ·rename_i y' a2 hcy
     simp only[Option.some.injEq,Prod.mk.injEq]at hc
     obtain⟨rfl,_⟩:=hc
     cases k with
     |zero=>cases h
     |succ k=>
       have hI:=ih k (by omega)
       have rx:F.round=none∨noRng x=true:=hro.imp (fun h=>h) fun h=>by simp only[noRng,Bool.and_eq_true]at h;exact h.1
       have ry:F.round=none∨noRng y=true:=hro.imp (fun h=>h) fun h=>by simp only[noRng,Bool.and_eq_true]at h;exact h.2
       have hv:=hp.env.opd hcc
       simp only[exec,step]at h
       split at h
       ·rename_i hb
        rw[hb]at hv
        exact wpIn_cond_true hv.bool_inv (hI _ _ _ _ _ hcx _ _ _ _ _ h F hF rx n w0 w γ a hp)
       ·rename_i hb
        rw[hb]at hv
        exact wpIn_cond_false hv.bool_inv (hI _ _ _ _ _ hcy _ _ _ _ _ h F hF ry n w0 w γ a hp)
       ·rename_i hb
        rw[hb]at hv
        split at h
        ·rename_i r1 r2 k1 k2
         split at h
         ·rename_i he
          subst he
          cases h
          generalize hu:a.eval c=u at hv
          cases hv with
          |anyb b=>
            cases b
            ·exact wpIn_cond_false hu (hI _ _ _ _ _ hcy _ _ _ _ _ k2 F hF ry n w0 w γ a hp)
            ·exact wpIn_cond_true hu (hI _ _ _ _ _ hcx _ _ _ _ _ k1 F hF rx n w0 w γ a hp)
         ·cases h
        ·cases h
       ·cases h
    ·cases hc
   ·cases hc
 |block id b=>
   simp only[comp]at hc
   split at hc
   ·rename_i b' a1 hcb
    simp only[Option.some.injEq,Prod.mk.injEq]at hc
    obtain⟨rfl,_⟩:=hc
    cases k with
    |zero=>cases h
    |succ k=>
      have hI:=ih k (by omega)
      have rb:F.round=none∨noRng b=true:=hro.imp (fun h=>h) fun h=>by simpa only[noRng]using h
      simp only[exec,step]at h
      split at h
      ·rename_i j e1 s1 h1
       simp only[Option.some.injEq,Prod.mk.injEq]at h
       obtain⟨rfl,rfl,rfl⟩:=h
       refine wpIn_block (wpIn_mono (hI _ _ _ _ _ hcb _ _ _ _ _ h1 F hF rb n w0 w γ a hp) fun z a1 w1 hq=> ?_)
       obtain⟨hz,hq⟩:=hq
       subst hz
       show Exit.inBlock id _ (.exit j) a1 w1
       simp only[Exit.inBlock]
       split
       ·rename_i hj;exact⟨rfl,hq⟩
       ·rename_i hj;exact⟨rfl,hq⟩
      ·rename_i h1
       refine wpIn_block (wpIn_mono (hI _ _ _ _ _ hcb _ _ _ _ _ h F hF rb n w0 w γ a hp) fun z a1 w1 hq=> ?_)
       have hz:=hq.1
       cases ex with
       |exit j=>exact absurd h (h1 _ _ _)
       |normal=>subst hz;exact hq
       |ret=>subst hz;exact hq
   ·cases hc
 |loop b=>
   simp only[comp]at hc
   split at hc
   ·rename_i la lr hla
    split at hc
    ·rename_i b' a1 hcb
     simp only[Option.some.injEq,Prod.mk.injEq]at hc
     obtain⟨rfl,_⟩:=hc
     have rb:F.round=none∨noRng b=true:=hro.imp (fun h=>h) fun h=>by simpa only[noRng]using h
     obtain⟨e1,s1,m,γ1,hm,h1,hp1,x1,l1⟩:=ghosts_ok la.gs h hp
     exact wpIn_loop_rounds m (loop_ok hcb hF rb hp.w0 m (fun j hj=>ih j (by omega)) h1 hp1 x1 (by simp[dep,l1]) l1)
    ·cases hc
   ·cases hc
 |scope b=>
   simp only[comp]at hc
   split at hc
   ·rename_i b' a1 hcb
    simp only[Option.some.injEq,Prod.mk.injEq]at hc
    obtain⟨rfl,_⟩:=hc
    cases k with
    |zero=>cases h
    |succ k=>
      have hI:=ih k (by omega)
      have rb:F.round=none∨noRng b=true:=hro.imp (fun h=>h) fun h=>by simpa only[noRng]using h
      simp only[exec,step]at h
      refine wpIn_scope (wpIn_mono (hI _ _ _ _ _ hcb _ _ _ _ _ h F hF rb n w0 w γ a hp) fun z a1 w1 hq=> ?_)
      have hz:=hq.1
      cases ex<;>(subst hz;exact hq)
   ·cases hc
 |rangeFunc f ps assign body=>
   simp only[comp]at hc
   split at hc
   ·rename_i site sr hsite
    split at hc
    ·rename_i f' A a1 hcf hcA
     split at hc
     ·rename_i B a2 hcB
      split at hc
      ·rename_i hcond
       simp only[Option.some.injEq,Prod.mk.injEq]at hc
       obtain⟨rfl,_⟩:=hc
       simp only[Bool.and_eq_true]at hcond
       cases k with
       |zero=>cases h
       |succ k=>
         have hI:=ih k (by omega)
         have hr0:F.round=none:=by
          rcases hro with h|h
          ·exact h
          ·simp[noRng]at h
         exact rng_ok (stat_of_code tab hI) hcf hcA hcB hcond.1.1 hcond.1.2 (fun t ht=>by have:=List.all_eq_true.1 hcond.2 t ht;simpa using this) h hF hr0 hp
      ·cases hc
     ·cases hc
    ·cases hc
   ·cases hc
end
end Go.Ab
