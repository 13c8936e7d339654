/- The layer of own lemmas and contracts, part 2. -/
import Derived.Test.YtpehlicnhjoknacGreatDoorP1
import Derived.Lib.AppendStr
import Derived.Laws.StructEq
import Derived.MapKept
import Derived.OrdersIn
import Derived.RangeFuncLeaves
import Derived.RangeFuncSeq
set_option linter.unusedVariables false
set_option linter.unusedSimpArgs false
namespace Go.Ide
open Go.RowKit
def a0z (C:Ctx)(f:Nat)(args:List D)(H:Hp)(n:Nat)(Φ:D->Hp->Nat->Prop):Prop :=
 a3E C.P f/\∀ (F:Fra) (ρ:Lk) (w:World) (vs:Array Value),Mem C F ρ H w->a9S ρ n->(∀ e∈H,e.g<n)->vs.size=args.length ->
  (∀ (i:Nat) (d:D),args[i]? = some d->Rep ρ (Own F.X ρ H) w d (vs.getD i undef)) ->
  Calls C.P f vs w (fun e w'=>∃ v d H' n' ρ',e=.returned v/\Φ d H' n'/\Mem C F ρ' H' w'/\Ext ρ (Own F.X ρ H) w ρ' (Own F.X ρ' H') w'/\a9S ρ' n'/\(∀ e∈H',e.g<n') /\
   Rep ρ' (Own F.X ρ' H') w' d v)
def Fra.sub (F:Fra)(ρ:Lk)(H:Hp)(w:World)(nt:Nat):Fra:=⟨w,F.X,fun b=>∃ e∈H,ρ e.k e.g=some b,nt,ρ,[]⟩
section
variable {C:Ctx} {F:Fra} {ρ:Lk} {H:Hp} {w:World}
theorem Mem.enter (m:Mem C F ρ H w)(nt:Nat):Mem C (F.sub ρ H w nt) ρ H w where
 hok:=⟨m.hok.ent,m.hok.inj,fun e he b hb=>⟨(m.hok.own e he b hb).1,.inr ⟨e,he,hb⟩⟩⟩
 os:=rfl
 tape:=rfl
 output:=rfl
 size:=d9y _
 blk:=fun _ _ _=>rfl
 xlt:=fun b hb=>e0a (m.xlt b hb) m.size
 g0:=m.g
 gn:=d9V m.gn m.size
 gw:=fun b ⟨e,he,hb⟩=>by
  rcases (m.hok.own e he b hb).2 with h|h
  ·exact d9V m.gn h
  ·exact m.gw b h
 lnk:=fun _ _ _ h=>h
 shp:=fun _ cs _ _ h=>⟨cs,_,h,rfl⟩
theorem Mem.leave {nt:Nat}{ρ':Lk}{H':Hp}{w':World}(m:Mem C F ρ H w)(m':Mem C (F.sub ρ H w nt) ρ' H' w') :
  Mem C F ρ' H' w'/\Ext ρ (Own F.X ρ H) w ρ' (Own F.X ρ' H') w':=by
 have hwr:∀ b,(∃ e∈H,ρ e.k e.g=some b)->¬ F.X b/\(F.w0.heap.size<=b\/F.Wr b):=fun b ⟨e,he,hb⟩=>m.hok.own e he b hb
 have x:Ext ρ (Own F.X ρ H) w ρ' (Own F.X ρ' H') w':=by
  refine ⟨m'.size,m'.lnk,fun b hb hO=>⟨?_,m'.blk b hb fun h=>hO (.inr h)⟩,m'.shp⟩;rintro (h|⟨e,he,h⟩)
  ·exact hO (.inl h)
  ·rcases (m'.hok.own e he b h).2 with h'|h'
   ·exact d9n hb (Nat.not_lt.2 h')
   ·exact hO (.inr h')
 refine ⟨⟨⟨m'.hok.ent,m'.hok.inj,fun e he b hb=>?_⟩,m'.os.trans m.os,m'.tape.trans m.tape,m'.output.trans m.output,d9V m.size m'.size,fun b hb hw=>?_,m.xlt,m.g0,m.gn,m.gw,
  fun _ _ _ h=>m'.lnk _ _ _ (m.lnk _ _ _ h),a3W m.shp x⟩,x⟩
 ·have h:=m'.hok.own e he b hb
  refine ⟨h.1,?_⟩;rcases h.2 with h'|h'
  ·exact .inl (d9V m.size h')
  ·exact (hwr b h').2
 ·have h1:=m'.blk b (e0a hb m.size) fun h=>by
   rcases (hwr b h).2 with h'|h'
   ·omega
   ·exact hw h'
  exact h1.trans (m.blk b hb hw)
end
def d3T (tt:Nat->Option a0n)(rs:List ResultVar)(Φ:D->Hp->Nat->Prop):Exit->St->Prop:=fun e s =>
 (e=.normal\/e=.ret)/\∃ d p,c0T tt s rs=some (d,p)/\p/\Φ d s.H s.n
section
variable {C:Ctx} {F:Fra} {s:St} {ops:Array Oper} {o:Oper} {os:List Oper} {K:St->Prop}
theorem a8r {ρ:Lk}{O:Nat->Prop}{w:World}{args:List D}{vs:Array Value}{nt:Nat}(hvs:vs.size=args.length)(hr:∀ (i:Nat) (d:D),args[i]? = some d->Rep ρ O w d (vs.getD i undef))(t:Nat) :
  Rep ρ O w ((a1n 0 args).get t) ((vs++Array.replicate (nt - vs.size) undef).getD t undef):=by
 rw [a6Q,d9l (d9U _),Nat.sub_zero];cases ha:args[t]? with
 | none=>exact .any _
 | some d =>
  have ht:t<args.length:=(List.getElem?_eq_some_iff.1 ha).1
  have:(vs++Array.replicate (nt - vs.size) undef).getD t undef=vs.getD t undef:=by
   simp only [d9o];rw [e0F (by omega)]
  rw [this];exact hr t d ha
theorem a0z.intro {f:Nat}{fn:Func}{c:Code}{args:List D}{H:Hp}{n:Nat}{Φ:D->Hp->Nat->Prop}{tt:Nat->Option a0n}(htt:Tab C.P tt)(hf:C.P.funcs[f]? = some fn)(hb:fn.body=some c)
  (hn:(fn.name == "runtime.NumGoroutine")=false) (hd:a0O fn.ntmps c=true) (hnt:Nat.ble args.length fn.ntmps=true)
  (h:∀ F:Fra,F.nt=fn.ntmps->Ok C F c ⟨a1n 0 args,H,n⟩ (d3T tt fn.results.toList Φ)):a0z C f args H n Φ:=by
 refine ⟨⟨fn,c,hf,hb,hn⟩,fun F ρ w vs m hfr hg hvs hr=>?_⟩;have hnt:=d9A hnt;refine calls_of_wp hf hb ?_;have sat:Sat C (F.sub ρ H w fn.ntmps) ρ ⟨a1n 0 args,H,n⟩ { tmps:=vs++Array.replicate (fn.ntmps - vs.size) undef,defers:=[] } w :=
  ⟨m.enter _,hfr,hg,a8r hvs hr,by simp [Fra.sub];omega,rfl⟩
 refine wp_mono (h (F.sub ρ H w fn.ntmps) rfl hd ρ _ w sat) ?_;rintro e a' w' ⟨s',ρ',⟨he,d,p,h1,h2,h3⟩,hs'⟩;obtain ⟨v,r1,r2⟩:=b4M htt hs' h1 h2;obtain ⟨m',x⟩:=m.leave hs'.mem;rcases he with rfl|rfl
 ·exact ⟨hs'.dfr,v,r1,v,d,_,_,ρ',rfl,h3,m',x,hs'.fresh,hs'.gen,r2⟩
 ·exact ⟨hs'.dfr,v,r1,v,d,_,_,ρ',rfl,h3,m',x,hs'.fresh,hs'.gen,r2⟩
theorem d8B {f:Nat}{first captured ds:List D}{fop:Operand}{args:Array Operand}{tys:Array Nat}{Φ:D->Hp->Nat->Prop}(hw:a0S ops s.env o=some true)(ho:o.op=.call ⟨.value fop,args,tys⟩)
  (hf:a1m s.env fop=.clo (.func f) first captured) (hds:first++args.toList.map (a1m s.env)++captured=ds) (hc:a0z C f ds s.H s.n Φ)
  (h:∀ d H' n',Φ d H' n'->OkL C F ops os ⟨a2f s.env o.dst d,H',n'⟩ K):OkL C F ops (o::os) s K:=by
 intro hd l hl ρ a w hs;cases l with
 | nil=>simp at hl
 | cons i l =>
  simp only [e0I,e0P] at hl;simp only [e1f,d9B] at hd;obtain ⟨vs,h1,h2,h3⟩:=a7s ho hf hc.1 hs;rw [hds] at h2 h3;simp only [wpOps,hl.1];rw [d9l (a2P hs.env hw)];refine .inl ?_;unfold Oper.wp;rw [h1];refine (hc.2 F ρ w vs hs.mem hs.fresh hs.gen h2 h3).mono ?_;rintro e w' ⟨v,d,H',n',ρ',rfl,hΦ,m,x,fr,g,r⟩;exact h d H' n' hΦ hd.2 l hl.2 ρ' (a.put o.dst v) w' (hs.put m x fr g r hd.1)
end
section
variable {C:Ctx} {F:Fra} {ρ:Lk} {H:Hp} {w:World}
theorem Mem.rename {H1 H2:Hp}{e:Ent}{b k n:Nat}(m:Mem C F ρ (H1++e::H2) w)(hb:ρ e.k e.g=some b)(hn:ρ k n=none)(hne:∀ e'∈H1++e::H2,e'.g≠n) :
  Mem C F (ρ.put k n b) (⟨k,n,e.T,e.sz,e.es⟩::(H1++H2)) w/\Ext ρ (Own F.X ρ (H1++e::H2)) w (ρ.put k n b) (Own F.X (ρ.put k n b) (⟨k,n,e.T,e.sz,e.es⟩::(H1++H2))) w:=by
 have hold:∀ e'∈H1++e::H2,∀ b',ρ.put k n b e'.k e'.g=some b'↔ρ e'.k e'.g=some b':=fun e' he' b'=>by
  unfold Lk.put;rw [d9m fun h=>hne e' he' h.2]
 have hmem:∀ e',e'∈H1++e::H2↔e'=e\/e'∈H1++H2:=fun e'=>by simp;constructor<;>(rintro (h|h|h)<;>simp [h])
 have hO:∀ b',Own F.X (ρ.put k n b) (⟨k,n,e.T,e.sz,e.es⟩::(H1++H2)) b'↔Own F.X ρ (H1++e::H2) b':=by
  intro b';unfold Own;refine or_congr Iff.rfl ⟨?_,?_⟩
  ·rintro ⟨e',he',h⟩
   rcases d9F.1 he' with rfl|he'
   ·rw [d8s] at h;exact ⟨e,by simp,by rw [hb];exact h⟩
   ·have hm:=(hmem e').2 (.inr he')
    exact ⟨e',hm,(hold e' hm b').1 h⟩
  ·rintro ⟨e',he',h⟩
   rcases (hmem e').1 he' with rfl|h2
   ·rw [hb] at h;cases h
    exact ⟨_,e0T ..,d8s _ _ _ _⟩
   ·exact ⟨e',e0t _ h2,(hold e' he' b').2 h⟩
 have hOe:Own F.X (ρ.put k n b) (⟨k,n,e.T,e.sz,e.es⟩::(H1++H2))=Own F.X ρ (H1++e::H2):=funext fun b=>propext (hO b)
 have x:Ext ρ (Own F.X ρ (H1++e::H2)) w (ρ.put k n b) (Own F.X (ρ.put k n b) (⟨k,n,e.T,e.sz,e.es⟩::(H1++H2))) w :=
  ⟨d9y _,fun _ _ _ h=>d8r hn h,fun b' _ h=>⟨by rw [hOe];exact h,rfl⟩,fun _ cs _ _ h=>⟨cs,_,h,rfl⟩⟩
 have hinj:=m.hok.inj;rw [e1q,e0U] at hinj;obtain ⟨p1,⟨p2,p3⟩,p4⟩:=hinj;refine ⟨⟨⟨fun e' he'=>?_,?_,fun e' he' b' hb'=>?_⟩,m.os,m.tape,m.output,m.size,m.blk,m.xlt,m.g0,m.gn,m.gw,fun _ _ _ h=>x.link _ _ _ (m.lnk _ _ _ h),m.shp⟩,x⟩
 ·rcases d9F.1 he' with rfl|h2
  ·obtain ⟨cs,a1,a2⟩:=m.at (e:=e) (by simp) hb
   have z:=a2.mono x;exact .inr ⟨b,cs,d8s _ _ _ _,a1,z.len,z.siz,z.one,z.rep⟩
  ·have hm:=(hmem e').2 (.inr h2)
   rcases m.hok.ent e' hm with ⟨a1,a2⟩|⟨b',cs,a1,a2,a3⟩
   ·exact .inl ⟨a1,by unfold Lk.put;rw [d9m fun h=>hne e' hm h.2];exact a2⟩
   ·exact .inr ⟨b',cs,(hold e' hm b').2 a1,a2,a3.mono x⟩
 ·rw [e0U,e1q]
  have tr:∀ {e1 e2:Ent},e1∈H1++e::H2->e2∈H1++e::H2->(∀ b b',ρ e1.k e1.g=some b->ρ e2.k e2.g=some b'->b≠b')->∀ b1 b2,ρ.put k n b e1.k e1.g=some b1->ρ.put k n b e2.k e2.g=some b2->b1≠b2 :=
   fun h1 h2 h b1 b2 hb1 hb2=>h b1 b2 ((hold _ h1 b1).1 hb1) ((hold _ h2 b2).1 hb2)
  refine ⟨fun e2 he2 b1 b2 hb1 hb2=>?_,?_,?_,?_⟩
  ·rw [d8s] at hb1;cases hb1
   have hm:=(hmem e2).2 (.inr he2);have hb2:=(hold _ hm b2).1 hb2;rcases List.mem_append.1 he2 with h|h
   ·exact fun he=>p4 e2 h e (by simp) b2 b hb2 hb he.symm
   ·exact p2 e2 h b b2 hb hb2
  ·exact p1.imp_of_mem fun h1 h2 h=>tr (by simp [h1]) (by simp [h2]) h
  ·exact p3.imp_of_mem fun h1 h2 h=>tr (by simp [h1]) (by simp [h2]) h
  ·exact fun e1 h1 e2 h2=>tr (by simp [h1]) (by simp [h2]) (p4 e1 h1 e2 (by simp [h2]))
 ·rcases d9F.1 he' with rfl|h2
  ·rw [d8s] at hb';cases hb'
   exact m.hok.own e (by simp) b hb
  ·have hm:=(hmem e').2 (.inr h2)
   exact m.hok.own e' hm b' ((hold _ hm b').1 hb')
theorem Mem.ghost {k n T sz:Nat}(m:Mem C F ρ H w)(hn:ρ k n=none):Mem C F ρ (⟨k,n,T,sz,[]⟩::H) w/\Own F.X ρ (⟨k,n,T,sz,[]⟩::H)=Own F.X ρ H:=by
 have hO:Own F.X ρ (⟨k,n,T,sz,[]⟩::H)=Own F.X ρ H:=funext fun b=>propext (by
  unfold Own;refine or_congr Iff.rfl ⟨?_,fun ⟨e,he,h⟩=>⟨e,e0t _ he,h⟩⟩;rintro ⟨e,he,h⟩;rcases d9F.1 he with rfl|he
  ·rw [hn] at h;cases h
  ·exact ⟨e,he,h⟩)
 refine ⟨⟨⟨fun e he=>?_,?_,fun e he b hb=>?_⟩,m.os,m.tape,m.output,m.size,m.blk,m.xlt,m.g0,m.gn,m.gw,m.lnk,m.shp⟩,hO⟩
 ·rw [hO]
  rcases d9F.1 he with rfl|he
  ·exact .inl ⟨rfl,hn⟩
  ·exact m.hok.ent e he
 ·refine e0U.2 ⟨fun e he b b' hb _=>?_,m.hok.inj⟩
  rw [hn] at hb;cases hb
 ·rcases d9F.1 he with rfl|he
  ·rw [hn] at hb;cases hb
  ·exact m.hok.own e he b hb
def b6q (H:Hp)(esz:Nat):D->Option (List D × Prop)
 | .sl _ sz es=>some (es,sz=esz)
 | .osl k g sz i len=>match Hp.get H k with
  | some e=>some ((e.es.drop i).take len,g=e.g/\sz=e.sz/\sz=esz/\i+len<=e.es.length)
  | none=>none
 | .prim (.slice none 0 0)=>some ([],True)
 | _=>none
structure Src (ρ:Lk)(O:Nat->Prop)(w:World)(esz:Nat)(es:List D)(a:Addr)(f:Nat->Value):Prop where
 cell:∀ j,j<es.length*esz->w.cell? (a.add j)=some (f j)
 one:∀ j,j<es.length*esz->one (f j)=true
 siz:∀ (i:Nat) (e:D),es[i]? = some e->e.cells.length=esz
 rep:∀ (i:Nat) (e:D) (j:Nat) (d:D),es[i]? = some e->e.cells[j]? = some d->Rep ρ O w d (f (i*esz+j))
structure c8x (ρ:Lk)(O:Nat->Prop)(w:World)(esz:Nat)(es:List D)(f:Nat->Value):Prop where
 one:∀ j,j<es.length*esz->one (f j)=true
 siz:∀ (i:Nat) (e:D),es[i]? = some e->e.cells.length=esz
 rep:∀ (i:Nat) (e:D) (j:Nat) (d:D),es[i]? = some e->e.cells[j]? = some d->Rep ρ O w d (f (i*esz+j))
theorem Src.srcv {ρ:Lk}{O:Nat->Prop}{w:World}{esz:Nat}{es:List D}{a:Addr}{f:Nat->Value}(h:Src ρ O w esz es a f):c8x ρ O w esz es f:=⟨h.one,h.siz,h.rep⟩
theorem c5T {esz:Nat}{d:D}{v:Value}{es:List D}{p:Prop}(m:Mem C F ρ H w)(h:b6q H esz d=some (es,p))(hp:p)(hr:Rep ρ (Own F.X ρ H) w d v) :
  (v=.slice none 0 0/\es=[])\/∃ a c f,v=.slice (some a) es.length c/\es.length<=c/\Src ρ (Own F.X ρ H) w esz es a f:=by
 unfold b6q at h;split at h<;>try(cases h;done)
 ·cases h
  cases hr with
  | nil=>exact .inl ⟨rfl,rfl⟩
  | emp a=>exact .inr ⟨a,0,fun _=>undef,rfl,by simp,fun j hj=>by simp at hj,fun j hj=>by simp at hj,fun i e h=>by simp at h,fun i e j d h=>by simp at h⟩
  | sl f hl hc hO hb hz hcell ho hh =>
   subst hp;refine .inr ⟨_,_,f,by rw [hl],by omega,fun j hj=>?_,fun j hj=>ho j (by rw [<- hl];exact hj),hz,hh⟩;rw [a4y];exact hcell j (by rw [<- hl];exact hj)
 ·rename_i k g sz i len
  split at h<;>try(cases h;done)
  rename_i e he;cases h;obtain ⟨rfl,rfl,rfl,hle⟩:=hp;obtain ⟨hm,hk⟩:=Hp.get_mem he;cases hr with
  | onil=>exact .inl ⟨rfl,by simp⟩
  | osl hr hb hc hs hmx =>
   rename_i cap b T cs fz;rw [<- hk] at hr;obtain ⟨cs',h1,h2⟩:=m.at hm hr;rw [hb] at h1;cases h1;have hlen:((e.es.drop i).take len).length=len:=by simp;omega
   have hin:∀ j,j<len*e.sz->i*e.sz+j<cs.size:=fun j hj=>by
    have:(i+len)*e.sz<=e.es.length*e.sz:=d9K _ hle
    rw [e0e] at this;have:=h2.len;omega
   have hget:∀ (q:Nat) (d:D),((e.es.drop i).take len)[q]? = some d->e.es[i+q]? = some d:=fun q d hq=>by
    rw [e0K] at hq;split at hq
    ·rwa [e1m] at hq
    ·cases hq
   refine .inr ⟨_,cap,fun j=>cs.getD (i*e.sz+j) undef,by rw [hlen],by omega,fun j hj=>?_,fun j hj=>?_,fun q d hq=>h2.siz _ d (hget q d hq),fun q d j c hq hc=>?_⟩
   ·rw [hlen] at hj
    have:=hin j hj
    rw [a4y];simp [World.cell?,hb,this]
   ·rw [hlen] at hj
    have h':=hin j hj
    have:=h2.one (i*e.sz+j) (cs[i*e.sz+j]) (d9C h')
    simpa [d9o,d9C h'] using this
   ·have:=h2.rep (i+q) d j c (hget q d hq) hc
    rw [e0e,e1d] at this;exact this
 ·cases h
  cases hr;exact .inl ⟨rfl,rfl⟩
def evA (tt:Nat->Option a0n)(H:Hp)(n k:Nat)(g:Operand->D):Op->Option (D × Hp × Prop)
 | .call ⟨.builtin .append,args,tys⟩=>match args.toList with
  | [s,x]=>match tys.toList with
   | [t,t']=>match Nat.beq t t' with
    | true=>match tt t with
     | some i=>match i.ti with
      | .slice e esz eby _=>match b6q H esz (g x) with
       | some (news,p)=>match g s with
        | .osl k1 g1 sz 0 len=>match Hp.get H k1 with
         | some e1=>some (.osl k n esz 0 (len+news.length),⟨k,n,e,esz,e1.es.take len++news⟩::Hp.del H k1,
           p/\g1=e1.g/\sz=e1.sz/\sz=esz/\e1.T=e/\len<=e1.es.length/\(len+news.length)*eby<=140737488355328/\1<=eby/\1<=esz)
         | none=>none
        | .prim (.slice none 0 0)=>some (.osl k n esz 0 news.length,⟨k,n,e,esz,news⟩::H,p/\news.length*eby<=140737488355328/\1<=eby/\1<=esz)
        | _=>none
       | none=>none
      | _=>none
     | none=>none
    | false=>none
   | _=>none
  | _=>none
 | _=>none
theorem a3N {P:Program}{t e:Nat}{ty:Nat}{i:TypeInfo}(ht:P.underlying t=some (.slice e))(hi:P.info? e=some i){ao:Option Addr}{len cap:Nat}(hlc:len<=cap) :
  (Builtin.append_ #[t,t] ty #[.slice ao len cap,.slice none 0 0]).run P w=.ok (.slice ao len cap) w:=by
 cases ao<;>simp [Builtin.append_,a0g ht,sizeOf,typeInfo,hi,Builtin.lenOf,hlc,run_firstCells_none,storeCells]
theorem c3W {O:Nat->Prop}{e:Ent}{k g T len:Nat}{news:List D}{f:Nat->Value}{cs cs':Array Value}(h:a2C ρ O w e cs)(hl:len<=e.es.length)(hs:c8x ρ O w e.sz news f)
  (hlow:∀ q,q<len*e.sz->cs'.getD q undef=cs.getD q undef) (hmid:∀ j,j<news.length*e.sz->cs'.getD (len*e.sz+j) undef=f j) (hsize:(len+news.length)*e.sz<=cs'.size)
  (hone:∀ (q:Nat) (v:Value),cs'[q]? = some v->one v=true):a2C ρ O w ⟨k,g,T,e.sz,e.es.take len++news⟩ cs':=by
 have hlen:(e.es.take len).length=len:=by simp;omega
 have hget:∀ (i:Nat) (d:D),(e.es.take len++news)[i]? = some d->(i<len/\e.es[i]? = some d)\/(len<=i/\news[i - len]? = some d):=fun i d hd=>by
  rcases d9H i len with hi|hi
  ·rw [e0g (by omega),e0K,d9l hi] at hd;exact .inl ⟨hi,hd⟩
  ·rw [e0b (by omega),hlen] at hd;exact .inr ⟨hi,hd⟩
 refine ⟨by dsimp only;rw [d9Z,hlen];exact hsize,fun i d hd=>?_,hone,fun i d j c hd hc=>?_⟩
 ·rcases hget i d hd with ⟨_,h1⟩|⟨_,h1⟩
  ·exact h.siz i d h1
  ·exact hs.siz _ d h1
 ·dsimp only at hd ⊢
  rcases hget i d hd with ⟨hi,h1⟩|⟨hi,h1⟩
  ·have hj:j<e.sz:=by rw [<- h.siz i d h1];exact (List.getElem?_eq_some_iff.1 hc).1
   rw [hlow]
   ·exact h.rep i d j c h1 hc
   ·have:(i+1)*e.sz<=len*e.sz:=d9K _ hi
    rw [e0e] at this;omega
  ·have hj:j<e.sz:=by rw [<- hs.siz _ d h1];exact (List.getElem?_eq_some_iff.1 hc).1
   have hil:i - len<news.length:=(List.getElem?_eq_some_iff.1 h1).1;have e1:i*e.sz+j=len*e.sz+((i - len)*e.sz+j):=by
    have:i=len+(i - len):=by omega
    conv=>lhs;rw [this,e0e]
    omega
   rw [e1,hmid]
   ·exact hs.rep _ d j c h1 hc
   ·have:(i - len+1)*e.sz<=news.length*e.sz:=d9K _ hil
    rw [e0e] at this;omega
structure c6i (P:Program)(t e esz eby:Nat)(ez:Value):Prop where
 under:P.underlying t=some (.slice e)
 inf:∃ i:TypeInfo,P.info? e=some i/\i.size=esz/\i.bytes=eby/\i.zero=some ez
 zs:ez.cells.size=esz
 zo:∀ (j:Nat) (x:Value),ez.cells[j]? = some x->one x=true
theorem a6L {z:Array Value}(hz:∀ (j:Nat) (x:Value),z[j]? = some x->one x=true)(n:Nat):∀ (q:Nat) (v:Value),(Builtin.zeroCells z n)[q]? = some v->one v=true:=fun q v hv=>by
 unfold Builtin.zeroCells at hv;rw [Array.getElem?_map] at hv;cases hr:(Array.range (n*z.size))[q]? with
 | none=>rw [hr] at hv;cases hv
 | some i =>
  rw [hr] at hv;simp only [e2z,d9z] at hv;have hi:i<n*z.size:=by
   obtain ⟨h1,h2⟩:=Array.getElem?_eq_some_iff.1 hr;simp at h2 h1;omega
  have hpos:0<z.size:=by
   rcases e0m z.size with h|h
   ·rw [h] at hi;simp at hi
   ·exact h
  have hlt:=e0k i hpos;rw [<- hv,getElem!_pos z (i%z.size) hlt];exact hz (i%z.size) _ (d9C hlt)
theorem b3Y {P:Program}{t e esz eby ty:Nat}{ez:Value}(T:c6i P t e esz eby ez){b len cap c:Nat}{cs:Array Value}(hb:w.heap[b]? = some (.cells cs e (0,0)))(hlc:len*esz<=cs.size){news:List D}{a:Addr}{f:Nat->Value}{O:Nat->Prop}
  (hs:Src ρ O w esz news a f) (hg:cap<len+news.length) (hby:(len+news.length)*eby<=140737488355328) (h1:1<=eby) :
  (Builtin.append_ #[t,t] ty #[.slice (some ⟨b,0,none⟩) len cap,.slice (some a) news.length c]).run P w =
   .ok (.slice (some ⟨w.heap.size,0,none⟩) (len+news.length) (grownCap w (len+news.length) cap e))
    (w.drew.alloc (.cells ((cs.toList.take (len*esz)).toArray++((List.range (news.length*esz)).map f).toArray++Builtin.zeroCells ez.cells (grownCap w (len+news.length) cap e - (len+news.length))) e)):=by
 obtain ⟨i,i1,rfl,rfl,i4⟩:=T.inf;have hmx:len+news.length<=140737488355328:=d9V (by have:=d9X (len+news.length) h1;omega) hby;exact run_append_grow (P:=P) w t ty e i ez T.under i1 i4 ⟨b,0,none⟩ len cap (cs.toList.take (len*i.size)) (by simp;omega) (fun j v hv=>by
   rw [e0K] at hv;split at hv
   ·rw [a4y]
    simp only [e1t] at hv;simp [World.cell?,hb,hv]
   ·cases hv) a news.length c ((List.range (news.length*i.size)).map f) (by simp) (fun j v hv=>by
   rw [d9E] at hv
   by_cases hj:j<news.length*i.size
   ·rw [e0Y hj] at hv;cases hv;exact hs.cell j hj
   ·rw [e0c (by simp;omega)] at hv;cases hv) hg (by omega) (growslice_fits hg hby)
structure d3B (P:Program)(w:World)(t u ty e esz eby:Nat)(ez sv:Value)(n:Nat)(f:Nat->Value):Prop where
 room:∀ (b len cap:Nat) (cs:Array Value),w.heap[b]? = some (.cells cs e (0,0))->len+n<=cap->len*esz+n*esz<=cs.size ->
  (Builtin.append_ #[t,u] ty #[.slice (some ⟨b,0,none⟩) len cap,sv]).run P w=.ok (.slice (some ⟨b,0,none⟩) (len+n) cap) (w.setRow b (cs.toList.take (len*esz)++(List.range (n*esz)).map f++cs.toList.drop (len*esz+((List.range (n*esz)).map f).length)).toArray)
 grow:∀ (b len cap:Nat) (cs:Array Value),w.heap[b]? = some (.cells cs e (0,0))->len*esz<=cs.size->cap<len+n->(len+n)*eby<=140737488355328 ->
  (Builtin.append_ #[t,u] ty #[.slice (some ⟨b,0,none⟩) len cap,sv]).run P w=.ok (.slice (some ⟨w.heap.size,0,none⟩) (len+n) (grownCap w (len+n) cap e))
   (w.drew.alloc (.cells ((cs.toList.take (len*esz)).toArray++((List.range (n*esz)).map f).toArray++Builtin.zeroCells ez.cells (grownCap w (len+n) cap e - (len+n))) e))
 none_:0<n->n*eby<=140737488355328->(Builtin.append_ #[t,u] ty #[.slice none 0 0,sv]).run P w=.ok (.slice (some ⟨w.heap.size,0,none⟩) n (grownCap w n 0 e))
   (w.drew.alloc (.cells (((List.range (n*esz)).map f).toArray++Builtin.zeroCells ez.cells (grownCap w n 0 e - n)) e))
 zero_:n=0->(Builtin.append_ #[t,u] ty #[.slice none 0 0,sv]).run P w=.ok (.slice none 0 0) w
theorem d8Y {O:Nat->Prop}{k g sz len cap b T:Nat}{cs:Array Value}{fz:Nat × Nat}(hr:ρ k g=some b)(hb:w.heap[b]? = some (.cells cs T fz))(hc:len<=cap)(hs:cap*sz=cs.size)(hm:cap<=maxLen) :
  Rep ρ O w (.osl k g sz 0 len) (.slice (some ⟨b,0,none⟩) len cap):=by
 have:=Rep.osl (O:=O) (ρ:=ρ) (k:=k) (g:=g) (i:=0) (sz:=sz) (len:=len) hr hb hc (by rw [d9S];exact hs) (by rw [d9S];exact hm)
 rwa [e2a] at this
structure b2f (C:Ctx)(F:Fra)(H:Hp)(ρ:Lk)(w:World)(n:Nat)(d:D)(H':Hp)(v:Value)(ρ':Lk)(w':World):Prop where
 mem:Mem C F ρ' H' w'
 ext:Ext ρ (Own F.X ρ H) w ρ' (Own F.X ρ' H') w'
 far:∀ k g',g'≠n->ρ' k g'=ρ k g'
 rep:Rep ρ' (Own F.X ρ' H') w' d v
theorem a3e {xs ys:Array Value}{q:Nat}(h:q<xs.size):(xs++ys).getD q undef=xs.getD q undef:=by
 simp only [d9o];rw [e0F h]
theorem a9V {xs ys:Array Value}{q:Nat}(h:xs.size<=q):(xs++ys).getD q undef=ys.getD (q - xs.size) undef:=by
 simp only [d9o];rw [e0y h]
theorem a7r {t e0 esz eby ty n k:Nat}{ez:Value}(T:c6i C.P t e0 esz eby ez){H1 H2:Hp}{e:Ent}{b len cap:Nat}(m:Mem C F ρ (H1++e::H2) w)(hr:ρ e.k e.g=some b)(hT:e.T=e0)(hsz:esz=e.sz)(hle:len<=e.es.length)
  {cs:Array Value} (hbk:w.heap[b]? = some (.cells cs e.T (0,0))) (hcs:cap*esz=cs.size) (hcap:cap<=maxLen) (fr:∀ k,ρ k n=none) (hlt:∀ e'∈H1++e::H2,e'.g≠n) {news:List D} {f:Nat->Value} {u:Nat} {sv:Value}
  (S:d3B C.P w t u ty e0 esz eby ez sv news.length f) (hs:c8x ρ (Own F.X ρ (H1++e::H2)) w esz news f) (hby:(len+news.length)*eby<=140737488355328) (h1:1<=eby) :
  ∃ v ρ' w',(Builtin.append_ #[t,u] ty #[.slice (some ⟨b,0,none⟩) len cap,sv]).run C.P w=.ok v w' /\
   b2f C F (H1++e::H2) ρ w n (.osl k n esz 0 (len+news.length)) (⟨k,n,e0,esz,e.es.take len++news⟩::(H1++H2)) v ρ' w':=by
 subst hT hsz;obtain ⟨cs0,q1,q2⟩:=m.at (e:=e) (by simp) hr;rw [hbk] at q1;cases q1;have hlc:len*e.sz<=cs.size:=d9V (d9K _ hle) q2.len;have hmx:len+news.length<=maxLen:=by
  have:=d9X (len+news.length) h1
  simp only [maxLen];omega
 have hlim:∀ q,q<len*e.sz->q<cs.size:=fun q hq=>by omega
 by_cases hroom:len+news.length<=cap
 ·have hfit:len*e.sz+news.length*e.sz<=cs.size:=by rw [<- hcs,<- e0e];exact d9K _ hroom
  have run:=S.room b len cap cs hbk hroom hfit;generalize hcs':(cs.toList.take (len*e.sz)++(List.range (news.length*e.sz)).map f++cs.toList.drop (len*e.sz+((List.range (news.length*e.sz)).map f).length)).toArray=cs' at run;have hsz':cs'.size=cs.size:=by rw [<- hcs'];simp;omega
  have get:∀ q,cs'[q]? = if q<len*e.sz then cs[q]? else if q<len*e.sz+news.length*e.sz then some (f (q - len*e.sz)) else cs[q]?:=fun q=>by
   rw [<- hcs'];simp only [e1v];rw [e0J];have hl1:(cs.toList.take (len*e.sz)).length=len*e.sz:=by simp;omega
   rcases d9H q (len*e.sz) with hq|hq
   ·rw [e0g (by omega),d9l hq,e0K,d9l hq];simp
   ·rw [e0b (by omega),d9m (by omega),hl1]
    rcases d9H (q - len*e.sz) (news.length*e.sz) with hq2|hq2
    ·rw [e0g (by simp;omega),d9l (by omega),d9E,e0Y hq2];rfl
    ·rw [e0b (by simp;omega),d9m (by omega),e1m]
     simp only [d9s,e1Y];rw [show len*e.sz+news.length*e.sz+(q - len*e.sz - news.length*e.sz)=q from by omega];simp
  have ho:a2C ρ (Own F.X ρ (H1++e::H2)) w ⟨e.k,e.g,e.T,e.sz,e.es.take len++news⟩ cs':=c3W q2 hle hs
   (fun q hq=>by rw [d9o,get,d9l hq,<- d9o])
   (fun j hj=>by rw [d9o,get,d9m (by omega),d9l (by omega),show len*e.sz+j - len*e.sz=j from by omega];rfl)
   (by rw [hsz',e0e];exact hfit) (fun q v hv=>by
    rw [get] at hv;split at hv
    ·exact q2.one _ _ hv
    ·split at hv
     ·cases hv;exact hs.one _ (by omega)
     ·exact q2.one _ _ hv)
  obtain ⟨m1,x1⟩:=m.write (e':=⟨e.k,e.g,e.T,e.sz,e.es.take len++news⟩) hr hbk rfl rfl rfl hsz' ho;obtain ⟨m2,x2⟩:=m1.rename (e:=⟨e.k,e.g,e.T,e.sz,e.es.take len++news⟩) (k:=k) (n:=n) hr (fr k) (fun e' he'=>by
   rcases List.mem_append.1 he' with h|h
   ·exact hlt e' (by simp [h])
   ·rcases d9F.1 h with rfl|h
    ·exact hlt e (by simp)
    ·exact hlt e' (by simp [h]))
  rw [a9x hbk] at run;refine ⟨_,ρ.put k n b,_,run,?_⟩;refine ⟨m2,x1.trans x2,fun k' g' hg=>by unfold Lk.put;rw [d9m fun h=>hg h.2],?_⟩;have hlt:b<w.heap.size:=(Array.getElem?_eq_some_iff.1 hbk).1;exact d8Y (b:=b) (T:=e.T) (cs:=cs') (fz:=(0,0)) (d8s _ _ _ _) (by rw [a2I _ _ _ _ _ hlt,d9l rfl]) hroom (by rw [hsz',<- hcs]) hcap
 ·have run:=S.grow b len cap cs hbk hlc (Nat.lt_of_not_le hroom) hby
  generalize hcap':grownCap w (len+news.length) cap e.T=cap' at run;have hge:len+news.length<=cap':=by rw [<- hcap'];exact grownCap_ge ..
  have hmx':cap'<=maxLen:=by rw [<- hcap'];exact grownCap_le_maxLen _ _ _ _ hmx
  generalize hcs':(cs.toList.take (len*e.sz)).toArray++((List.range (news.length*e.sz)).map f).toArray++Builtin.zeroCells ez.cells (cap' - (len+news.length))=cs' at run;have s1:(cs.toList.take (len*e.sz)).toArray.size=len*e.sz:=by simp;omega
  have s2:((List.range (news.length*e.sz)).map f).toArray.size=news.length*e.sz:=by simp
  have hsz':cs'.size=cap'*e.sz:=by
   rw [<- hcs',e1V,e1V,s1,s2,size_zeroCells,T.zs,<- e0e,<- e0e]
   congr 1;omega
  obtain ⟨m0,hO0⟩:=m.sub (H':=H1++H2) (e2A (e2N _) (e2j _ _));have x0:Ext ρ (Own F.X ρ (H1++e::H2)) w ρ (Own F.X ρ (H1++H2)) w.drew :=
   ⟨d9y _,fun _ _ _ h=>h,fun b' _ h=>⟨fun h'=>h (hO0 b' h'),rfl⟩,fun _ cs _ _ h=>⟨cs,_,h,rfl⟩⟩
  have ho:a2C ρ (Own F.X ρ (H1++H2)) w.drew ⟨k,n,e.T,e.sz,e.es.take len++news⟩ cs':=by
   have hlow:∀ q,q<len*e.sz->cs'.getD q undef=cs.getD q undef:=fun q hq=>by
    rw [<- hcs',a3e (by rw [e1V];omega),a3e (by omega)];simp only [d9o,e1v,e0K,d9l hq];simp
   have hmid:∀ j,j<news.length*e.sz->cs'.getD (len*e.sz+j) undef=f j:=fun j hj=>by
    rw [<- hcs',a3e (by rw [e1V];omega),a9V (by omega),s1,show len*e.sz+j - len*e.sz=j from by omega];simp [d9o,hj]
   refine (c3W q2 hle hs hlow hmid (by rw [hsz'];exact d9K _ hge) fun q v hv=>?_).mono x0;rw [<- hcs'] at hv;rcases d9H q (len*e.sz+news.length*e.sz) with hq|hq
   ·rw [e0F (by rw [e1V];omega)] at hv
    rcases d9H q (len*e.sz) with hq2|hq2
    ·rw [e0F (by omega)] at hv
     simp only [e1v,e0K,d9l hq2] at hv;exact q2.one q v (by simpa using hv)
    ·rw [e0y (by omega),s1] at hv
     simp only [e1v,d9E] at hv;rw [e0Y (by omega)] at hv;cases hv;exact hs.one _ (by omega)
   ·rw [e0y (by rw [e1V];omega)] at hv
    exact a6L T.zo _ _ v hv
  obtain ⟨m1,x1⟩:=m0.drew.alloc ⟨k,n,e.T,e.sz,e.es.take len++news⟩ cs' (fr k) (fun e' he' h=>hlt e' (by rcases List.mem_append.1 he' with h|h<;>simp [h]) h.2) ho;refine ⟨_,_,_,run,m1,x0.trans x1,fun k' g' hg=>by unfold Lk.put;rw [d9m fun h=>hg h.2],?_⟩;exact d8Y (b:=w.heap.size) (T:=e.T) (cs:=cs') (fz:=(0,0)) (d8s _ _ _ _) (by rw [a0A];exact d9l rfl) hge hsz'.symm hmx'
theorem a6P {t e0 esz eby ty:Nat}{P:Program}{O:Nat->Prop}{ez:Value}(T:c6i P t e0 esz eby ez)(h1:1<=eby){news:List D}{a:Addr}{c:Nat}{f:Nat->Value}(hs:Src ρ O w esz news a f) :
  d3B P w t t ty e0 esz eby ez (.slice (some a) news.length c) news.length f where
 room b len cap cs hbk hroom hfit:=by
  obtain ⟨i,i1,rfl,i3,i4⟩:=T.inf;exact run_append_room (P:=P) w t ty e0 i T.under i1 b len cap cs hbk a news.length c ((List.range (news.length*i.size)).map f) (by simp) (fun j v hv=>by
   rw [d9E] at hv
   by_cases hj:j<news.length*i.size
   ·rw [e0Y hj] at hv;cases hv;exact hs.cell j hj
   ·rw [e0c (by simp;omega)] at hv;cases hv) (fun u hu=>by
    rw [c5F];obtain ⟨j,hj,rfl⟩:=List.mem_map.1 hu;exact hs.one j (by simpa using hj)) hroom (by simp;exact hfit)
 grow b len cap cs hb hlc hg hby:=b3Y (P:=P) (ty:=ty) (c:=c) T hb hlc hs hg hby h1
 none_ h0 hby:=by
  obtain ⟨i,i1,rfl,rfl,i4⟩:=T.inf;have hmx:news.length<=maxLen:=by
   have:=d9X news.length h1
   simp only [maxLen];omega
  exact run_append_nil (P:=P) w t ty e0 i ez T.under i1 i4 a news.length c ((List.range (news.length*i.size)).map f) (by simp) (fun j v hv=>by
   rw [d9E] at hv
   by_cases hj:j<news.length*i.size
   ·rw [e0Y hj] at hv;cases hv;exact hs.cell j hj
   ·rw [e0c (by simp;omega)] at hv;cases hv) h0 (by simp only [maxLen] at hmx;omega) (by omega)
 zero_ h0:=by
  obtain ⟨i,i1,rfl,rfl,i4⟩:=T.inf;simp [Builtin.append_,a0g T.under,sizeOf,typeInfo,i1,Builtin.lenOf,Builtin.firstCells,loadCells,loadCellsFrom,h0]
theorem append_nil {t e0 esz eby ty n k:Nat}{ez:Value}(T:c6i C.P t e0 esz eby ez)(m:Mem C F ρ H w)(fr:∀ k,ρ k n=none)(hlt:∀ e'∈H,e'.g≠n){news:List D}{f:Nat->Value}{u:Nat}{sv:Value}
  (S:d3B C.P w t u ty e0 esz eby ez sv news.length f) (hs:c8x ρ (Own F.X ρ H) w esz news f) (hby:news.length*eby<=140737488355328) (h1:1<=eby) :
  ∃ v ρ' w',(Builtin.append_ #[t,u] ty #[.slice none 0 0,sv]).run C.P w=.ok v w' /\
   b2f C F H ρ w n (.osl k n esz 0 news.length) (⟨k,n,e0,esz,news⟩::H) v ρ' w':=by
 rcases e0m news.length with h0|h0
 ·have hn:=e0d h0
  subst hn;obtain ⟨m1,hO⟩:=m.ghost (k:=k) (n:=n) (T:=e0) (sz:=esz) (fr k);exact ⟨.slice none 0 0,ρ,w,S.zero_ rfl,m1,by rw [hO];exact .refl _ _ _,fun _ _ _=>rfl,.onil _ _ _⟩
 ·have hmx:news.length<=maxLen:=by
   have:=d9X news.length h1
   simp only [maxLen];omega
  have run:=S.none_ h0 hby;generalize hcap':grownCap w news.length 0 e0=cap' at run;have hge:news.length<=cap':=by rw [<- hcap'];exact grownCap_ge ..
  have hmx':cap'<=maxLen:=by rw [<- hcap'];exact grownCap_le_maxLen _ _ _ _ hmx
  generalize hcs':((List.range (news.length*esz)).map f).toArray++Builtin.zeroCells ez.cells (cap' - news.length)=cs' at run;have s2:((List.range (news.length*esz)).map f).toArray.size=news.length*esz:=by simp
  have hsz':cs'.size=cap'*esz:=by
   rw [<- hcs',e1V,s2,size_zeroCells,T.zs,<- e0e]
   congr 1;omega
  have hmid:∀ j,j<news.length*esz->cs'.getD j undef=f j:=fun j hj=>by
   rw [<- hcs',a3e (by omega)];simp [d9o,hj]
  have ho:a2C ρ (Own F.X ρ H) w.drew ⟨k,n,e0,esz,news⟩ cs':=by
   refine a2C.mono ⟨?_,hs.siz,fun q v hv=>?_,fun q d j c hd hc=>?_⟩ (Ext.drew ρ (Own F.X ρ H) w)
   ·dsimp only;rw [hsz'];exact d9K _ hge
   ·rw [<- hcs'] at hv
    rcases d9H q (news.length*esz) with hq|hq
    ·rw [e0F (by omega)] at hv
     simp only [e1v,d9E] at hv;rw [e0Y hq] at hv;cases hv;exact hs.one _ hq
    ·rw [e0y (by omega)] at hv
     exact a6L T.zo _ _ v hv
   ·dsimp only at hd ⊢
    have hj:j<esz:=by rw [<- hs.siz q d hd];exact (List.getElem?_eq_some_iff.1 hc).1
    have hq:q<news.length:=(List.getElem?_eq_some_iff.1 hd).1;rw [hmid]
    ·exact hs.rep q d j c hd hc
    ·have:(q+1)*esz<=news.length*esz:=d9K _ hq
     rw [e0e] at this;omega
  obtain ⟨m1,x1⟩:=m.drew.alloc ⟨k,n,e0,esz,news⟩ cs' (fr k) (fun e' he' h=>hlt e' he' h.2) ho;refine ⟨_,_,_,run,m1,(Ext.drew _ _ _).trans x1,fun k' g' hg=>by unfold Lk.put;rw [d9m fun h=>hg h.2],?_⟩;exact d8Y (b:=w.heap.size) (T:=e0) (cs:=cs') (fz:=(0,0)) (d8s _ _ _ _) (by rw [a0A];exact d9l rfl) hge hsz'.symm hmx'
theorem a6j {tt:Nat->Option a0n}{o:Oper}{g:Operand->D}{ev:Operand->Value}{n k:Nat}{d:D}{H':Hp}{p:Prop}(htt:Tab C.P tt)(m:Mem C F ρ H w)(fr:∀ k,ρ k n=none)(hlt:∀ e∈H,e.g≠n)
  (hg:∀ x,Rep ρ (Own F.X ρ H) w (g x) (ev x)) (h:evA tt H n k g o.op=some (d,H',p)) (hp:p) :
  ∃ v ρ' w',(execOp ev o).run C.P w=.ok (.value v) w'/\b2f C F H ρ w n d H' v ρ' w':=by
 unfold evA at h;split at h<;>try(cases h;done)
 rename_i args tys ho;split at h<;>try(cases h;done)
 rename_i s x hargs;split at h<;>try(cases h;done)
 rename_i t t' htys;split at h<;>try(cases h;done)
 rename_i htt';obtain rfl:=d9v htt';split at h<;>try(cases h;done)
 rename_i i hi;split at h<;>try(cases h;done)
 rename_i e esz eby ez hk;split at h<;>try(cases h;done)
 rename_i news q hsrc;obtain ⟨k1,⟨inf,k2,k3,k4,k5⟩,k6,k7⟩:=a0y (htt _ _ hi) hk;have T:c6i C.P t e esz eby ez:=⟨k1,⟨inf,k2,k3,k4,k5⟩,k6,k7⟩
 have hargs':args = #[s,x]:=by rw [<- e2P (xs:=args),hargs]
 have htys':tys = #[t,t]:=by rw [<- e2P (xs:=tys),htys]
 subst hargs' htys';have fin:∀ v1 v2,ev s=v1->ev x=v2->(∃ v ρ' w',(Builtin.append_ #[t,t] o.type #[v1,v2]).run C.P w=.ok v w'/\b2f C F H ρ w n d H' v ρ' w') ->
   ∃ v ρ' w',(execOp ev o).run C.P w=.ok (.value v) w'/\b2f C F H ρ w n d H' v ρ' w':=by
  rintro v1 v2 h1 h2 ⟨v,ρ',w',h3,h4⟩;refine ⟨v,ρ',w',?_,h4⟩;unfold execOp;simp only [ho,resolve,invoke,builtin,Sem.run_bind,Sem.run_pure,Result.andThen_ok,List.map_toArray,e0I,List.map_nil,h1,h2,h3]
 have hx:=hg x;have hsr:=hg s;generalize hvx:ev x=vx at hx;generalize hvs:ev s=vs at hsr;refine fin vs vx hvs hvx ?_;split at h<;>try(cases h;done)
 ·rename_i k0 g1 sz len hgs
  split at h<;>try(cases h;done)
  rename_i e1 he1;simp only [d9z,d9Q] at h;obtain ⟨rfl,rfl,rfl⟩:=h;obtain ⟨hq,rfl,rfl,rfl,rfl,hle,hby,hb1,hs1⟩:=hp;obtain ⟨hm,hke⟩:=Hp.get_mem he1;obtain ⟨H1,H2,a1,_,a3⟩:=d8q e1 he1;rw [hgs] at hsr;rw [a3];rcases c5T m hsrc hq hx with ⟨rfl,rfl⟩|⟨a,c,f,rfl,hc,hs⟩
  ·
   simp only [d9R,e0W,e0D];cases hsr with
   | onil =>
    obtain ⟨m0,hO0⟩:=m.sub (H':=H1++H2) (by rw [a1];exact e2A (e2N _) (e2j _ _));obtain ⟨m1,hO⟩:=m0.ghost (k:=k) (n:=n) (T:=e1.T) (sz:=e1.sz) (fr k);refine ⟨_,ρ,w,a3N k1 k2 (d9y _),by simpa using m1,?_,fun _ _ _=>rfl,.onil _ _ _⟩;simp only [e2H];rw [hO];exact ⟨d9y _,fun _ _ _ h=>h,fun b' _ h=>⟨fun h'=>h (hO0 b' h'),rfl⟩,fun _ cs _ _ h=>⟨cs,_,h,rfl⟩⟩
   | osl hr hb hc hs hmx =>
    rename_i cap b T' cs fz;rw [<- hke] at hr;obtain ⟨cs0,q1,q2⟩:=m.at hm hr;rw [hb] at q1;cases q1;rw [a1] at m;have q3:a2C ρ (Own F.X ρ (H1++e1::H2)) w ⟨e1.k,e1.g,e1.T,e1.sz,e1.es.take len⟩ cs:=by
     rw [<- a1];refine ⟨by dsimp only;simp only [d9J];exact d9V (d9K _ (Nat.min_le_right _ _)) q2.len,fun i d hd=>?_,q2.one,fun i d j c hd hc=>?_⟩
     ·dsimp only at hd;rw [e0K] at hd;split at hd
      ·exact q2.siz i d hd
      ·cases hd
     ·dsimp only at hd ⊢;rw [e0K] at hd;split at hd
      ·exact q2.rep i d j c hd hc
      ·cases hd
    obtain ⟨m1,x1⟩:=m.write (e':=⟨e1.k,e1.g,e1.T,e1.sz,e1.es.take len⟩) hr hb rfl rfl rfl rfl q3;have hsame:World.setBlk w b cs e1.T=w:=by
     unfold World.setBlk
     have:w.heap.setIfInBounds b (.cells cs e1.T (0,0))=w.heap:=by
      apply Array.ext_getElem?;intro q;rw [e0q]
      by_cases hq:b=q
      ·subst hq;rw [d9l rfl,d9l (Array.getElem?_eq_some_iff.1 hb).1,hb]
      ·rw [d9m hq]
     rw [this]
    rw [hsame] at m1 x1;obtain ⟨m2,x2⟩:=m1.rename (e:=⟨e1.k,e1.g,e1.T,e1.sz,e1.es.take len⟩) (k:=k) (n:=n) hr (fr k) (fun e' he'=>by
     rcases List.mem_append.1 he' with h|h
     ·exact hlt e' (by rw [a1];simp [h])
     ·rcases d9F.1 h with rfl|h
      ·exact hlt e1 hm
      ·exact hlt e' (by rw [a1];simp [h]))
    refine ⟨_,_,w,a3N k1 k2 hc,m2,by rw [a1];exact x1.trans x2,fun k' g' hg=>by unfold Lk.put;rw [d9m fun h=>hg h.2],?_⟩;have fin:=Rep.osl (ρ:=ρ.put k n b) (O:=Own F.X (ρ.put k n b) (⟨k,n,e1.T,e1.sz,e1.es.take len⟩::(H1++H2))) (k:=k) (g:=n) (i:=0) (d8s _ _ _ _) hb hc hs hmx;exact fin
  ·cases hsr with
   | onil =>
    obtain ⟨m0,hO0⟩:=m.sub (H':=H1++H2) (by rw [a1];exact e2A (e2N _) (e2j _ _));have x0:Ext ρ (Own F.X ρ H) w ρ (Own F.X ρ (H1++H2)) w:=⟨d9y _,fun _ _ _ h=>h,fun b' _ h=>⟨fun h'=>h (hO0 b' h'),rfl⟩,fun _ cs _ _ h=>⟨cs,_,h,rfl⟩⟩
    have hs':c8x ρ (Own F.X ρ (H1++H2)) w e1.sz news f:=⟨hs.one,hs.siz,fun i e j d h1 h2=>(hs.rep i e j d h1 h2).mono x0⟩
    obtain ⟨v,ρ',w',r1,r2⟩:=append_nil (ty:=o.type) (k:=k) T m0 fr (fun e' he'=>hlt e' (by rw [a1];rcases List.mem_append.1 he' with h|h<;>simp [h])) (a6P (c:=c) T hb1 hs) hs' (by simpa using hby) hb1;refine ⟨v,ρ',w',r1,?_⟩;simp only [d9S,e2H,e0p];exact ⟨r2.mem,x0.trans r2.ext,r2.far,r2.rep⟩
   | osl hr hb hc' hcs hmx =>
    rename_i cap b T' cs fz;rw [<- hke] at hr;obtain ⟨cs0,q1,q2⟩:=m.at hm hr;rw [hb] at q1;cases q1;rw [a1] at m hlt hs;obtain ⟨v,ρ',w',r1,r2⟩:=a7r (ty:=o.type) (k:=k) T m hr rfl rfl hle hb (by simpa using hcs) (by simpa using hmx) fr hlt (a6P (c:=c) T hb1 hs) hs.srcv hby hb1;rw [a1];refine ⟨v,ρ',w',?_,r2⟩;simpa using r1
 ·rename_i hgs
  simp only [d9z,d9Q] at h;obtain ⟨rfl,rfl,rfl⟩:=h;obtain ⟨hq,hby,hb1,hs1⟩:=hp;rw [hgs] at hsr;cases hsr;rcases c5T m hsrc hq hx with ⟨rfl,rfl⟩|⟨a,c,f,rfl,hc,hs⟩
  ·obtain ⟨m1,hO⟩:=m.ghost (k:=k) (n:=n) (T:=e) (sz:=esz) (fr k)
   exact ⟨_,ρ,w,a3N k1 k2 (d9y _),m1,by rw [hO];exact .refl _ _ _,fun _ _ _=>rfl,.onil _ _ _⟩
  ·exact append_nil (ty:=o.type) (k:=k) T m fr hlt (a6P (c:=c) T hb1 hs) hs.srcv hby hb1
end
section
variable {C:Ctx} {F:Fra} {s:St} {ops:Array Oper} {o:Oper} {os:List Oper} {K:St->Prop}
theorem d8o:∀ {H:Hp} {k:Nat} {e:Ent},e∈Hp.del H k->e∈H
 | e0::r,k,e,h=>by
  simp only [Hp.del] at h;split at h
  ·exact e0t _ h
  ·rcases d9F.1 h with rfl|h
   ·exact e0T ..
   ·exact e0t _ (d8o h)
theorem c6H {tt:Nat->Option a0n}{H:Hp}{n k:Nat}{g:Operand->D}{op:Op}{d:D}{H':Hp}{p:Prop}(h:evA tt H n k g op=some (d,H',p))(hl:∀ e∈H,e.g<n):∀ e∈H',e.g<n+1:=by
 unfold evA at h
 (repeat' split at h)<;>try(cases h;done)
 ·cases h
  intro e he;rcases d9F.1 he with rfl|he
  ·exact e1L _
  ·exact e0G (hl e (d8o he))
 ·cases h
  intro e he;rcases d9F.1 he with rfl|he
  ·exact e1L _
  ·exact e0G (hl e he)
theorem d8z {tt:Nat->Option a0n}(k:Nat)(htt:Tab C.P tt){d:D}{H':Hp}{p:Prop}(hw:a0S ops s.env o=some true)(he:evA tt s.H s.n k (a1m s.env) o.op=some (d,H',p))(hp:p)
  (h:OkL C F ops os ⟨a2f s.env o.dst d,H',s.n+1⟩ K):OkL C F ops (o::os) s K :=
 OkL.step hw (fun ρ a w hs=>by
  obtain ⟨v,ρ',w',h1,h2⟩:=a6j htt hs.mem (fun k=>hs.fresh k _ (d9y _)) (fun e he=>Nat.ne_of_lt (hs.gen e he)) (a0Z hs.env) he hp;exact ⟨v,ρ',w',.inl h1,⟨h2.mem,h2.ext,fun k g hg=>by rw [h2.far k g (by omega)];exact hs.fresh k g (by omega),h2.rep⟩,c6H he hs.gen⟩) h
end
def a4M (s:ByteArray):List D:=s.data.toList.map fun b=>.prim (.int .u8 (b.toNat:Int))
theorem a1g (s:ByteArray):(a4M s).length=s.size:=by
 unfold a4M;rw [d9s,e1w];rfl
def a6l (s:ByteArray)(j:Nat):Value:=.int .u8 ((s.data.toList.getD j 0).toNat:Int)
theorem a3X (s:ByteArray):(List.range (s.size*1)).map (a6l s)=Lib.strCells s:=by
 refine e2w fun j=>?_
 have hs:s.data.toList.length=s.size:=by rw [e1w];rfl
 rw [e1z,d9E,Lib.strCells,d9E];rcases d9H j s.size with h|h
 ·rw [e0Y h,d9t (by omega)]
  simp [a6l,d9T,d9t (show j<s.data.toList.length by omega)]
 ·rw [e0c (by simp;omega),e0c (by omega)];rfl
section
variable {C:Ctx} {F:Fra} {ρ:Lk} {H:Hp} {w:World}
theorem a6R {O:Nat->Prop}(s:ByteArray):c8x ρ O w 1 (a4M s) (a6l s) where
 one _ _:=rfl
 siz i e h:=by
  unfold a4M at h;rw [d9E] at h;obtain ⟨b,_,rfl⟩:=Option.map_eq_some_iff.1 h;rfl
 rep i e j d h1 h2:=by
  unfold a4M at h1;rw [d9E] at h1;obtain ⟨b,hb,rfl⟩:=Option.map_eq_some_iff.1 h1;rcases j with _|j
  ·cases h2
   have:a6l s (i*1+0)=.int .u8 (b.toNat:Int):=by
    unfold a6l;rw [e1z,e0W,d9T,hb];rfl
   rw [this];exact .prim _
  ·simp [D.cells] at h2
theorem a8q {P:Program}{t u ty e0:Nat}(T:c6i P t e0 1 1 (.int .u8 0))(hu:P.underlying u=some .string)(s:ByteArray) :
  d3B P w t u ty e0 1 1 (.int .u8 0) (.string s) s.size (a6l s) where
 room b len cap cs hbk hroom hfit:=by
  obtain ⟨i,i1,i2,i3,i4⟩:=T.inf;rw [a3X,Lib.strCells_length,e1z];exact Lib.run_append_room_string w t u ty e0 i T.under hu i1 i2 b len cap cs hbk s hroom (by omega)
 grow b len cap cs hb hlc hg hby:=by
  obtain ⟨i,i1,i2,i3,i4⟩:=T.inf;rw [a3X];rw [e1z] at hlc ⊢;exact Lib.run_append_grow_string w t u ty e0 i (.int .u8 0) T.under hu i1 i4 ⟨b,0,none⟩ len cap (cs.toList.take len) (by rw [i2];simp;omega) (fun j v hv=>by
   rw [e0K] at hv;split at hv
   ·rw [a4y]
    simp only [e1t] at hv;simp [World.cell?,hb,hv]
   ·cases hv) s hg (by omega) (by rw [i3];exact growslice_fits hg (by omega))
 none_ h0 hby:=by
  obtain ⟨i,i1,i2,i3,i4⟩:=T.inf;have hr:=run_append_nil_string (P:=P) w t u ty e0 i (.int .u8 0) T.under hu i1 i4 s (by omega) (by omega) (by rw [i3];omega);have e1:(s.data.map fun b=>Value.int .u8 b.toNat)=(Lib.strCells s).toArray:=by
   apply Array.ext';simp [Lib.strCells]
  rw [a3X,<- e1];exact hr
 zero_ h0:=by
  obtain ⟨i,i1,i2,i3,i4⟩:=T.inf;have hf:=Lib.run_firstCells_string (P:=P) w 1 s;rw [h0] at hf;simp [Builtin.append_,a0g T.under,a0g hu,sizeOf,typeInfo,i1,i2,Builtin.lenOf,h0,hf]
def c8A (tt:Nat->Option a0n)(H:Hp)(n k:Nat)(g:Operand->D):Op->Option (D × Hp × Prop)
 | .call ⟨.builtin .append,args,tys⟩=>match args.toList with
  | [s,x]=>match tys.toList with
   | [t,t']=>match tt t' with
    | some i'=>match i'.ti with
     | .string=>match tt t with
      | some i=>match i.ti with
       | .slice e esz eby ez=>match g x with
        | .prim (.string str)=>match g s with
         | .osl k1 g1 sz 0 len=>match Hp.get H k1 with
          | some e1=>some (.osl k n 1 0 (len+str.size),⟨k,n,e,1,e1.es.take len++a4M str⟩::Hp.del H k1,
            esz=1/\eby=1/\ez=.int .u8 0/\g1=e1.g/\sz=e1.sz/\sz=1/\e1.T=e/\len<=e1.es.length/\len+str.size<=140737488355328)
          | none=>none
         | .prim (.slice none 0 0)=>some (.osl k n 1 0 str.size,⟨k,n,e,1,a4M str⟩::H,esz=1/\eby=1/\ez=.int .u8 0/\str.size<=140737488355328)
         | _=>none
        | _=>none
       | _=>none
      | none=>none
     | _=>none
    | none=>none
   | _=>none
  | _=>none
 | _=>none
theorem b6B {tt:Nat->Option a0n}{o:Oper}{g:Operand->D}{ev:Operand->Value}{n k:Nat}{d:D}{H':Hp}{p:Prop}(htt:Tab C.P tt)(m:Mem C F ρ H w)(fr:∀ k,ρ k n=none)(hlt:∀ e∈H,e.g≠n)
  (hg:∀ x,Rep ρ (Own F.X ρ H) w (g x) (ev x)) (h:c8A tt H n k g o.op=some (d,H',p)) (hp:p) :
  ∃ v ρ' w',(execOp ev o).run C.P w=.ok (.value v) w'/\b2f C F H ρ w n d H' v ρ' w':=by
 unfold c8A at h;split at h<;>try(cases h;done)
 rename_i args tys ho;split at h<;>try(cases h;done)
 rename_i s x hargs;split at h<;>try(cases h;done)
 rename_i t t' htys;split at h<;>try(cases h;done)
 rename_i i' hi';split at h<;>try(cases h;done)
 rename_i hk';split at h<;>try(cases h;done)
 rename_i i hi;split at h<;>try(cases h;done)
 rename_i e esz eby ez hk;split at h<;>try(cases h;done)
 rename_i str hgx;have hu:=a1W (htt _ _ hi') hk';obtain ⟨k1,⟨inf,k2,k3,k4,k5⟩,k6,k7⟩:=a0y (htt _ _ hi) hk;have T0:c6i C.P t e esz eby ez:=⟨k1,⟨inf,k2,k3,k4,k5⟩,k6,k7⟩
 have hargs':args = #[s,x]:=by rw [<- e2P (xs:=args),hargs]
 have htys':tys = #[t,t']:=by rw [<- e2P (xs:=tys),htys]
 subst hargs' htys';have fin:∀ v1 v2,ev s=v1->ev x=v2->(∃ v ρ' w',(Builtin.append_ #[t,t'] o.type #[v1,v2]).run C.P w=.ok v w'/\b2f C F H ρ w n d H' v ρ' w') ->
   ∃ v ρ' w',(execOp ev o).run C.P w=.ok (.value v) w'/\b2f C F H ρ w n d H' v ρ' w':=by
  rintro v1 v2 h1 h2 ⟨v,ρ',w',h3,h4⟩;refine ⟨v,ρ',w',?_,h4⟩;unfold execOp;simp only [ho,resolve,invoke,builtin,Sem.run_bind,Sem.run_pure,Result.andThen_ok,List.map_toArray,e0I,List.map_nil,h1,h2,h3]
 have hx:=hg x;have hsr:=hg s;generalize hvx:ev x=vx at hx;generalize hvs:ev s=vs at hsr;refine fin vs vx hvs hvx ?_;rw [hgx] at hx;cases hx;split at h<;>try(cases h;done)
 ·rename_i k0 g1 sz len hgs
  split at h<;>try(cases h;done)
  rename_i e1 he1;simp only [d9z,d9Q] at h;obtain ⟨rfl,rfl,rfl⟩:=h;obtain ⟨rfl,rfl,rfl,rfl,q1,rfl,rfl,hle,hby⟩:=hp;have T:=T0;obtain ⟨hm,hke⟩:=Hp.get_mem he1;obtain ⟨H1,H2,a1,_,a3⟩:=d8q e1 he1;rw [hgs] at hsr;rw [a3];have S:=a8q (w:=w) (ty:=o.type) T hu str;cases hsr with
  | onil =>
   obtain ⟨m0,hO0⟩:=m.sub (H':=H1++H2) (by rw [a1];exact e2A (e2N _) (e2j _ _));have x0:Ext ρ (Own F.X ρ H) w ρ (Own F.X ρ (H1++H2)) w:=⟨d9y _,fun _ _ _ h=>h,fun b' _ h=>⟨fun h'=>h (hO0 b' h'),rfl⟩,fun _ cs _ _ h=>⟨cs,_,h,rfl⟩⟩
   obtain ⟨v,ρ',w',r1,r2⟩:=append_nil (ty:=o.type) (k:=k) (news:=a4M str) (f:=a6l str) T m0 fr (fun e' he'=>hlt e' (by rw [a1];rcases List.mem_append.1 he' with h|h<;>simp [h])) (by rw [a1g];exact S) (a6R str) (by rw [a1g];omega) (d9y _);refine ⟨v,ρ',w',r1,?_⟩;simp only [d9S,e2H,e0p];rw [a1g] at r2;exact ⟨r2.mem,x0.trans r2.ext,r2.far,r2.rep⟩
  | osl hr hb hc' hcs hmx =>
   rename_i cap b T' cs fz;rw [<- hke] at hr;obtain ⟨cs0,q2,q3⟩:=m.at hm hr;rw [hb] at q2;cases q2;rw [a1] at m hlt;obtain ⟨v,ρ',w',r1,r2⟩:=a7r (ty:=o.type) (k:=k) (news:=a4M str) (f:=a6l str) T m hr rfl q1 hle hb (by simpa using hcs) (by simpa using hmx) fr hlt (by rw [a1g];exact S) (a6R str) (by rw [a1g];omega) (d9y _);rw [a1];refine ⟨v,ρ',w',?_,?_⟩
   ·simpa using r1
   ·rw [a1g] at r2;exact r2
 ·rename_i hgs
  simp only [d9z,d9Q] at h;obtain ⟨rfl,rfl,rfl⟩:=h;obtain ⟨rfl,rfl,rfl,hby⟩:=hp;have T:=T0;rw [hgs] at hsr;cases hsr;have S:=a8q (w:=w) (ty:=o.type) T hu str;obtain ⟨v,ρ',w',r1,r2⟩:=append_nil (ty:=o.type) (k:=k) (news:=a4M str) (f:=a6l str) T m fr hlt (by rw [a1g];exact S) (a6R str) (by rw [a1g];omega) (d9y _);rw [a1g] at r2;exact ⟨v,ρ',w',r1,r2⟩
end
section
variable {C:Ctx} {F:Fra} {s:St} {ops:Array Oper} {o:Oper} {os:List Oper} {K:St->Prop}
theorem c2v {tt:Nat->Option a0n}{H:Hp}{n k:Nat}{g:Operand->D}{op:Op}{d:D}{H':Hp}{p:Prop}(h:c8A tt H n k g op=some (d,H',p))(hl:∀ e∈H,e.g<n):∀ e∈H',e.g<n+1:=by
 unfold c8A at h
 (repeat' split at h)<;>try(cases h;done)
 ·cases h
  intro e he;rcases d9F.1 he with rfl|he
  ·exact e1L _
  ·exact e0G (hl e (d8o he))
 ·cases h
  intro e he;rcases d9F.1 he with rfl|he
  ·exact e1L _
  ·exact e0G (hl e he)
theorem d8A {tt:Nat->Option a0n}(k:Nat)(htt:Tab C.P tt){d:D}{H':Hp}{p:Prop}(hw:a0S ops s.env o=some true)(he:c8A tt s.H s.n k (a1m s.env) o.op=some (d,H',p))(hp:p)
  (h:OkL C F ops os ⟨a2f s.env o.dst d,H',s.n+1⟩ K):OkL C F ops (o::os) s K :=
 OkL.step hw (fun ρ a w hs=>by
  obtain ⟨v,ρ',w',h1,h2⟩:=b6B htt hs.mem (fun k=>hs.fresh k _ (d9y _)) (fun e he=>Nat.ne_of_lt (hs.gen e he)) (a0Z hs.env) he hp;exact ⟨v,ρ',w',.inl h1,⟨h2.mem,h2.ext,fun k g hg=>by rw [h2.far k g (by omega)];exact hs.fresh k g (by omega),h2.rep⟩,c2v he hs.gen⟩) h
end
inductive XI where
 | map (key elem:Nat) (zero:Value)
 | strs (n:Nat)
def a5c (P:Program):Nat->List Field->Bool
 | _,[]=>true
 | i,f::fs=>(f.name != "_")&&Nat.beq f.offset i&&(match P.underlying f.type with|some .string=>true|_=>false)&&a5c P (i+1) fs
def b5a (P:Program)(t:Nat):Option XI:=match P.underlying t with
 | some (.map k e)=>match P.underlying k with
  | some .string=>match P.info? e with
   | some i=>match i.zero with
    | some z=>match b2I z i.size with
     | true=>some (.map k e z)
     | false=>none
    | none=>none
   | none=>none
  | _=>none
 | some (.struct fs)=>match P.stoodInHeld t||P.eqGuardType P.depth t with
  | false=>match a5c P 0 fs.toList with
   | true=>some (.strs fs.size)
   | false=>none
  | true=>none
 | _=>none
def c3M (P:Program)(xt:Nat->Option XI):Prop:=∀ t i,xt t=some i->b5a P t=some i
def a6y (s:ByteArray):List D->List D->Option (Option D)
 | [],[]=>some none
 | .prim (.string k)::ks,d::vs=>match a1G s k with
  | true=>some (some d)
  | false=>a6y s ks vs
 | _,_=>none
def a3J:List D->List D->Option Bool
 | [],[]=>some true
 | .prim (.string a)::l,.prim (.string b)::l'=>match a3J l l' with
  | some r=>some (a1G a b&&r)
  | none=>none
 | _,_=>none
def okD (ok:Bool)(d:D)(b:Bool):D:=match ok with
 | true=>.tup [d,.prim (.bool b)]
 | false=>d
def c9i:TI->Bool
 | .other | .ptr=>false
 | _=>true
def evQ (tt:Nat->Option a0n)(xt:Nat->Option XI)(g:Operand->D):Op->Option (D × Prop)
 | .makeInterface t x=>match tt t with
  | some i=>match c9i i.ti with
   | true=>some (.ifc t (g x),True)
   | false=>none
  | none=>none
 | .lookup t x ix ok=>match xt t with
  | some (.map _ _ z)=>match g x with
   | .mp ks vs=>match g ix with
    | .prim (.string s)=>match a6y s ks vs with
     | some (some d)=>some (okD ok d true,True)
     | some none=>some (okD ok (ofV z) false,True)
     | none=>none
    | _=>none
   | _=>none
  | _=>none
 | .binOp op t x y _=>match xt t with
  | some (.strs n)=>match g x with
   | .agg l=>match g y with
    | .agg l'=>match a3J l l' with
     | some b=>match c8G op b with
      | some c=>some (.prim (.bool c),Nat.beq l.length n=true)
      | none=>none
     | none=>none
    | _=>none
   | _=>none
  | _=>none
 | _=>none
section
variable {P:Program} {ρ:Lk} {O:Nat->Prop} {w:World}
theorem c1s (a b:ByteArray):(a==b)=a1G a b:=beq_toListBytes a b
theorem a7f {s:ByteArray}:∀ {ks vs:List D} {es:List MapEntry} {r:Option D} (i:Nat),a6y s ks vs=some r->es.length=ks.length->es.length=vs.length ->
  (∀ (j:Nat) (d:D),ks[j]? = some d->Rep ρ O w d (es.getD j default).key)->(∀ (j:Nat) (d:D),vs[j]? = some d->Rep ρ O w d (es.getD j default).val) ->
  (match r with
   | none=>Instr.findNow .string (.string s) es i=some none
   | some d=>∃ j v,Instr.findNow .string (.string s) es i=some (some (j,v))/\Rep ρ O w d v)
 | [],[],[],r,i,h,_,_,_,_=>by simp only [a6y,d9z] at h;subst h;rfl
 | k::ks,v::vs,e::es,r,i,h,h1,h2,hk,hv=>by
  obtain ⟨kb,rfl⟩:∃ a,k=.prim (.string a):=by
   unfold a6y at h;split at h<;>try(cases h;done)
   ·simp at *
   ·rename_i h1 _;cases h1;exact ⟨_,rfl⟩
  simp only [a6y] at h;have h0:e.key=.string kb:=by
   have:=hk 0 _ rfl
   simp at this;generalize e.key=q at this;cases this;rfl
  have h3:Instr.findNow .string (.string s) (e::es) i=(match Instr.sameNow .string (.string s) e.key with
    | some true=>some (some (i,e.val))|some false=>Instr.findNow .string (.string s) es (i+1)|none=>none):=rfl
  rw [h0] at h3;have h4:Instr.sameNow .string (.string s) (.string kb)=some (a1G s kb):=by
   show some (s==kb)=_;rw [c1s]
  rw [h4] at h3;cases hb:a1G s kb with
  | true =>
   rw [hb] at h h3;simp only [d9z] at h;subst h;exact ⟨i,e.val,h3,by simpa using hv 0 v rfl⟩
  | false =>
   rw [hb] at h h3;dsimp only at h h3;rw [h3];exact a7f (i+1) h (by simpa using h1) (by simpa using h2) (fun j d hd=>by simpa using hk (j+1) d (by simpa using hd)) (fun j d hd=>by simpa using hv (j+1) d (by simpa using hd))
 | [],_::_,_,_,_,h,_,_,_,_=>by simp [a6y] at h
 | [],[],_::_,_,_,_,h1,_,_,_=>by simp at h1
 | _::_,[],[],_,_,_,h1,_,_,_=>by simp at h1
 | _::_,[],_::_,_,_,_,_,h2,_,_=>by simp at h2
 | _::_,_::_,[],_,_,_,h1,_,_,_=>by simp at h1
theorem b3M {t k e:Nat}{z:Value}(h:b5a P t=some (.map k e z)):P.underlying t=some (.map k e)/\P.underlying k=some .string/\(∃ i,P.info? e=some i/\i.zero=some z) /\
  ∀ (j:Nat) (x:Value),z.cells[j]? = some x->one x=true:=by
 unfold b5a at h;split at h<;>try(cases h;done)
 ·rename_i k' e' h1
  split at h<;>try(cases h;done)
  rename_i h2;split at h<;>try(cases h;done)
  rename_i i h3;split at h<;>try(cases h;done)
  rename_i z' h4;split at h<;>try(cases h;done)
  rename_i h5;cases h;exact ⟨h1,h2,⟨i,h3,h4⟩,(a4a h5).2⟩
 ·(repeat' split at h)<;>cases h
theorem b7N {t n:Nat}(h:b5a P t=some (.strs n)):∃ fs:Array Field,P.underlying t=some (.struct fs)/\P.stoodInHeld t=false/\P.eqGuardType P.depth t=false/\a5c P 0 fs.toList=true/\fs.size=n:=by
 unfold b5a at h;split at h<;>try(cases h;done)
 ·(repeat' split at h)<;>cases h
 ·rename_i fs h1
  split at h<;>try(cases h;done)
  rename_i h2;split at h<;>try(cases h;done)
  rename_i h3;cases h;simp only [e1C] at h2;exact ⟨fs,h1,h2.1,h2.2,h3,rfl⟩
theorem b0q:∀ {l l':List D} {b:Bool},a3J l l'=some b->l.length=l'.length
 | [],[],_,_=>rfl
 | [],_::_,_,h=>by simp [a3J] at h
 | c::l,[],_,h=>by
  unfold a3J at h;split at h
  ·simp at *
  ·simp at *
  ·cases h
 | c::l,c'::l',b,h=>by
  unfold a3J at h;split at h
  ·simp at *
  ·rename_i h1 h2
   cases h1;cases h2;split at h
   ·rename_i hr;simp [b0q hr]
   ·cases h
  ·cases h
theorem a6n (d:Nat){xs ys:Array Value}:∀ (fs:List Field) (i:Nat) (l l':List D) (b:Bool),a5c P i fs=true->a3J l l'=some b->l.length=fs.length ->
  (∀ (j:Nat) (c:D),l[j]? = some c->Rep ρ O w c (xs.getD (i+j) undef))->(∀ (j:Nat) (c:D),l'[j]? = some c->Rep ρ O w c (ys.getD (i+j) undef)) ->
  (∀ j,j<fs.length->i+j<xs.size/\i+j<ys.size)->(Op.eqFields (d+1) xs ys fs).run P w=.ok b w
 | [],i,[],l',b,_,h,_,_,_,_=>by
  cases l' with
  | nil=>simp only [a3J,d9z] at h;subst h;rfl
  | cons=>simp [a3J] at h
 | f::fs,i,c::l,l',b,hf,h,hl,hx,hy,hin=>by
  cases l' with
  | nil=>simp [a3J] at h
  | cons c' l' =>
   obtain ⟨a,rfl⟩:∃ a,c=.prim (.string a):=by
    unfold a3J at h;split at h<;>try(cases h;done)
    ·simp at *
    ·rename_i h1 _;cases h1;exact ⟨_,rfl⟩
   obtain ⟨a',rfl⟩:∃ a,c'=.prim (.string a):=by
    unfold a3J at h;split at h<;>try(cases h;done)
    ·simp at *
    ·rename_i _ h1;cases h1;exact ⟨_,rfl⟩
   simp only [a3J] at h;cases hr:a3J l l' with
   | none=>simp [hr] at h
   | some r =>
    simp only [hr,d9z] at h;simp only [a5c,d9B] at hf;obtain ⟨⟨⟨f1,f2⟩,f3⟩,f4⟩:=hf;have f2:=d9v f2;have f3:P.underlying f.type=some .string:=by split at f3<;>first|assumption|cases f3
    have hxa:xs[i]? = some (.string a):=by
     have:=hx 0 _ rfl
     rw [e0W] at this;have hlt:=(hin 0 (by simp)).1;rw [e0W] at hlt;rw [d9o,d9C hlt,e2o] at this;rw [d9C hlt];generalize xs[i]=q at this;cases this;rfl
    have hya:ys[i]? = some (.string a'):=by
     have:=hy 0 _ rfl
     rw [e0W] at this;have hlt:=(hin 0 (by simp)).2;rw [e0W] at hlt;rw [d9o,d9C hlt,e2o] at this;rw [d9C hlt];generalize ys[i]=q at this;cases this;rfl
    have ag:(isAgg f.type).run P w=.ok false w:=by
     unfold isAgg;rw [run_bind,a0g f3];rfl
    have part1:(part f.type xs f.offset).run P w=.ok (.string a) w:=by
     unfold part;rw [run_bind,ag];dsimp only;rw [d9m (by simp),f2];simp only [hxa];rfl
    have part2:(part f.type ys f.offset).run P w=.ok (.string a') w:=by
     unfold part;rw [run_bind,ag];dsimp only;rw [d9m (by simp),f2];simp only [hya];rfl
    have hne:f.name ≠ "_":=by simpa using f1
    simp only [Op.eqFields];rw [d9l hne,run_bind,part1];dsimp only;rw [run_bind,part2];dsimp only;rw [run_bind,run_equalIn_string w d f.type a a' f3];dsimp only;have ih:=a6n d fs (i+1) l l' r f4 hr (by simpa using hl) (fun j c hc=>by have:=hx (j+1) c (by simpa using hc);rwa [show i+(j+1)=i+1+j from by omega] at this)
     (fun j c hc=>by have:=hy (j+1) c (by simpa using hc);rwa [show i+(j+1)=i+1+j from by omega] at this) (fun j hj=>by have:=hin (j+1) (by simp;omega);omega)
    subst h;cases hb:a1G a a' with
    | true =>
     unfold a1G at hb;rw [hb];simpa using ih
    | false =>
     unfold a1G at hb;rw [hb];rfl
 | [],_,_::_,_,_,_,_,h,_,_,_=>by simp at h
 | _::_,_,[],_,_,_,_,h,_,_,_=>by simp at h
theorem c2h {t:Nat}{i:a0n}(h:a3i P t=some i)(hc:c9i i.ti=true):∃ u,P.underlying t=some u/\∀ ms,u≠.interface ms:=by
 cases hk:i.ti with
 | int k=>exact ⟨_,b3H h hk,by simp⟩
 | bool=>exact ⟨_,b0X h hk,by simp⟩
 | string=>exact ⟨_,a1W h hk,by simp⟩
 | struct fs=>obtain ⟨a,h1,_⟩:=a5d h hk;exact ⟨_,h1,by simp⟩
 | slice e a b c=>exact ⟨_,(a0y h hk).1,by simp⟩
 | arr n e a=>obtain ⟨a,h1,_⟩:=a9F h hk;exact ⟨_,h1,by simp⟩
 | ptr=>rw [hk] at hc;cases hc
 | other=>rw [hk] at hc;cases hc
theorem c3Z {tt:Nat->Option a0n}{xt:Nat->Option XI}{o:Oper}{g:Operand->D}{ev:Operand->Value}{d:D}{p:Prop}(htt:Tab P tt)(hxt:c3M P xt)(hg:∀ x,Rep ρ O w (g x) (ev x))
  (h:evQ tt xt g o.op=some (d,p)) (hp:p):∃ v,(execOp ev o).run P w=.ok (.value v) w/\Rep ρ O w d v:=by
 unfold execOp;unfold evQ at h;split at h<;>try(cases h;done)
 ·rename_i t x ho
  simp only [ho];split at h<;>try(cases h;done)
  rename_i i hi;split at h<;>try(cases h;done)
  rename_i hc;cases h;obtain ⟨u,h1,h2⟩:=c2h (htt _ _ hi) hc;refine ⟨.iface t (ev x),?_,.ifc (hg x)⟩;rw [run_bind]
  have:(Instr.makeInterface t (ev x)).run P w=.ok (.iface t (ev x)) w:=by
   unfold Instr.makeInterface;rw [run_bind,a0g h1];dsimp only;split
   ·rename_i ms;exact d9n rfl (h2 ms)
   ·rfl
  rw [this];rfl
 ·rename_i t x ix ok ho
  simp only [ho];split at h<;>try(cases h;done)
  rename_i k e z hi;split at h<;>try(cases h;done)
  rename_i ks vs hgx;split at h<;>try(cases h;done)
  rename_i s hgi;obtain ⟨a1,a2,⟨inf,a3,a4⟩,a5⟩:=b3M (hxt _ _ hi);have hx:=hg x;have hy:=hg ix;rw [hgx] at hx;rw [hgi] at hy;generalize ev x=vx at hx;generalize ev ix=vi at hy;cases hy;cases hx with
  | mp hO hr hb h1 h2 hk hv =>
   rename_i r clock es;have hc:(Instr.checkKey es.isEmpty 10000 k (.string s)).run P w=.ok () w:=MapKept.run_checkKey (k:=.string s) a2 (by simp [MapKept.IsKey]) _ 9999;have hz:(zeroValue e).run P w=.ok z w:=a4u a3 a4 w;have find:∀ q,a6y s ks vs=some q->_:=fun q hq=>a7f (ρ:=ρ) (O:=O) (w:=w) (es:=es.toList) 0 hq (by simpa using h1) (by simpa using h2) (fun j d hd=>by simpa [d9o] using hk j d hd) (fun j d hd=>by simpa [d9o] using hv j d hd)
   have okR:∀ (d:D) (v:Value) (b:Bool),Rep ρ O w d v->Rep ρ O w (okD ok d b) (if ok then .tuple #[v,.bool b] else v):=by
    intro d v b hr;cases ok with
    | false=>exact hr
    | true =>
     refine .tup rfl fun i d' hd=>?_
     match i with
     | 0=>simp at hd;subst hd;exact hr
     | 1=>simp at hd;subst hd;exact .prim _
     | n+2=>simp at hd
   split at h<;>try(cases h;done)
   ·rename_i d' hq
    cases h;obtain ⟨j,v,hf,hr'⟩:=find _ hq;refine ⟨_,?_,okR _ v true hr'⟩;rw [run_bind]
    have:(Instr.lookup t (.map (some r)) (.string s) ok).run P w=.ok (if ok then .tuple #[v,.bool true] else v) w:=by
     simp [Instr.lookup,a0g a1,MapKept.run_getObj_map hb,hc,MapKept.run_findKey a2 hf,Result.andThen]
    rw [this];rfl
   ·rename_i hq
    cases h;have hf:=find _ hq;refine ⟨_,?_,okR _ z false (.ofV fun i x hx=>.inl (a5 i x hx))⟩;rw [run_bind]
    have:(Instr.lookup t (.map (some r)) (.string s) ok).run P w=.ok (if ok then .tuple #[z,.bool false] else z) w:=by
     simp [Instr.lookup,a0g a1,MapKept.run_getObj_map hb,hc,MapKept.run_findKey a2 hf,hz,Result.andThen]
    rw [this];rfl
 ·rename_i op t x y yt ho
  simp only [ho];split at h<;>try(cases h;done)
  rename_i n hi;split at h<;>try(cases h;done)
  rename_i l hgx;split at h<;>try(cases h;done)
  rename_i l' hgy;split at h<;>try(cases h;done)
  rename_i b hb;split at h<;>try(cases h;done)
  rename_i c hn;cases h;obtain ⟨fs,a1,a2,a3,a4,a5⟩:=b7N (hxt _ _ hi);have hx:=hg x;have hy:=hg y;rw [hgx] at hx;rw [hgy] at hy;generalize ev x=vx at hx;generalize ev y=vy at hy;have hp:=d9v hp;have hl':=b0q hb;cases hx with
  | agg n1 o1 r1 =>
   cases hy with
   | agg n2 o2 r2 =>
    rename_i xs ys;have eqf:P.fieldsOf t=fs:=by unfold Program.fieldsOf;rw [a1]
    have run:(Op.equalIn 10000 t (.agg xs) (.agg ys)).run P w=.ok b w:=by
     rw [show (10000:Nat)=9998+1+1 from rfl,run_equalIn_struct w _ t xs ys (by rw [eqf];exact a1) a2,eqf];exact a6n (ρ:=ρ) (O:=O) 9998 fs.toList 0 l l' b a4 hb (by simp;omega) (fun j c hc=>by rw [d9S];exact r1 j c hc) (fun j c hc=>by rw [d9S];exact r2 j c hc)
      (fun j hj=>by simp at hj;omega)
    refine ⟨.bool c,?_,.prim _⟩;have r3:(do eqGuard op t x y (.agg xs) (.agg ys);binOp op t (.agg xs) (.agg ys):Sem Value).run P w=.ok (.bool c) w:=by
     rw [run_bind,run_eqGuard_agg w op t x y xs ys a3];dsimp only;unfold c8G at hn;cases op<;>simp only [d9z,reduceCtorEq] at hn
     ·subst hn;rw [run_eql_struct,run];rfl
     ·subst hn;rw [run_neq_struct,run];rfl
    rw [run_bind,r3];rfl
end
def evM (tt:Nat->Option a0n)(n k:Nat)(g:Operand->D):Op->Option (D × Ent × Prop)
 | .makeSlice t l c=>match tt t with
  | some i=>match i.ti with
   | .slice e esz eby ez=>match g l with
    | .prim (.int _ a)=>match g c with
     | .prim (.int _ b)=>some (.osl k n esz 0 a.toNat,⟨k,n,e,esz,List.replicate a.toNat (ofV ez)⟩,0<=a/\a<=b/\(eby:Int)*b<=281474976710656/\b<=9223372036854775807)
     | _=>none
    | _=>none
   | _=>none
  | none=>none
 | _=>none
section
variable {C:Ctx} {F:Fra} {s:St} {ops:Array Oper} {o:Oper} {os:List Oper} {K:St->Prop} {ρ:Lk} {H:Hp} {w:World}
theorem b6h {α:Type}{n i:Nat}{x d:α}(h:(List.replicate n x)[i]? = some d):i<n/\x=d:=by
 rw [List.getElem?_replicate] at h;split at h
 ·rename_i hi;exact ⟨hi,e1K h⟩
 ·cases h
theorem c7m {tt:Nat->Option a0n}{g:Operand->D}{ev:Operand->Value}{n k:Nat}{d:D}{e':Ent}{p:Prop}(htt:Tab C.P tt)(m:Mem C F ρ H w)(fr:∀ k,ρ k n=none)(hlt:∀ e∈H,e.g≠n)
  (hg:∀ x,Rep ρ (Own F.X ρ H) w (g x) (ev x)) (h:evM tt n k g o.op=some (d,e',p)) (hp:p) :
  ∃ v ρ' w',(execOp ev o).run C.P w=.ok (.value v) w'/\a9T C F H ρ w n d (some e') v ρ' w':=by
 unfold evM at h;split at h<;>try(cases h;done)
 rename_i t l c ho;split at h<;>try(cases h;done)
 rename_i i hi;split at h<;>try(cases h;done)
 rename_i e esz eby ez hk;split at h<;>try(cases h;done)
 rename_i kl a hl;split at h<;>try(cases h;done)
 rename_i kc b hc;cases h;obtain ⟨h0,hab,hby,hmx⟩:=hp;obtain ⟨k1,⟨inf,k2,rfl,rfl,k5⟩,k6,k7⟩:=a0y (htt _ _ hi) hk;have h1:=hg l;have h2:=hg c;rw [hl] at h1;rw [hc] at h2;generalize hvl:ev l=vl at h1;generalize hvc:ev c=vc at h2;cases h1;cases h2;have run:=run_make (P:=C.P) w t e inf ez k1 k2 k5 kl kc a b h0 hab hby hmx;have hcell:∀ q,q<b.toNat*inf.size->(madeCells ez.cells (b.toNat*inf.size)).getD q undef=ez.cells.getD (q%inf.size) undef/\q%inf.size<ez.cells.size:=fun q hq=>by
  have hpos:0<inf.size:=by
   rcases e0m inf.size with h|h
   ·rw [h] at hq;simp at hq
   ·exact h
  have hm:q%ez.cells.size<ez.cells.size:=e0k _ (by omega);rw [k6] at hm;refine ⟨?_,by omega⟩;unfold madeCells;simp only [d9o,Array.getElem?_map];rw [d9C (by simpa using hq)];simp only [Array.getElem_range,e2z,e2o];rw [k6,getElem!_pos ez.cells (q%inf.size) (by omega),d9C (by omega)];rfl
 have hec:(ofV ez).cells.length=inf.size/\∀ (j:Nat) (c:D),(ofV ez).cells[j]? = some c->c=.prim (ez.cells.getD j undef):=by
  cases ez
  case tuple vs =>
   have:=k7 0 (.tuple vs) rfl
   simp [Ide.one] at this
  case agg vs =>
   refine ⟨by simp only [ofV,D.cells,d9s,e1w];exact k6,fun j c hc=>?_⟩;simp only [ofV,D.cells,d9E,e1t,Option.map_eq_some_iff] at hc;obtain ⟨x,hx,rfl⟩:=hc;show D.prim x=.prim (vs.getD j undef);rw [d9o,hx];rfl
  all_goals
   refine ⟨k6,fun j c hc=>?_⟩
   match j with
   | 0=>simp only [ofV,D.cells,e2B,d9z] at hc;subst hc;rfl
   | j+1=>simp [ofV,D.cells] at hc
 have hle:a.toNat<=b.toNat:=by omega
 have ho':a2C ρ (Own F.X ρ H) w ⟨k,n,e,inf.size,List.replicate a.toNat (ofV ez)⟩ (madeCells ez.cells (b.toNat*inf.size)):=by
  refine ⟨by simp only [e1E,size_madeCells];exact d9K _ hle,fun q d hd=>?_,fun q v hv=>?_,fun q d j c hd hcj=>?_⟩
  ·obtain ⟨_,rfl⟩:=b6h hd
   exact hec.1
  ·have hq:q<b.toNat*inf.size:=by have:=(Array.getElem?_eq_some_iff.1 hv).1;rw [size_madeCells] at this;exact this
   obtain ⟨c1,c2⟩:=hcell q hq;rw [d9o,hv,e2o,d9o,d9C c2,e2o] at c1;rw [c1];exact k7 _ _ (d9C c2)
  ·obtain ⟨hq,rfl⟩:=b6h hd
   have hj:j<inf.size:=by rw [<- hec.1];exact (List.getElem?_eq_some_iff.1 hcj).1
   rw [hec.2 j c hcj];dsimp only;have hlt2:q*inf.size+j<b.toNat*inf.size:=by
    have:(q+1)*inf.size<=b.toNat*inf.size:=d9K _ (by omega)
    rw [e0e] at this;omega
   rw [(hcell _ hlt2).1,d9O,Nat.mul_add_mod,e0u hj];exact .prim _
 obtain ⟨m1,x1⟩:=m.alloc ⟨k,n,e,inf.size,List.replicate a.toNat (ofV ez)⟩ _ (fr k) (fun e' he' h=>hlt e' he' h.2) ho';refine ⟨.slice (some ⟨w.heap.size,0,none⟩) a.toNat b.toNat,ρ.put k n w.heap.size,_,?_,m1,x1,fun k' g' hg=>by unfold Lk.put;rw [d9m fun h=>hg h.2],?_⟩
 ·unfold execOp
  simp only [ho,hvl,hvc];rw [run_bind,run];rfl
 ·exact d8Y (b:=w.heap.size) (T:=e) (fz:=(0,0)) (d8s _ _ _ _) (by rw [a0A];exact d9l rfl) hle (by rw [size_madeCells]) (by simp only [maxLen];omega)
theorem c6I {tt:Nat->Option a0n}{n k:Nat}{g:Operand->D}{op:Op}{d:D}{e:Ent}{p:Prop}(h:evM tt n k g op=some (d,e,p)):e.g=n:=by
 unfold evM at h
 (repeat' split at h)<;>first|(cases h;done)|(cases h;rfl)
theorem d8E {tt:Nat->Option a0n}(k:Nat)(htt:Tab C.P tt){d:D}{e':Ent}{p:Prop}(hw:a0S ops s.env o=some true)(he:evM tt s.n k (a1m s.env) o.op=some (d,e',p))(hp:p)
  (h:OkL C F ops os ⟨a2f s.env o.dst d,e'::s.H,s.n+1⟩ K):OkL C F ops (o::os) s K :=
 OkL.step hw (fun ρ a w hs=>by
  obtain ⟨v,ρ',w',h1,h2⟩:=c7m htt hs.mem (fun k=>hs.fresh k _ (d9y _)) (fun e he=>Nat.ne_of_lt (hs.gen e he)) (a0Z hs.env) he hp;refine ⟨v,ρ',w',.inl h1,⟨h2.mem,h2.ext,fun k g hg=>by rw [h2.far k g (by omega)];exact hs.fresh k g (by omega),h2.rep⟩,fun e he2=>?_⟩;rcases d9F.1 he2 with rfl|he2
  ·have:=c6I he;omega
  ·exact e0G (hs.gen e he2)) h
theorem OkL.l' {tt:Nat->Option a0n}(k:Nat)(htt:Tab C.P tt){d:D}{ne:Option Ent}{p:Prop}(hw:a0S ops s.env o=some true)(he:evL tt s.H s.n k (a1m s.env) o.op=some (d,ne,p))(hp:p)
  (h:OkL C F ops os ⟨a2f s.env o.dst d,a4G ne s.H,s.n+1⟩ K):OkL C F ops (o::os) s K :=
 OkL.step hw (fun ρ a w hs=>by
  obtain ⟨v,ρ',w',h1,h2⟩:=c3Y (fun _ h=>h) htt hs.mem (fun k=>hs.fresh k _ (d9y _)) (fun e he=>Nat.ne_of_lt (hs.gen e he)) (a0Z hs.env) he hp;refine ⟨v,ρ',w',.inl h1,⟨h2.mem,h2.ext,fun k g hg=>by rw [h2.far k g (by omega)];exact hs.fresh k g (by omega),h2.rep⟩,fun e he'=>?_⟩;cases ne with
  | none=>exact e0G (hs.gen e he')
  | some e' =>
   rcases d9F.1 he' with rfl|he'
   ·have:=b8R he
    omega
   ·exact e0G (hs.gen e he')) h
theorem OkL.q {tt:Nat->Option a0n}{xt:Nat->Option XI}(htt:Tab C.P tt)(hxt:c3M C.P xt){d:D}{p:Prop}(hw:a0S ops s.env o=some true)(he:evQ tt xt (a1m s.env) o.op=some (d,p))(hp:p)
  (h:OkL C F ops os ⟨a2f s.env o.dst d,s.H,s.n+1⟩ K):OkL C F ops (o::os) s K :=
 OkL.step hw (fun ρ a w hs=>by
  obtain ⟨v,h1,h2⟩:=c3Z htt hxt (a0Z hs.env) he hp;exact ⟨v,ρ,w,.inl h1,.pure hs h2,fun e he=>e0G (hs.gen e he)⟩) h
theorem a8U {f t:Nat}{name:String}{d0:D}{r:Operand}{args:Array Operand}{tys:Array Nat}{a:Act}(ho:o.op=.call ⟨.invoke r name,args,tys⟩)(hr:a1m s.env r=.ifc t d0)
  (hm:∀ v w,(method (C.P.types.size+Made.depth) t v name).run C.P w=.ok (f,v) w) (hcall:a3E C.P f) (hs:Sat C F ρ s a w) :
  ∃ vs,(execOp a.eval o).run C.P w=.ok (.enter f vs) w/\vs.size=(d0::args.toList.map (a1m s.env)).length /\
   ∀ (i:Nat) (d:D),(d0::args.toList.map (a1m s.env))[i]? = some d->Rep ρ (Own F.X ρ s.H) w d (vs.getD i undef):=by
 have hrr:=a0Z hs.env r;rw [hr] at hrr;generalize hv:a.eval r=v at hrr;cases hrr with
 | ifc h0 =>
  rename_i v0;refine ⟨#[v0]++args.map a.eval,?_,by simp;omega,fun i d hd=>?_⟩
  ·unfold execOp
   simp only [ho];rw [run_bind]
   have:(resolve a.eval ⟨.invoke r name,args,tys⟩ o.type).run C.P w=.ok { target:=.fn (.method name) #[],args:=#[.iface t v0]++args.map a.eval } w:=by
    unfold resolve;simp only [hv];rfl
   rw [this];dsimp only;unfold invoke;have g0:(#[Value.iface t v0]++args.map a.eval)[0]? = some (.iface t v0):=by rw [e0F (by simp)];rfl
   have g1:(#[Value.iface t v0]++args.map a.eval).extract 1 (#[Value.iface t v0]++args.map a.eval).size=args.map a.eval:=by
    apply Array.ext_getElem?;intro q;rw [Array.getElem?_extract];simp only [e1V,e2x,d9u,d9R,Array.size_map];rw [e0y (by simp)];simp only [e2x,d9u,d9R];split
    ·congr 1;omega
    ·rw [e2i (by simp;omega)]
   simp only [g0,g1];unfold callMethod;simp only [];rw [run_bind,a4t];dsimp only;rw [run_bind,hm];dsimp only;exact a4N hcall _ w
  ·cases i with
   | zero =>
    simp at hd;subst hd
    have:(#[v0]++args.map a.eval).getD 0 undef=v0:=by rw [d9o,e0F (by simp)];rfl
    rw [this];exact h0
   | succ i =>
    simp only [e1l,d9E,e1t,Option.map_eq_some_iff] at hd;obtain ⟨x,hx,rfl⟩:=hd
    have:(#[v0]++args.map a.eval).getD (i+1) undef=a.eval x:=by
     simp only [d9o];rw [e0y (by simp)];simp [hx]
    rw [this];exact a0Z hs.env x
theorem d8D {f t:Nat}{name:String}{d0:D}{ds:List D}{r:Operand}{args:Array Operand}{tys:Array Nat}{Φ:D->Hp->Nat->Prop}(hw:a0S ops s.env o=some true)(ho:o.op=.call ⟨.invoke r name,args,tys⟩)(hr:a1m s.env r=.ifc t d0)
  (hm:∀ v w,(method (C.P.types.size+Made.depth) t v name).run C.P w=.ok (f,v) w) (hds:d0::args.toList.map (a1m s.env)=ds) (hc:a0z C f ds s.H s.n Φ)
  (h:∀ d H' n',Φ d H' n'->OkL C F ops os ⟨a2f s.env o.dst d,H',n'⟩ K):OkL C F ops (o::os) s K:=by
 intro hd l hl ρ a w hs;cases l with
 | nil=>simp at hl
 | cons i l =>
  simp only [e0I,e0P] at hl;simp only [e1f,d9B] at hd;obtain ⟨vs,h1,h2,h3⟩:=a8U ho hr hm hc.1 hs;rw [hds] at h2 h3;simp only [wpOps,hl.1];rw [d9l (a2P hs.env hw)];refine .inl ?_;unfold Oper.wp;rw [h1];refine (hc.2 F ρ w vs hs.mem hs.fresh hs.gen h2 h3).mono ?_;rintro e w' ⟨v,d,H',n',ρ',rfl,hΦ,m,x,fr,g,r⟩;exact h d H' n' hΦ hd.2 l hl.2 ρ' (a.put o.dst v) w' (hs.put m x fr g r hd.1)
structure c8N (es:Array MapEntry)(ks vs:List D):Prop where
 h1:es.size=ks.length
 h2:es.size=vs.length
 hk:∀ (i:Nat) (d:D),ks[i]? = some d->∀ ρ O w,Rep ρ O w d (es.getD i default).key
 hv:∀ (i:Nat) (d:D),vs[i]? = some d->∀ ρ O w,Rep ρ O w d (es.getD i default).val
def OkM (C:Ctx)(F:Fra)(ops:Array Oper)(os:List Oper)(m:Nat)(ks vs:List D)(s:St)(K:St->Prop):Prop :=
 os.all (a2m F.nt)=true->∀ (l:List Nat),l.map (ops[·]?)=os.map some->∀ ρ a w es clock,Sat C F ρ s a w->a.tmps.getD m undef=.map (some w.heap.size)->m<a.tmps.size->c8N es ks vs ->
  wpOps C.P ops (Fin C F K) l a (w.alloc (.map es clock))
theorem OkM.start {m T:Nat}(hgd:o.guard=none)(ho:o.op=.makeMap T none)(hd:o.dst=some m)(h:OkM C F ops os m [] [] ⟨a2f s.env (some m) .any,s.H,s.n+1⟩ K):OkL C F ops (o::os) s K:=by
 intro hds l hl ρ a w hs;cases l with
 | nil=>simp at hl
 | cons i l =>
  simp only [e0I,e0P] at hl;simp only [e1f,d9B] at hds;simp only [wpOps,hl.1];rw [d9l (a2P hs.env (by unfold a0S;rw [hgd]))];refine .inl ?_;have hrun:(execOp a.eval o).run C.P w=.ok (.value (.map (some w.heap.size))) (w.alloc (.map #[] 0)):=by
   unfold execOp;simp only [ho];rw [run_bind];rfl
  unfold Oper.wp;rw [hrun];have hm:m<a.tmps.size:=by
   have h1:=hds.1;rw [hs.nt];unfold a2m at h1;rw [hd] at h1;exact Nat.blt_eq.mp h1
  have sat:=hs.put (o:=o) (d:=.any) (v:=.map (some w.heap.size)) hs.mem (.refl _ _ _) (fun k g hg=>hs.fresh k g (by omega:s.n<=g)) (fun e he=>e0G (hs.gen e he)) (.any _) hds.1;show wpOps C.P ops (Fin C F K) l (a.put o.dst (.map (some w.heap.size))) (w.alloc (.map #[] 0));rw [hd] at sat ⊢;refine h hds.2 l hl.2 ρ (a.put (some m) (.map (some w.heap.size))) w #[] 0 sat ?_ (by simp [Act.put,hm]) ⟨rfl,rfl,by simp,by simp⟩;show (a.tmps.setIfInBounds m (.map (some w.heap.size))).getD m undef=_;rw [d9o,e0q,d9l rfl,d9l hm];rfl
theorem b0a.agg {l:List D}(h:∀ d∈l,b0a d):b0a (.agg l):=fun _ _ _ _ _ _ _ hr=>by
 cases hr with|agg hn ho hh=>exact .agg hn ho fun i d hd=>h d (d9r hd) _ _ _ _ _ _ _ (hh i d hd)
theorem b0a.clo {fn:Fn}:b0a (.clo fn [] []):=fun _ _ _ _ _ _ _ hr=>by
 cases hr with|clo hf hc _ _=>exact .clo hf hc (by simp) (by simp)
theorem OkM.p {tt:Nat->Option a0n}(htt:Tab C.P tt){m t:Nat}{ks vs:List D}{d:D}{p:Prop}(hw:a0S ops s.env o=some true)(he:evP tt (a1m s.env) o.op=some (d,p))(hp:p)(hflat:b0a d)(hd:o.dst=some t)(hne:t≠m)
  (h:OkM C F ops os m ks vs ⟨a2f s.env (some t) d,s.H,s.n+1⟩ K):OkM C F ops (o::os) m ks vs s K:=by
 intro hds l hl ρ a w es clock hs hm hlt hr;cases l with
 | nil=>simp at hl
 | cons i l =>
  simp only [e0I,e0P] at hl;simp only [e1f,d9B] at hds;simp only [wpOps,hl.1];rw [d9l (a2P hs.env hw)];refine .inl ?_;have x:=Ext.allocPure (ρ:=ρ) (F:=F) (H:=s.H) (w:=w) (.map es clock);obtain ⟨v,h1,h2⟩:=b8T (ρ:=ρ) (O:=Own F.X ρ s.H) (w:=w.alloc (.map es clock)) htt (fun y=>(a0Z hs.env y).mono x) he hp;unfold Oper.wp;rw [h1];have sat:=hs.put (o:=o) (d:=d) (v:=v) hs.mem (.refl _ _ _) (fun k g hg=>hs.fresh k g (by omega:s.n<=g)) (fun e he=>e0G (hs.gen e he)) (hflat _ _ _ _ _ _ _ h2) hds.1;show wpOps C.P ops (Fin C F K) l (a.put o.dst v) (w.alloc (.map es clock));rw [hd] at sat ⊢;refine h hds.2 l hl.2 ρ (a.put (some t) v) w es clock sat ?_ (by simp [Act.put,hlt]) hr;show (a.tmps.setIfInBounds t v).getD m undef=_;rw [d9o,e0q,d9m hne,<- d9o];exact hm
theorem d8F {m t T k e:Nat}{z:Value}{key:ByteArray}{d:D}{ks vs:List D}{xt:Nat->Option XI}(hxt:c3M C.P xt)(hT:xt T=some (.map k e z))(hgd:o.guard=none)(ho:o.op=.insert T (.tmp m) (.const (.string key)) (.tmp t))(hd:o.dst=none)
  (hnew:a6y key ks vs=some none) (hv:s.env.get t=d) (hflat:∀ ρ O w v,Rep ρ O w d v->∀ ρ' O' w',Rep ρ' O' w' d v)
  (h:OkM C F ops os m (ks++[.prim (.string key)]) (vs++[d]) ⟨s.env,s.H,s.n+1⟩ K):OkM C F ops (o::os) m ks vs s K:=by
 intro hds l hl ρ a w es clock hs hm hlt hr;cases l with
 | nil=>simp at hl
 | cons i l =>
  simp only [e0I,e0P] at hl;simp only [e1f,d9B] at hds;simp only [wpOps,hl.1];rw [d9l (a2P hs.env (by unfold a0S;rw [hgd]))];refine .inl ?_;obtain ⟨a1,a2,_,_⟩:=b3M (hxt _ _ hT);have hb:(w.alloc (.map es clock)).heap[w.heap.size]? = some (.map es clock):=by rw [a0A,d9l rfl]
  have hc:(Instr.checkKey false 10000 k (.string key)).run C.P (w.alloc (.map es clock))=.ok () (w.alloc (.map es clock)):=MapKept.run_checkKey (k:=.string key) a2 (by simp [MapKept.IsKey]) false 9999;have hf:Instr.findNow .string (.string key) es.toList 0=some none :=
   a7f (ρ:=ρ) (O:=fun _=>False) (w:=w) (es:=es.toList) 0 hnew (by simpa using hr.h1) (by simpa using hr.h2) (fun j d hd=>by simpa [d9o] using hr.hk j d hd ρ (fun _=>False) w)
    (fun j d hd=>by simpa [d9o] using hr.hv j d hd ρ (fun _=>False) w)
  generalize hvt:a.tmps.getD t undef=vt;have hset:{ (w.alloc (.map es clock)) with heap:=(w.alloc (.map es clock)).heap.setIfInBounds w.heap.size (.map (es.push { key:=.string key,val:=vt,born:=clock }) (clock+1)) } =
    w.alloc (.map (es.push { key:=.string key,val:=vt,born:=clock }) (clock+1)):=by
   show ({ w with heap:=(w.heap.push (.map es clock)).setIfInBounds w.heap.size _ }:World)={ w with heap:=w.heap.push _ }
   congr 1
   apply Array.ext_getElem?;intro q;rw [e0q,e1U,e1U]
   by_cases hq:w.heap.size=q
   ·subst hq;simp
   ·rw [d9m hq,d9m (Ne.symm hq),d9m (Ne.symm hq)]
  have hrun:(execOp a.eval o).run C.P (w.alloc (.map es clock))=.ok .skip (w.alloc (.map (es.push { key:=.string key,val:=vt,born:=clock }) (clock+1))):=by
   unfold execOp;simp only [ho];rw [run_bind]
   have:(Instr.mapUpdate T (a.eval (.tmp m)) (a.eval (.const (.string key))) (a.eval (.tmp t))).run C.P (w.alloc (.map es clock))=.ok () (w.alloc (.map (es.push { key:=.string key,val:=vt,born:=clock }) (clock+1))):=by
    have e1:a.eval (.tmp m)=.map (some w.heap.size):=hm;have e2:a.eval (.const (.string key))=.string key:=rfl;have e3:a.eval (.tmp t)=vt:=hvt;rw [e1,e2,e3,<- hset];simp [Instr.mapUpdate,a0g a1,MapKept.run_getObj_map hb,hc,MapKept.run_findKey a2 hf,MapKept.run_setObj_map _ hb,Result.andThen]
   rw [this];rfl
  unfold Oper.wp;rw [hrun];show wpOps C.P ops (Fin C F K) l (a.put o.dst undef) (w.alloc (.map (es.push { key:=.string key,val:=vt,born:=clock }) (clock+1)));rw [hd];have hrv:=hs.env t;rw [hv,hvt] at hrv;refine h hds.2 l hl.2 ρ _ w _ _ ⟨hs.mem,fun k g hg=>hs.fresh k g (by have:s.n+1<=g:=hg;omega),fun e he=>e0G (hs.gen e he),hs.env,hs.nt,hs.dfr⟩ hm hlt ⟨by simp [hr.h1],by simp [hr.h2],fun i d' hd'=>?_,fun i d' hd'=>?_⟩
  ·rcases d9H i ks.length with hi|hi
   ·rw [e0g hi] at hd'
    have:=hr.hk i d' hd'
    rw [d9o,e1U,d9m (by rw [hr.h1];omega),<- d9o];exact this
   ·rw [e0b hi] at hd'
    have hz:i=ks.length:=by
     have:=(List.getElem?_eq_some_iff.1 hd').1
     simp at this;omega
    subst hz;simp at hd';subst hd';rw [d9o,e1U,d9l hr.h1.symm];exact fun _ _ _=>.prim _
  ·rcases d9H i vs.length with hi|hi
   ·rw [e0g hi] at hd'
    have:=hr.hv i d' hd'
    rw [d9o,e1U,d9m (by rw [hr.h2];omega),<- d9o];exact this
   ·rw [e0b hi] at hd'
    have hz:i=vs.length:=by
     have:=(List.getElem?_eq_some_iff.1 hd').1
     simp at this;omega
    subst hz;simp at hd';subst hd';rw [d9o,e1U,d9l hr.h2.symm];exact fun ρ' O' w'=>hflat _ _ _ _ hrv ρ' O' w'
theorem OkM.done {m:Nat}{ks vs:List D}(h:OkL C F ops os ⟨a2f s.env (some m) (.mp ks vs),s.H,s.n⟩ K):OkM C F ops os m ks vs s K:=by
 intro hds l hl ρ a w es clock hs hm hlt hr;have hO:¬ Own F.X ρ s.H w.heap.size:=fun h'=>d9n (hs.mem.own_lt h') (Nat.lt_irrefl _)
 have x:=Ext.allocPure (ρ:=ρ) (F:=F) (H:=s.H) (w:=w) (.map es clock);refine h hds l hl ρ a _ ⟨hs.mem.allocPure _,hs.fresh,hs.gen,fun t=>?_,hs.nt,hs.dfr⟩;show Rep _ _ _ (Env.get ((m,.mp ks vs)::s.env) t) _;rw [d8k]
 by_cases ht:m=t
 ·subst ht
  rw [d9l rfl,hm];exact .mp hO (by simp) (by rw [a0A,d9l rfl]) hr.h1 hr.h2 (fun i d hd=>hr.hk i d hd _ _ _) (fun i d hd=>hr.hv i d hd _ _ _)
 ·rw [d9m ht];exact (hs.env t).mono x
def a4I (C:Ctx)(f:Nat)(ds:List D)(d:D):Prop:=∀ (ρ:Lk) (O:Nat->Prop) (w:World) (vs:Array Value),vs.size=ds.length->(∀ (i:Nat) (x:D),ds[i]? = some x->Rep ρ O w x (vs.getD i undef)) ->
 ∃ v,(callFunc f vs).run C.P w=.ok (.value v) w/\Rep ρ O w d v
theorem a8u {f:Nat}{g:Operand->D}{O:Nat->Prop}{first captured:List D}{fop:Operand}{args:Array Operand}{tys:Array Nat}{ρ:Lk}{a:Act}{w:World}(ho:o.op=.call ⟨.value fop,args,tys⟩)
  (hf:g fop=.clo (.func f) first captured) (hg:∀ x,Rep ρ O w (g x) (a.eval x)) :
  ∃ vs,(execOp a.eval o).run C.P w=(callFunc f vs).run C.P w/\vs.size=(first++args.toList.map g++captured).length /\
   ∀ (i:Nat) (d:D),(first++args.toList.map g++captured)[i]? = some d->Rep ρ O w d (vs.getD i undef):=by
 have hfr:=hg fop;rw [hf] at hfr;generalize hv:a.eval fop=v at hfr;cases hfr with
 | clo hn hc h1 h2 =>
  rename_i fs cs;refine ⟨fs++args.map a.eval++cs,?_,by simp [hn,hc],fun i d hd=>?_⟩
  ·unfold execOp
   simp only [ho];rw [run_bind]
   have:(resolve a.eval ⟨.value fop,args,tys⟩ o.type).run C.P w=.ok { target:=.fn (.func f) cs,args:=fs++args.map a.eval } w:=by
    unfold resolve;simp only [hv];rfl
   rw [this];dsimp only;unfold invoke;rfl
  ·rw [e0J] at hd
   rcases d9H i first.length with hi|hi
   ·rw [e0g hi] at hd
    have:(fs++args.map a.eval++cs).getD i undef=fs.getD i undef:=by
     simp only [d9o];rw [e2b,e0F (by omega)]
    rw [this];exact h1 i d hd
   ·rw [e0b hi] at hd
    rcases d9H (i - first.length) args.size with hj|hj
    ·rw [e0g (by simpa using hj)] at hd
     simp at hd;obtain ⟨x,hx,rfl⟩:=hd
     have:(fs++args.map a.eval++cs).getD i undef=a.eval x:=by
      simp only [d9o];rw [e2b,e0y (by omega),e0F (by simp;omega),hn];simp [hx]
     rw [this];exact hg x
    ·rw [e0b (by simpa using hj)] at hd
     have:(fs++args.map a.eval++cs).getD i undef=cs.getD (i - first.length - args.size) undef:=by
      simp only [d9o];rw [e2b,e0y (by omega),e0y (by simp;omega),hn];simp
     rw [this];exact h2 _ d (by simpa using hd)
theorem OkL.nat {f:Nat}{first captured ds:List D}{fop:Operand}{args:Array Operand}{tys:Array Nat}{d:D}(hw:a0S ops s.env o=some true)(ho:o.op=.call ⟨.value fop,args,tys⟩)
  (hf:a1m s.env fop=.clo (.func f) first captured) (hds:first++args.toList.map (a1m s.env)++captured=ds) (hc:a4I C f ds d)
  (h:OkL C F ops os ⟨a2f s.env o.dst d,s.H,s.n+1⟩ K):OkL C F ops (o::os) s K :=
 OkL.step hw (fun ρ a w hs=>by
  obtain ⟨vs,h1,h2,h3⟩:=a8u (C:=C) (a:=a) ho hf (a0Z hs.env);rw [hds] at h2 h3;obtain ⟨v,h4,h5⟩:=hc _ _ _ vs h2 h3;exact ⟨v,ρ,w,.inl (h1.trans h4),.pure hs h5,fun e he=>e0G (hs.gen e he)⟩) h
theorem a0s.nat {H:Hp}{g f:Nat}{env:Env}{first captured ds:List D}{fop:Operand}{args:Array Operand}{tys:Array Nat}{d:D}(hw:a0S ops env o=some true)(ho:o.op=.call ⟨.value fop,args,tys⟩)
  (hf:a1m env fop=.clo (.func f) first captured) (hds:first++args.toList.map (a1m env)++captured=ds) (hc:a4I C f ds d):a0s C F ops H g env o d none:=by
 refine ⟨by simp,fun He ρ a w m hsub fr hne hr=>.inr ⟨a1r hr hw,.inl ?_⟩⟩;obtain ⟨g',h1,h2⟩:=a2y hr;have hfop:fop∈o.op.operands:=by rw [ho];simp [Op.operands,Call.operands]
 have harg:∀ x∈args.toList,a1m env x=g' x:=fun x hx=>h1 x (by rw [ho];simp [Op.operands,Call.operands];right;simpa using hx)
 rw [h1 fop hfop] at hf;rw [a2e harg] at hds;obtain ⟨vs,q1,q2,q3⟩:=a8u (C:=C) (g:=g') ho hf h2;rw [hds] at q2 q3;obtain ⟨v,h4,h5⟩:=hc _ _ _ vs q2 q3;exact ⟨v,ρ,w,q1.trans h4,m,.refl _ _ _,fun _ _ _=>rfl,h5⟩
end
def d2R (op:BinOp)(k k':IntKind)(b:Int):Bool:=match op with
 | .quo | .rem=>decide (k=k') && !(decide (b=0))
 | .shl | .shr=>decide (0<=b)
 | _=>decide (k=k')
def okV (op:BinOp)(x y:Value):Bool:=match x,y with
 | .int k _,.int k' b=>d2R op k k' b
 | .string a,.string b=>match op with
  | .add=>Nat.ble (a.size+b.size) 9223372036854775807
  | _=>true
 | _,_=>true
theorem c5E {op:BinOp}{x y v:Value}{p:Prop}(h:c8z op x y=some (v,p))(hk:okV op x y=true):p:=by
 unfold c8z at h;unfold okV at hk;split at h
 ·dsimp only at hk
  unfold d2R at hk;cases op<;>simp only [d9z,d9Q] at h<;>obtain ⟨_,rfl⟩:=h<;>simpa using hk
 ·cases op<;>simp only [d9z,d9Q,reduceCtorEq] at h<;>obtain ⟨_,rfl⟩:=h<;>first|trivial|(dsimp only at hk;exact d9A hk)
 ·cases h
def okE (ti:TI)(x y:D):Bool:=match ti,x,y with
 | .slice ..,.sl false _ es,.prim (.slice none _ _)=>!es.isEmpty
 | _,_,_=>true
theorem d2Q {ti:TI}{x y:D}{b:Bool}{p:Prop}(h:eqV ti x y=some (b,p))(hk:okE ti x y=true):p:=by
 unfold eqV at h;split at h<;>try(cases h;done)
 all_goals (simp only [d9z,d9Q] at h;obtain ⟨_,rfl⟩:=h)
 all_goals first
  | trivial
  | (simp only [okE] at hk;intro he;subst he;simp at hk)
def c7u (tt:Nat->Option a0n)(op:BinOp)(t:Nat)(x y:D):Bool:=match x,y with
 | .prim (.int k a),.prim (.int k' b)=>okV op (.int k a) (.int k' b)
 | .prim (.string a),.prim (.string b)=>okV op (.string a) (.string b)
 | x,y=>match tt t with
  | some i=>okE i.ti x y
  | none=>true
theorem c2Z {tt:Nat->Option a0n}{op:BinOp}{t:Nat}{x y d:D}{p:Prop}(h:c9a tt op t x y=some (d,p))(hk:c7u tt op t x y=true):p:=by
 unfold c9a at h;unfold c7u at hk;split at h
 ·dsimp only at hk
  split at h<;>try(cases h;done)
  rename_i hb;cases h;exact c5E hb hk
 ·dsimp only at hk
  split at h<;>try(cases h;done)
  rename_i hb;cases h;exact c5E hb hk
 ·rename_i h1 h2
  split at hk
  ·exact d9n rfl (h1 _ _ _ _ rfl)
  ·exact d9n rfl (h2 _ _ rfl)
  ·split at h<;>try(cases h;done)
   rename_i i hi;split at h<;>try(cases h;done)
   rename_i b q hb;split at h<;>try(cases h;done)
   cases h;rw [hi] at hk;exact d2Q hb hk
def b6S (ag:Bool)(sz:Nat)(d:D):Bool:=match ag with
 | true=>match d with
  | .agg ds=>Nat.beq ds.length sz
  | _=>false
 | false=>Nat.beq sz 1&&d.one
theorem a6p {ag:Bool}{sz:Nat}{d:D}(h:b6S ag sz d=true):a0Y ag sz d:=by
 unfold b6S at h;split at h
 ·split at h
  ·rw [<- d9v h];exact a0Y.agg
  ·cases h
 ·simp only [d9B] at h
  rw [d9v h.1];exact d9a h.2
def b5V (fs:List (Nat × Nat × Bool))(g:Operand->D):List (Nat × Operand)->List D->Bool
 | [],_=>true
 | (i,x)::r,cs=>match fs[i]? with
  | some (o,sz,ag)=>b6S ag sz (g x)&&Nat.ble (o+sz) cs.length&&b5V fs g r (b1P cs o (a0R ag (g x)))
  | none=>true
theorem b3k {fs:List (Nat × Nat × Bool)}{g:Operand->D}:∀ {ps:List (Nat × Operand)} {cs cs':List D} {p:Prop},a6Y fs g ps cs=some (cs',p)->b5V fs g ps cs=true->p
 | [],cs,cs',p,h,_=>by simp only [a6Y,d9z,d9Q] at h;obtain ⟨_,rfl⟩:=h;trivial
 | (i,x)::r,cs,cs',p,h,hk=>by
  simp only [a6Y] at h;simp only [b5V] at hk;cases hf:fs[i]? with
  | none=>simp [hf] at h
  | some q =>
   obtain ⟨o,sz,ag⟩:=q;simp only [hf] at h hk;cases hr:a6Y fs g r (b1P cs o (a0R ag (g x))) with
   | none=>simp [hr] at h
   | some q =>
    obtain ⟨c2,p2⟩:=q;simp only [hr,d9z,d9Q] at h;obtain ⟨_,rfl⟩:=h;simp only [d9B] at hk;exact ⟨⟨a6p hk.1.1,d9A hk.1.2⟩,b3k hr hk.2⟩
def d2O (n:Nat):D->Bool
 | .prim (.int _ x)=>decide (0<=x)&&decide (x<=n)
 | _=>true
theorem b1D {n m:Nat}{d:D}{p:Prop}(h:b2j n d=some (m,p))(hk:d2O n d=true):p:=by
 unfold b2j at h;split at h
 ·simp only [d9z,d9Q] at h;obtain ⟨_,rfl⟩:=h
  simpa [d2O] using hk
 ·cases h
def c0i (n:Nat)(lo hi:Option D):Bool:=match hi with
 | none=>match lo with
  | none=>true
  | some l=>d2O n l
 | some h=>d2O n h&&(match b2j n h with
  | some (m,_)=>match lo with
   | none=>true
   | some l=>d2O m l
  | none=>true)
theorem b1E {n a b:Nat}{lo hi:Option D}{p:Prop}(h:a4K n lo hi=some (a,b,p))(hk:c0i n lo hi=true):p:=by
 unfold a4K at h;unfold c0i at hk;cases hi with
 | none =>
  cases lo with
  | none=>simp only [d9z,d9Q] at h;obtain ⟨_,_,rfl⟩:=h;trivial
  | some l =>
   dsimp only at h hk;split at h<;>try(cases h;done)
   rename_i hb;cases h;exact b1D hb hk
 | some hh =>
  dsimp only at h hk;simp only [d9B] at hk;split at h<;>try(cases h;done)
  rename_i m q hb;rw [hb] at hk;cases lo with
  | none=>cases h;exact b1D hb hk.1
  | some l =>
   dsimp only at h hk;split at h<;>try(cases h;done)
   rename_i hb2;cases h;exact ⟨b1D hb hk.1,b1D hb2 hk.2⟩
def b4F (tt:Nat->Option a0n)(t:Nat)(x:D)(lo hi:Option D):Bool:=match tt t with
 | some i=>match i.ti,x with
  | .string,.prim (.string s)=>c0i s.size lo hi
  | .slice _ esz _ _,.sl _ sz es=>c0i es.length lo hi&&Nat.beq esz sz
  | .slice _ esz _ _,.osl _ _ sz _ len=>c0i len lo hi&&Nat.beq esz sz&&(match a4K len lo hi with
   | some (l,h,_)=>Nat.blt l h||Nat.beq l 0
   | none=>true)
  | _,_=>true
 | none=>true
theorem b7j {tt:Nat->Option a0n}{t:Nat}{x d:D}{lo hi:Option D}{p:Prop}(h:b3B tt t x lo hi=some (d,p))(hk:b4F tt t x lo hi=true):p:=by
 unfold b3B at h;unfold b4F at hk;cases hi':tt t with
 | none=>simp [hi'] at h
 | some i =>
  simp only [hi'] at h hk;split at h<;>try(cases h;done)
  ·rename_i hti
   simp only [hti] at hk;split at h<;>try(cases h;done)
   rename_i hb;cases h;exact b1E hb hk
  ·rename_i hti
   simp only [hti,d9B] at hk;split at h<;>try(cases h;done)
   rename_i hb;cases h;exact ⟨b1E hb hk.1,d9v hk.2⟩
  ·rename_i hti
   simp only [hti,d9B] at hk;split at h<;>try(cases h;done)
   rename_i l hh q hb;cases h;simp only [hb] at hk;refine ⟨b1E hb hk.1.1,d9v hk.1.2,?_⟩
   have:=hk.2
   simp only [e2d] at this;exact this.imp Nat.blt_eq.mp d9v
theorem b2K {k:IntKind}:∀ {r:List D} {a:Int} {d:D} {p:Prop},a4S k a r=some (d,p)->p
 | [],a,d,p,h=>by simp only [a4S,d9z,d9Q] at h;obtain ⟨_,rfl⟩:=h;trivial
 | x::r,a,d,p,h=>by
  unfold a4S at h;split at h
  ·rename_i h1;cases h1
  ·rename_i h1;cases h1;exact b2K h
  ·cases h
theorem b2J {k:IntKind}:∀ {r:List D} {a:Int} {d:D} {p:Prop},a4R k a r=some (d,p)->p
 | [],a,d,p,h=>by simp only [a4R,d9z,d9Q] at h;obtain ⟨_,rfl⟩:=h;trivial
 | x::r,a,d,p,h=>by
  unfold a4R at h;split at h
  ·rename_i h1;cases h1
  ·rename_i h1;cases h1;exact b2J h
  ·cases h
theorem b6D {tt:Nat->Option a0n}{b:Builtin}{tys:List Nat}{args:List D}{d:D}{p:Prop}(h:a6k tt b tys args=some (d,p)):p:=by
 unfold a6k at h
 (repeat' split at h)<;>first|(cases h;done)|(cases h;trivial)|exact b2K h|exact b2J h
def okP (tt:Nat->Option a0n)(g:Operand->D):Op->Bool
 | .pick c a b=>match g c with
  | .prim (.bool true)=>(asB (g a)).2
  | .prim (.bool false)=>(asB (g b)).2
  | _=>true
 | .build t ps=>match tt t with
  | some i=>match b1F i.ti with
   | some fs=>b5V fs g ps.toList (i.zero.cells.toList.map .prim)
   | none=>true
  | none=>true
 | .binOp op t x y _=>c7u tt op t (g x) (g y)
 | .slice t x lo hi none=>b4F tt t (g x) (lo.map g) (hi.map g)
 | .indexAddr t x ix=>match tt t with
  | some i=>match i.ti,g ix with
   | .arr n _ _,.prim (.int _ j)=>decide (0<=j)&&decide (j<n)
   | .slice _ esz _ _,.prim (.int _ j)=>match g x with
    | .osl _ _ sz _ len=>decide (0<=j)&&decide (j<len)&&Nat.beq esz sz
    | _=>true
   | _,_=>true
  | none=>true
 | .index t x ix=>match tt t with
  | some i=>match i.ti,g x,g ix with
   | .string,.prim (.string s),.prim (.int _ j)=>decide (0<=j)&&decide (j<s.size)
   | _,_,_=>true
  | none=>true
 | _=>true
theorem c0m {tt:Nat->Option a0n}{g:Operand->D}{op:Op}{d:D}{p:Prop}(h:evP tt g op=some (d,p))(hk:okP tt g op=true):p:=by
 unfold evP at h;split at h<;>try(cases h;done)
 ·cases h;trivial
 ·cases h;trivial
 ·rename_i c a b
  simp only [okP] at hk;split at h<;>try(cases h;done)
  rename_i t hc;rw [hc] at hk;cases h;cases t
  ·exact ⟨fun h=>(by cases h),fun _=>hk⟩
  ·exact ⟨fun _=>hk,fun h=>(by cases h)⟩
 ·rename_i t ps
  simp only [okP] at hk;unfold b2k at h;split at h<;>try(cases h;done)
  rename_i i hi;simp only [hi] at hk;split at h<;>try(cases h;done)
  rename_i fs hf;simp only [hf] at hk;split at h<;>try(cases h;done)
  rename_i hfl;cases h;exact b3k hfl hk
 ·split at h<;>first|(cases h;done)|(cases h;trivial)
 ·exact c2Z h hk
 ·split at h<;>first|(cases h;done)|(cases h;trivial)
 ·split at h<;>try(cases h;done)
  split at h<;>first|(cases h;done)|(cases h;trivial)
 ·cases h;trivial
 ·exact b7j h hk
 ·(repeat' split at h)<;>first|(cases h;done)|(cases h;trivial)
 ·(repeat' split at h)<;>first|(cases h;done)|(cases h;trivial)
 ·rename_i t x ix
  simp only [okP] at hk;split at h<;>try(cases h;done)
  rename_i i hi;simp only [hi] at hk;split at h<;>try(cases h;done)
  ·rename_i h1 h2
   simp only [h1,h2] at hk;split at h<;>try(cases h;done)
   cases h;simpa using hk
  ·rename_i h1 h2
   simp only [h1,h2] at hk;split at h<;>try(cases h;done)
   rename_i h3;cases h;simp only [h3,d9B,e0l] at hk;exact ⟨hk.1.1,hk.1.2,d9v hk.2⟩
 ·rename_i t x ix
  simp only [okP] at hk;split at h<;>try(cases h;done)
  rename_i i hi;simp only [hi] at hk;split at h<;>try(cases h;done)
  rename_i h1 h2 h3;simp only [h1,h2,h3] at hk;cases h;simpa using hk
 ·(repeat' split at h)<;>first|(cases h;done)|(cases h;trivial)
 ·exact b6D h
def b7i (ag:Bool)(sz:Nat):List D->Bool
 | []=>true
 | d::l=>b6S ag sz d&&b7i ag sz l
theorem b5U {ag:Bool}{sz:Nat}:∀ {l:List D},b7i ag sz l=true->b5B ag sz l
 | [],_=>trivial
 | [d],h=>by simp only [b7i,d9B] at h;exact a6p h.1
 | d::d'::l,h=>by simp only [b7i,d9B] at h;exact ⟨a6p h.1,b5U (by simp only [b7i,d9B];exact h.2)⟩
def okL (tt:Nat->Option a0n)(H:Hp)(g:Operand->D):Op->Bool
 | .load t x=>match tt t with
  | some i=>match g x with
   | .optr k gg sz j off=>match Hp.get H k with
    | some e=>match e.es[j]? with
     | some d=>Nat.beq gg e.g&&Nat.beq sz e.sz&&(bif i.ag then Nat.ble (off+i.sz) d.cells.length else true)
     | none=>true
    | none=>true
   | .pptr d=>match i.ag with
    | true=>match d with
     | .agg ds=>Nat.beq ds.length i.sz
     | _=>true
    | false=>a6A d
   | _=>true
  | none=>true
 | .box t x=>match tt t with
  | some i=>b6S i.ag i.sz (g x)
  | none=>true
 | .buildSlice t len ps=>match tt t with
  | some i=>match i.ti with
   | .slice e esz _ _=>match len with
    | 0=>true
    | len+1=>match tt e with
     | some ie=>match a3T g 0 ps.toList with
      | some es=>b7i ie.ag esz es&&Nat.beq es.length (len+1)&&Nat.ble ((len+1)*esz) 16777216&&Nat.ble 1 esz
      | none=>true
     | none=>true
   | _=>true
  | none=>true
 | _=>true
theorem c0l {tt:Nat->Option a0n}{H:Hp}{n k:Nat}{g:Operand->D}{op:Op}{d:D}{ne:Option Ent}{p:Prop}(h:evL tt H n k g op=some (d,ne,p))(hk:okL tt H g op=true):p:=by
 unfold evL at h;split at h<;>try(cases h;done)
 ·simp only [okL] at hk
  split at h<;>try(cases h;done)
  rename_i i hi;simp only [hi] at hk;split at h<;>try(cases h;done)
  ·rename_i h1
   simp only [h1] at hk;split at h<;>try(cases h;done)
   rename_i e he;simp only [he] at hk;split at h<;>try(cases h;done)
   rename_i d1 hd;simp only [hd] at hk;split at h<;>try(cases h;done)
   cases h;simp only [d9B] at hk;exact ⟨d9v hk.1.1,d9v hk.1.2,hk.2⟩
  ·rename_i h1
   simp only [h1] at hk;split at h
   ·rename_i ha
    simp only [ha] at hk;split at h<;>try(cases h;done)
    cases h;exact hk
   ·rename_i ha
    simp only [ha] at hk;cases h;exact hk
 ·split at h<;>first|(cases h;done)|(cases h;trivial)
 ·simp only [okL] at hk
  split at h<;>try(cases h;done)
  rename_i i hi;simp only [hi] at hk;cases h;exact a6p hk
 ·simp only [okL] at hk
  split at h<;>try(cases h;done)
  rename_i i hi;simp only [hi] at hk;split at h<;>try(cases h;done)
  rename_i h1;simp only [h1] at hk;split at h
  ·split at h<;>first|(cases h;done)|(cases h;trivial)
  ·dsimp only at hk
   split at h<;>try(cases h;done)
   rename_i h2;simp only [h2] at hk;split at h<;>try(cases h;done)
   rename_i h3;simp only [h3,d9B] at hk;cases h;exact ⟨b5U hk.1.1.1,d9v hk.1.1.2,hk.1.2,hk.2⟩
def okS (tt:Nat->Option a0n)(H:Hp)(g:Operand->D):Op->Bool
 | .store t x y=>match tt t with
  | some i=>match g x with
   | .optr k gg sz _ off=>match Hp.get H k with
    | some e=>b6S i.ag i.sz (g y)&&Nat.beq gg e.g&&Nat.beq sz e.sz&&Nat.ble (off+i.sz) e.sz
    | none=>true
   | _=>true
  | none=>true
 | _=>true
theorem c5D {tt:Nat->Option a0n}{H:Hp}{g:Operand->D}{op:Op}{k:Nat}{e':Ent}{p:Prop}(h:evS tt H g op=some (k,e',p))(hk:okS tt H g op=true):p:=by
 unfold evS at h;split at h<;>try(cases h;done)
 simp only [okS] at hk;split at h<;>try(cases h;done)
 rename_i i hi;simp only [hi] at hk;split at h<;>try(cases h;done)
 rename_i h1;simp only [h1] at hk;split at h<;>try(cases h;done)
 rename_i h2;simp only [h2,d9B] at hk;split at h<;>try(cases h;done)
 cases h;exact ⟨a6p hk.1.1.1,d9v hk.1.1.2,d9v hk.1.2,hk.2⟩
def c7v (H:Hp)(esz:Nat):D->Bool
 | .sl _ sz _=>Nat.beq sz esz
 | .osl k g sz i len=>match Hp.get H k with
  | some e=>Nat.beq g e.g&&Nat.beq sz e.sz&&Nat.beq sz esz&&Nat.ble (i+len) e.es.length
  | none=>true
 | _=>true
theorem b5X {H:Hp}{esz:Nat}{d:D}{es:List D}{p:Prop}(h:b6q H esz d=some (es,p))(hk:c7v H esz d=true):p:=by
 unfold b6q at h;split at h<;>try(cases h;done)
 ·cases h;exact d9v hk
 ·simp only [c7v] at hk
  split at h<;>try(cases h;done)
  rename_i h1;simp only [h1,d9B] at hk;cases h;exact ⟨d9v hk.1.1.1,d9v hk.1.1.2,d9v hk.1.2,d9A hk.2⟩
 ·cases h;trivial
def okA (tt:Nat->Option a0n)(H:Hp)(g:Operand->D):Op->Bool
 | .call ⟨.builtin .append,args,tys⟩=>match args.toList with
  | [s,x]=>match tys.toList with
   | [t,_]=>match tt t with
    | some i=>match i.ti with
     | .slice e esz eby _=>c7v H esz (g x)&&Nat.ble 1 eby&&Nat.ble 1 esz&&(match b6q H esz (g x) with
      | some (news,_)=>match g s with
       | .osl k1 g1 sz _ len=>match Hp.get H k1 with
        | some e1=>Nat.beq g1 e1.g&&Nat.beq sz e1.sz&&Nat.beq sz esz&&Nat.beq e1.T e&&Nat.ble len e1.es.length&&Nat.ble ((len+news.length)*eby) 140737488355328
        | none=>true
       | _=>Nat.ble (news.length*eby) 140737488355328
      | none=>true)
     | _=>true
    | none=>true
   | _=>true
  | _=>true
 | _=>true
theorem c0h {tt:Nat->Option a0n}{H:Hp}{n k:Nat}{g:Operand->D}{op:Op}{d:D}{H':Hp}{p:Prop}(h:evA tt H n k g op=some (d,H',p))(hk:okA tt H g op=true):p:=by
 unfold evA at h;split at h<;>try(cases h;done)
 simp only [okA] at hk;split at h<;>try(cases h;done)
 rename_i h1;simp only [h1] at hk;split at h<;>try(cases h;done)
 rename_i h2;simp only [h2] at hk;split at h<;>try(cases h;done)
 split at h<;>try(cases h;done)
 rename_i h3;simp only [h3] at hk;split at h<;>try(cases h;done)
 rename_i h4;simp only [h4] at hk;split at h<;>try(cases h;done)
 rename_i h5;simp only [h5,d9B] at hk;obtain ⟨⟨⟨k1,k2⟩,k3⟩,k4⟩:=hk;split at h<;>try(cases h;done)
 ·rename_i h6
  simp only [h6] at k4;split at h<;>try(cases h;done)
  rename_i h7;simp only [h7,d9B] at k4;cases h;exact ⟨b5X h5 k1,d9v k4.1.1.1.1.1,d9v k4.1.1.1.1.2,d9v k4.1.1.1.2,d9v k4.1.1.2,d9A k4.1.2,d9A k4.2,
   d9A k2,d9A k3⟩
 ·rename_i h6
  simp only [h6] at k4;cases h;exact ⟨b5X h5 k1,d9A k4,d9A k2,d9A k3⟩
def okM (tt:Nat->Option a0n)(g:Operand->D):Op->Bool
 | .makeSlice t l c=>match tt t with
  | some i=>match i.ti with
   | .slice _ _ eby _=>match g l with
    | .prim (.int _ a)=>match g c with
     | .prim (.int _ b)=>decide (0<=a)&&decide (a<=b)&&decide ((eby:Int)*b<=281474976710656)&&decide (b<=9223372036854775807)
     | _=>true
    | _=>true
   | _=>true
  | none=>true
 | _=>true
theorem d2S {tt:Nat->Option a0n}{n k:Nat}{g:Operand->D}{op:Op}{d:D}{e:Ent}{p:Prop}(h:evM tt n k g op=some (d,e,p))(hk:okM tt g op=true):p:=by
 unfold evM at h;split at h<;>try(cases h;done)
 simp only [okM] at hk;split at h<;>try(cases h;done)
 rename_i h1;simp only [h1] at hk;split at h<;>try(cases h;done)
 rename_i h2;simp only [h2] at hk;split at h<;>try(cases h;done)
 rename_i h3;simp only [h3] at hk;split at h<;>try(cases h;done)
 rename_i h4;simp only [h4,d9B,e0l] at hk;cases h;exact ⟨hk.1.1.1,hk.1.1.2,hk.1.2,hk.2⟩
def okQ (xt:Nat->Option XI)(g:Operand->D):Op->Bool
 | .binOp _ t x _ _=>match xt t with
  | some (.strs n)=>match g x with
   | .agg l=>Nat.beq l.length n
   | _=>true
  | _=>true
 | _=>true
theorem c5C {tt:Nat->Option a0n}{xt:Nat->Option XI}{g:Operand->D}{op:Op}{d:D}{p:Prop}(h:evQ tt xt g op=some (d,p))(hk:okQ xt g op=true):p:=by
 unfold evQ at h;split at h<;>try(cases h;done)
 ·(repeat' split at h)<;>first|(cases h;done)|(cases h;trivial)
 ·(repeat' split at h)<;>first|(cases h;done)|(cases h;trivial)
 ·simp only [okQ] at hk
  split at h<;>try(cases h;done)
  rename_i h1;simp only [h1] at hk;split at h<;>try(cases h;done)
  rename_i h2;simp only [h2] at hk;split at h<;>try(cases h;done)
  split at h<;>try(cases h;done)
  split at h<;>try(cases h;done)
  cases h;exact hk
def fzN {α:Type}(n:Nat)(k:Nat->α):α:=match n with
 | 0=>k 0
 | m+1=>k (m+1)
def fzZ {α:Type}(z:Int)(k:Int->α):α:=match z with
 | .ofNat n=>match n with
  | 0=>k (.ofNat 0)
  | m+1=>k (.ofNat (m+1))
 | .negSucc n=>match n with
  | 0=>k (.negSucc 0)
  | m+1=>k (.negSucc (m+1))
def fzB {α:Type}:List UInt8->(List UInt8->α)->α
 | [],k=>k []
 | b::l,k=>fzN b.toNat fun n=>fzB l fun l'=>k (UInt8.ofNat n::l')
def fzV {α:Type}(v:Value)(k:D->α):α:=match v with
 | .int kd z=>fzZ z fun z'=>k (.prim (.int kd z'))
 | .bool b=>match b with
  | true=>k (.prim (.bool true))
  | false=>k (.prim (.bool false))
 | .string s=>fzB s.data.toList fun l=>k (.prim (.string ⟨l.toArray⟩))
 | v=>k (.prim v)
def fz1 {α:Type}(d:D)(k:D->α):α:=match d with
 | .prim v=>fzV v k
 | .osl a g sz i len=>fzN a fun a=>fzN g fun g=>fzN i fun i=>fzN len fun len=>k (.osl a g sz i len)
 | .optr a g sz i off=>fzN a fun a=>fzN g fun g=>fzN i fun i=>fzN off fun off=>k (.optr a g sz i off)
 | d=>k d
def fzL {α:Type}:List D->(List D->α)->α
 | [],k=>k []
 | d::l,k=>fz1 d fun d'=>fzL l fun l'=>k (d'::l')
def fzD {α:Type}(d:D)(k:D->α):α:=match d with
 | .agg l=>fzL l fun l'=>k (.agg l')
 | .tup l=>fzL l fun l'=>k (.tup l')
 | .sl nn sz es=>fzL es fun es'=>k (.sl nn sz es')
 | d=>fz1 d k
theorem a8O {α:Type}(n:Nat)(k:Nat->α):fzN n k=k n:=by cases n<;>rfl
theorem d2r {α:Type}(z:Int)(k:Int->α):fzZ z k=k z:=by
 cases z with
 | ofNat n=>cases n<;>rfl
 | negSucc n=>cases n<;>rfl
theorem c5r {α:Type}:∀ (l:List UInt8) (k:List UInt8->α),fzB l k=k l
 | [],_=>rfl
 | b::l,k=>by simp only [fzB,a8O,c5r l];congr 2;exact UInt8.ofNat_toNat
theorem d2q {α:Type}(v:Value)(k:D->α):fzV v k=k (.prim v):=by
 unfold fzV;split
 ·exact d2r _ _
 ·rename_i b;cases b<;>rfl
 ·rw [c5r]
 ·rfl
theorem c5q {α:Type}(d:D)(k:D->α):fz1 d k=k d:=by
 unfold fz1;split
 ·exact d2q _ _
 ·simp only [a8O]
 ·simp only [a8O]
 ·rfl
theorem b5H {α:Type}:∀ (l:List D) (k:List D->α),fzL l k=k l
 | [],_=>rfl
 | d::l,k=>by simp only [fzL,c5q,b5H l]
theorem b0x {α:Type}(d:D)(k:D->α):fzD d k=k d:=by
 unfold fzD;split
 ·exact b5H _ _
 ·exact b5H _ _
 ·exact b5H _ _
 ·exact c5q _ _
def b7O (f:D->Bool):List D->Bool
 | []=>true
 | d::l=>f d&&b7O f l
def b5l (f:D->Bool):D->Bool
 | .agg l=>b7O f l
 | d=>f d
def a7k:Nat->D->Bool
 | 0,_=>false
 | n+1,d=>match d with
  | .any=>true
  | .prim _=>true
  | .agg l=>b7O (a7k n) l
  | .tup l=>b7O (a7k n) l
  | .sl _ _ es=>b7O (b5l (a7k n)) es
  | .pptr e=>b5l (a7k n) e
  | .clo _ a b=>b7O (a7k n) a&&b7O (a7k n) b
  | .mp a b=>b7O (a7k n) a&&b7O (a7k n) b
  | .ifc _ d=>a7k n d
  | _=>false
theorem a3M {f:D->Bool}:∀ {l:List D},b7O f l=true->∀ d∈l,f d=true
 | [],_,_,h=>by simp at h
 | x::l,h,d,hd=>by
  simp only [b7O,d9B] at h;rcases d9F.1 hd with rfl|hd
  ·exact h.1
  ·exact a3M h.2 d hd
theorem b2l {f:D->Bool}{d:D}(h:b5l f d=true):∀ c∈d.cells,f c=true:=by
 unfold b5l at h;split at h
 ·exact a3M h
 ·rename_i hne
  intro c hc;cases d<;>simp only [D.cells,List.mem_singleton] at hc<;>first|(subst hc;exact h)|exact d9n rfl (hne _)
theorem a1a:∀ {n:Nat} {d:D},a7k n d=true->a2n d
 | 0,_,h=>by cases h
 | n+1,d,h=>by
  simp only [a7k] at h;split at h
  ·exact .any
  ·exact .prim _
  ·exact .agg fun d hd=>a1a (a3M h d hd)
  ·exact .tup fun d hd=>a1a (a3M h d hd)
  ·exact .sl fun e he c hc=>a1a (b2l (a3M h e he) c hc)
  ·exact .pptr fun c hc=>a1a (b2l h c hc)
  ·simp only [d9B] at h
   exact .clo (fun d hd=>a1a (a3M h.1 d hd)) (fun d hd=>a1a (a3M h.2 d hd))
  ·simp only [d9B] at h
   exact .mp (fun d hd=>a1a (a3M h.1 d hd)) (fun d hd=>a1a (a3M h.2 d hd))
  ·exact .ifc (a1a h)
  ·cases h
def c2S {α β:Type}(f:α->Option β):List α->Option (List β)
 | []=>some []
 | x::l=>match f x with
  | some y=>match c2S f l with
   | some r=>some (y::r)
   | none=>none
  | none=>none
theorem a7g {α β:Type}{f:α->Option β}:∀ {l:List α} {r:List β},c2S f l=some r->l.length=r.length/\∀ (i:Nat) (x:α) (y:β),l[i]? = some x->r[i]? = some y->f x=some y
 | [],r,h=>by simp only [c2S,d9z] at h;subst h;simp
 | x::l,r,h=>by
  simp only [c2S] at h;split at h<;>try(cases h;done)
  rename_i y hy;split at h<;>try(cases h;done)
  rename_i r' hr;cases h;obtain ⟨h1,h2⟩:=a7g hr;refine ⟨by simp [h1],fun i a b ha hb=>?_⟩;cases i with
  | zero=>simp at ha hb;subst ha hb;exact hy
  | succ i=>exact h2 i a b (by simpa using ha) (by simpa using hb)
theorem a8d {α β:Type}{f:α->Option β}{l:List α}{r:List β}(h:c2S f l=some r):∀ y∈r,∃ x∈l,f x=some y:=fun y hy=>by
 obtain ⟨h1,h2⟩:=a7g h;obtain ⟨i,hi,rfl⟩:=e1x hy;exact ⟨l[i]'(by omega),List.getElem_mem _,h2 i _ _ (d9t (by omega)) (d9t hi)⟩
def b9y (f:D->Option D)(d:D):Option D:=match d with
 | .agg cs=>match c2S f cs with
  | some cs'=>some (.agg cs')
  | none=>none
 | d=>match f d with
  | some d'=>match a6A d' with
   | true=>some d'
   | false=>none
  | none=>none
def fzP:Nat->Hp->D->Option D
 | 0,_,_=>none
 | n+1,H,d=>match d with
  | .agg l=>match c2S (fzP n H) l with
   | some l'=>some (.agg l')
   | none=>none
  | .tup l=>match c2S (fzP n H) l with
   | some l'=>some (.tup l')
   | none=>none
  | .osl k g sz i len=>match Hp.get H k with
   | some e=>match Nat.beq g e.g&&Nat.beq sz e.sz&&Nat.ble (i+len) e.es.length with
    | true=>match c2S (b9y (fzP n H)) ((e.es.drop i).take len) with
     | some es'=>some (.sl false sz es')
     | none=>none
    | false=>none
   | none=>none
  | d=>match a7k 20 d with
   | true=>some d
   | false=>none
theorem a7D {d:D}(h:a6A d=true):d.cells=[d]:=by cases d<;>first|rfl|cases h
theorem a8N {H:Hp}{f:D->Option D}(hf:∀ d d',f d=some d'->Fz H [] d d'/\a2n d'){d d':D}(h:b9y f d=some d') :
  d'.cells.length=d.cells.length/\(∀ (q:Nat) (c c':D),d.cells[q]? = some c->d'.cells[q]? = some c'->Fz H [] c c')/\∀ c∈d'.cells,a2n c:=by
 unfold b9y at h;split at h
 ·rename_i cs
  split at h<;>try(cases h;done)
  rename_i cs' hm;cases h;obtain ⟨h1,h2⟩:=a7g hm;refine ⟨h1.symm,fun q c c' hc hc'=>(hf _ _ (h2 q c c' hc hc')).1,fun c hc=>?_⟩;obtain ⟨x,_,hx⟩:=a8d hm c hc;exact (hf _ _ hx).2
 ·rename_i hne
  split at h<;>try(cases h;done)
  rename_i d1 hd;split at h<;>try(cases h;done)
  rename_i hn;cases h;have hc:d.cells=[d]:=a7D (by cases d<;>first|rfl|exact d9n rfl (hne _));rw [hc,a7D hn];refine ⟨rfl,fun q c c' h1 h2=>?_,fun c hc=>?_⟩
  ·cases q with
   | zero=>simp at h1 h2;subst h1 h2;exact (hf _ _ hd).1
   | succ q=>simp at h1
  ·simp at hc;subst hc;exact (hf _ _ hd).2
theorem a7v {H:Hp}:∀ {n:Nat} {d d':D},fzP n H d=some d'->Fz H [] d d'/\a2n d'
 | 0,_,_,h=>by cases h
 | n+1,d,d',h=>by
  simp only [fzP] at h;split at h
  ·split at h<;>try(cases h;done)
   rename_i hm;cases h;obtain ⟨h1,h2⟩:=a7g hm;refine ⟨.agg h1 fun i a b ha hb=>(a7v (h2 i a b ha hb)).1,.agg fun c hc=>?_⟩;obtain ⟨x,_,hx⟩:=a8d hm c hc;exact (a7v hx).2
  ·split at h<;>try(cases h;done)
   rename_i hm;cases h;obtain ⟨h1,h2⟩:=a7g hm;refine ⟨.tup h1 fun i a b ha hb=>(a7v (h2 i a b ha hb)).1,.tup fun c hc=>?_⟩;obtain ⟨x,_,hx⟩:=a8d hm c hc;exact (a7v hx).2
  ·split at h<;>try(cases h;done)
   rename_i k g sz i len _ e he;split at h<;>try(cases h;done)
   rename_i hb;split at h<;>try(cases h;done)
   rename_i es' hm;cases h;simp only [d9B] at hb;obtain ⟨⟨b1,b2⟩,b3⟩:=hb;have b3:=d9A b3;obtain ⟨h1,h2⟩:=a7g hm;have hget:∀ (j:Nat) (x:D),j<len->e.es[i+j]? = some x->((e.es.drop i).take len)[j]? = some x:=fun j x hj hx=>by
    rw [e0K,d9l hj,e1m];exact hx
   have hlen:es'.length=len:=by rw [<- h1];simp;omega
   refine ⟨.osl he rfl (d9v b1) (d9v b2) b3 hlen (fun j x y hx hy=>?_) (fun j x y q c c' hx hy hc hc'=>?_),.sl fun e' he' c hc=>?_⟩
   ·have hj:j<len:=by rw [<- hlen];exact (List.getElem?_eq_some_iff.1 hy).1
    exact (a8N (fun _ _ h=>a7v h) (h2 j x y (hget j x hj hx) hy)).1
   ·have hj:j<len:=by rw [<- hlen];exact (List.getElem?_eq_some_iff.1 hy).1
    exact (a8N (fun _ _ h=>a7v h) (h2 j x y (hget j x hj hx) hy)).2.1 q c c' hc hc'
   ·obtain ⟨x,_,hx⟩:=a8d hm e' he'
    exact (a8N (fun _ _ h=>a7v h) hx).2.2 c hc
  ·split at h<;>try(cases h;done)
   rename_i hp;cases h;exact ⟨.refl _,a1a hp⟩
structure WR where
 iw:Nat
 ia:Option Nat
 e:Ent
 e':Ent
 R:Hp
def WR.tail (W:WR)(L:Array Bool):Hp:=if L.getD W.iw false=true then W.e'::W.R else match W.ia with
 | none=>W.e::W.R
 | some ia=>if L.getD ia false=true then W.e::W.R else W.R
def WR.start (W:WR):Hp:=match W.ia with
 | none=>W.e::W.R
 | some _=>W.R
theorem d8Z {W:WR}{L:Array Bool}(h:Ls L W.iw):W.tail L=W.e'::W.R:=d9l h
section
variable {C:Ctx} {F:Fra} {ops:Array Oper}
def a3p (C:Ctx)(F:Fra)(ops:Array Oper)(W:WR)(g:Nat)(env:Env)(o:Oper)(d:D):Prop :=
 ∀ (He:Hp) (ρ:Lk) (a:Act) (w:World),Mem C F ρ (W.e::He) w->(∀ x∈W.R,x∈He)->(∀ k,ρ k g=none)->(∀ x∈W.e::He,x.g≠g) ->
  (∀ t∈o.looksAt ops,Rep ρ (Own F.X ρ (W.e::He)) w (env.get t) (a.tmps.getD t undef)) ->
  Region.wanted o (yielded ops a.tmps)=true/\∃ v ρ' w',((execOp a.eval o).run C.P w=.ok (.value v) w'\/((execOp a.eval o).run C.P w=.ok .skip w'/\v=undef)) /\
   Mem C F ρ' (W.e'::He) w'/\Ext ρ (Own F.X ρ (W.e::He)) w ρ' (Own F.X ρ' (W.e'::He)) w'/\(∀ k g',g'≠g->ρ' k g'=ρ k g')/\Rep ρ' (Own F.X ρ' (W.e'::He)) w' d v
theorem c7L {l:List Rec}(hn:(l.map (·.i)).Nodup){a b:Rec}(ha:a∈l)(hb:b∈l)(he:a.i=b.i):a=b:=by
 induction l with
 | nil=>simp at ha
 | cons x l ih =>
  rw [e0I,List.nodup_cons] at hn;rcases d9F.1 ha with h1|h1
  ·rcases d9F.1 hb with h2|h2
   ·rw [h1,h2]
   ·exact d9n (List.mem_map.2 ⟨b,h2,by rw [<- he,h1]⟩) hn.1
  ·rcases d9F.1 hb with h2|h2
   ·exact d9n (List.mem_map.2 ⟨a,h1,by rw [he,h2]⟩) hn.1
   ·exact ih hn.2 h1 h2
def c8y (C:Ctx)(F:Fra)(ops:Array Oper)(W:WR)(g:Nat)(env:Env)(r:Rec):Prop :=
 (r.i≠W.iw/\W.ia≠some r.i/\((W.ia=none/\a1Z ops W.iw r.i/\a0s C F ops (W.e::W.R) g env r.o r.d r.ne)\/a0s C F ops W.R g env r.o r.d r.ne))\/(r.i=W.iw/\W.ia≠some r.i/\r.ne=none/\a3p C F ops W g env r.o r.d) \/
  (r.i≠W.iw/\W.ia=some r.i/\r.ne=none/\a0s C F ops W.R g env r.o r.d (some W.e))
theorem c8y.gen {W:WR}{g:Nat}{env:Env}{r:Rec}(h:c8y C F ops W g env r):∀ e,r.ne=some e->e.g=g:=by
 rcases h with ⟨_,_,⟨_,_,h⟩|h⟩|⟨_,_,h,_⟩|⟨_,_,h,_⟩
 ·exact h.1
 ·exact h.1
 ·intro e he;rw [h] at he;cases he
 ·intro e he;rw [h] at he;cases he
theorem DI.nextG {H H':Hp}{n:Nat}{env:Env}{A B:List Rec}{r:Rec}{L:Array Bool}{a:Act}{w:World}{ρ:Lk}{He:Hp}(h:DI C F H n env (A++r::B) L a w ρ He)(hi:r.i<L.size)(hn:¬ Ls L r.i)
  (hnd:((A++r::B).map (·.i)).Nodup) (hdst:(A++r::B).Pairwise (fun r r'=>∀ t,r.o.dst=some t->r'.o.dst≠some t)) (hok:a2m F.nt r.o=true) {v:Value} {ρ':Lk} {w':World} {He':Hp}
  (pm:Mem C F ρ' He' w') (px:Ext ρ (Own F.X ρ He) w ρ' (Own F.X ρ' He') w') (pf:∀ k g',g'≠n+r.i->ρ' k g'=ρ k g') (pr:Rep ρ' (Own F.X ρ' He') w' r.d v)
  (pp:He'.Perm ((A++r::B).filterMap (fun r'=>if (L.setIfInBounds r.i true).getD r'.i false then r'.ne else none)++H')) :
  DI C F H' n env (A++r::B) (L.setIfInBounds r.i true) (a.put r.o.dst v) w' ρ' He':=by
 have hset:∀ j,Ls (L.setIfInBounds r.i true) j↔j=r.i\/Ls L j:=fun j=>Ls.set hi
 have hne:∀ r'∈A++B,r'.i≠r.i:=by
  simp only [e0Q,e0I] at hnd;intro r' hr' he;rw [e0z,List.nodup_cons] at hnd;rcases List.mem_append.1 hr' with hr'|hr'
  ·exact hnd.2.2 r'.i (List.mem_map.2 ⟨r',hr',rfl⟩) r.i (by simp) he
  ·exact hnd.2.1.1 (List.mem_map.2 ⟨r',hr',he⟩)
 have hput:∀ t,(a.put r.o.dst v).tmps.getD t undef=if r.o.dst=some t then v else a.tmps.getD t undef:=by
  intro t;cases hd:r.o.dst with
  | none=>simp [Act.put]
  | some k =>
   have hk:k<a.tmps.size:=by
    rw [h.nt];unfold a2m at hok;rw [hd] at hok;exact Nat.blt_eq.mp hok
   show (a.tmps.setIfInBounds k v).getD t undef=_;rw [d9o,e0q]
   by_cases hkt:k=t
   ·subst hkt;simp [hk]
   ·rw [d9m hkt,d9m (by simpa using hkt),<- d9o]
 refine ⟨pm,pp,fun r' hr' hl t ht=>?_,fun t ht=>?_,fun k g hg hk=>?_,?_,?_⟩
 ·rw [hput]
  by_cases hrr:r'=r
  ·subst hrr;rw [d9l ht];exact pr
  ·have hr2:r'∈A++B:=by
    rcases List.mem_append.1 hr' with h|h
    ·simp [h]
    ·rcases d9F.1 h with h|h
     ·exact d9n h hrr
     ·simp [h]
   have hl2:=((hset r'.i).1 hl).resolve_left (hne r' hr2);rw [d9m]
   ·exact (h.reps r' hr' hl2 t ht).mono px
   ·intro hrt
    rw [e1q,e0U] at hdst;rcases List.mem_append.1 hr2 with h|h
    ·exact hdst.2.2 r' h r (by simp) t ht hrt
    ·exact hdst.2.1.1 r' h t hrt ht
 ·rw [hput,d9m (ht r (by simp) ((hset r.i).2 (.inl rfl)))]
  exact (h.old t fun r' hr' hl=>ht r' hr' ((hset r'.i).2 (.inr hl))).mono px
 ·by_cases hgr:g=n+r.i
  ·exact ⟨r,by simp,(hset r.i).2 (.inl rfl),hgr⟩
  ·rw [pf k g hgr] at hk
   obtain ⟨r',h1,h2,h3⟩:=h.fresh k g hg hk;exact ⟨r',h1,(hset r'.i).2 (.inr h2),h3⟩
 ·cases r.o.dst<;>simp [Act.put,h.nt]
 ·cases r.o.dst<;>simp [Act.put,h.dfr]
theorem b3X {W:WR}{Q:Exit->Act->World->Prop}{n:Nat}{env:Env}{rs:List Rec}{suf:List Nat}(ho:b3S ops rs suf)(hiw:W.iw<ops.size)(hwg:W.e'.g=W.e.g\/W.e'.g=n+W.iw)(hgen:∀ e∈W.R,e.g<n)(hge:W.ia=none->W.e.g<n)(hga:∀ ia,W.ia=some ia->W.e.g=n+ia/\a1Z ops W.iw ia)(hd:∀ r∈rs,a2m F.nt r.o=true)
  (hst:∀ A r B,rs=A++r::B->ops[r.i]? = some r.o/\c8y C F ops W (n+r.i) (a3C A env) r)
  (hend:∀ (L:Array Bool) (a:Act) (w:World) (ρ:Lk) (He:Hp),L.size=ops.size->(∀ r∈rs,Ls L r.i)->DI C F (W.e'::W.R) n env rs L a w ρ He->wpOps C.P ops Q suf a w) :
  (hw:∀ {L:Array Bool},(∀ r∈rs,Ls L r.i)->Ls L W.iw)->∀ (fuel:Nat) (L:Array Bool) (a:Act) (w:World) (ρ:Lk) (He:Hp),L.size=ops.size->((rs.map (·.i)++suf).filter (fun i=>!L.getD i false)).length<=fuel->Cl ops L->(∀ i∈suf,¬ Ls L i) ->
   DI C F (W.tail L) n env rs L a w ρ He->wpAny C.P .any ops Q fuel L a w:=by
 intro hw fuel
 induction fuel with
 | zero =>
  intro L a w ρ He hL hf hc hs hi;have h0:(rs.map (·.i)++suf).filter (fun i=>!L.getD i false)=[]:=e0d (by omega);have hall:∀ r∈rs,Ls L r.i:=fun r hr=>by
   have:=List.filter_eq_nil_iff.1 h0 r.i (by simp;exact .inl ⟨r,hr,rfl⟩)
   simpa [Ls] using this
  have hsuf:suf=[]:=by
   apply List.eq_nil_iff_forall_not_mem.2;intro i hi2
   have:=List.filter_eq_nil_iff.1 h0 i (by simp [hi2])
   exact hs i hi2 (by simpa [Ls] using this)
  subst hsuf;refine a2F [] 0 L a w hL (d9y _) (fun i hi2=>⟨fun _=>by simp,fun _=>?_⟩) .nil (fun A i B h=>by cases A<;>simp at h) (by simp) hc (hend L a w ρ He hL hall (by have h0:=hi;rw [d8Z (hw hall)] at h0;exact h0))
  have:=ho.all i hi2
  simp at this;obtain ⟨r,hr,rfl⟩:=this;exact hall r hr
 | succ fuel ih =>
  intro L a w ρ He hL hf hc hs hi
  by_cases hall:∀ r∈rs,Ls L r.i
  ·refine a2F suf (fuel+1) L a w hL ?_ (fun i hi2=>?_) ?_ (fun A i B hAB=>⟨fun j hj=>?_,fun j hj=>ho.suf A i B hAB j (by simp [hj])⟩) (fun i hi2=>ho.lt i (by simp [hi2])) hc (hend L a w ρ He hL hall (by have h0:=hi;rw [d8Z (hw hall)] at h0;exact h0))
   ·refine d9V ?_ hf
    rw [List.filter_append,d9Z];rw [(List.filter_eq_self (l:=suf)).2 fun i hi2=>by have:=hs i hi2;unfold Ls at this;simpa using this];omega
   ·constructor
    ·intro h1 h2;exact hs i h2 h1
    ·intro h1
     have:=ho.all i hi2
     rcases List.mem_append.1 this with h|h
     ·obtain ⟨r,hr,rfl⟩:=List.mem_map.1 h;exact hall r hr
     ·exact d9n h h1
   ·exact (e0z.1 ho.nodup).2.1
   ·have hA:=ho.first (rs.map (·.i)++A) i B (by simp [hAB]) j hj
    refine ⟨ho.lt j (by rw [hAB];rcases List.mem_append.1 hA with h|h<;>simp [h]),fun hB=>?_⟩;have hnd:=ho.nodup;rw [hAB,<- e0J,e0z] at hnd;exact hnd.2.2 j hA j hB rfl
  ·have hnot:∃ r∈rs,¬ Ls L r.i:=by
    apply d9L;intro hn;exact hall fun r hr=>d9L fun h=>hn ⟨r,hr,h⟩
   have hLt:∀ j,j<ops.size->(L.getD j true=true↔Ls L j):=fun j hj=>by
    unfold Ls;rw [d9o,d9o,d9C (by omega)];simp
   have hsome:Region.ready .any ops L≠[]:=by
    obtain ⟨r0,hr0,hn0⟩:=hnot
    have:∀ X:List Rec,∀ Y,rs=X++Y->(∃ r∈Y,¬ Ls L r.i)->(∀ r∈X,Ls L r.i)->∃ A r B,rs=A++r::B/\¬ Ls L r.i/\∀ r∈A,Ls L r.i:=by
     intro X Y
     induction Y generalizing X with
     | nil=>rintro _ ⟨r,hr,_⟩ _;simp at hr
     | cons y Y ihY =>
      intro hXY hex hX
      by_cases hy:Ls L y.i
      ·obtain ⟨r,hr,hrn⟩:=hex
       rcases d9F.1 hr with rfl|hr
       ·exact d9n hy hrn
       ·exact ihY (X++[y]) (by simp [hXY]) ⟨r,hr,hrn⟩ (fun r hr=>by
         rcases List.mem_append.1 hr with h|h
         ·exact hX r h
         ·simp at h;subst h;exact hy)
      ·exact ⟨X,y,Y,hXY,hy,hX⟩
    obtain ⟨A,r,B,h1,h2,h3⟩:=this [] rs rfl ⟨r0,hr0,hn0⟩ (by simp);intro hnil;have hrlt:=ho.lt r.i (by rw [h1];simp)
    have:r.i∈Region.ready .any ops L:=by
     rw [a0P];refine ⟨hrlt,?_,fun j hj=>?_⟩
     ·cases hb:L.getD r.i true with
      | false=>rfl
      | true=>exact d9n ((hLt r.i hrlt).1 hb) h2
     ·have:=ho.first (A.map (·.i)) r.i (B.map (·.i)++suf) (by rw [h1];simp) j hj
      obtain ⟨r',hr',rfl⟩:=List.mem_map.1 this;exact h3 r' hr'
    rw [hnil] at this;simp at this
   refine ⟨fun h0=>d9n h0 hsome,fun i hir=>?_⟩;obtain ⟨hilt,hin,hid⟩:=a0P.1 hir;have hnL:¬ Ls L i:=fun h=>by rw [(hLt i hilt).2 h] at hin;cases hin
   have hpre:i∈rs.map (·.i):=by
    rcases List.mem_append.1 (ho.all i hilt) with h|h
    ·exact h
    ·obtain ⟨A,B,hAB⟩:=e0v h
     obtain ⟨r0,hr0,hn0⟩:=hnot
     have:=a0w hL hc (ho.suf A i B hAB r0.i (e1h _ (List.mem_map.2 ⟨r0,hr0,rfl⟩))) hid
     exact d9n this hn0
   obtain ⟨r,hr,rfl⟩:=List.mem_map.1 hpre;obtain ⟨A,B,hAB⟩:=e0v hr;obtain ⟨hor,hstr⟩:=hst A r B hAB;have hset:∀ j,Ls (L.setIfInBounds r.i true) j↔j=r.i\/Ls L j:=fun j=>Ls.set (by omega)
   have hndr:(rs.map (·.i)).Nodup:=(e0z.1 ho.nodup).1;have hgt:∀ e∈W.tail L,(e∈W.R\/(e=W.e/\∀ ia,W.ia=some ia->Ls L ia)\/(e=W.e'/\Ls L W.iw)):=fun e he=>by
    unfold WR.tail at he
    by_cases hwl:L.getD W.iw false=true
    ·rw [d9l hwl] at he
     rcases d9F.1 he with rfl|he
     ·exact .inr (.inr ⟨rfl,hwl⟩)
     ·exact .inl he
    ·rw [d9m hwl] at he
     cases hia:W.ia with
     | none =>
      rw [hia] at he;rcases d9F.1 he with rfl|he
      ·exact .inr (.inl ⟨rfl,by simp⟩)
      ·exact .inl he
     | some ia =>
      rw [hia] at he;dsimp only at he
      by_cases hal:L.getD ia false=true
      ·rw [d9l hal] at he
       rcases d9F.1 he with rfl|he
       ·exact .inr (.inl ⟨rfl,fun j hj=>by cases hj;exact hal⟩)
       ·exact .inl he
      ·rw [d9m hal] at he
       exact .inl he
   have hfr:∀ k,ρ k (n+r.i)=none:=fun k=>by
    apply d9L;intro hk;obtain ⟨r',h1,h2,h3⟩:=hi.fresh k (n+r.i) (by omega) hk
    have:r'.i=r.i:=by omega
    rw [this] at h2;exact hnL h2
   have hne:∀ e∈He,e.g≠n+r.i:=fun e he hg=>by
    rcases List.mem_append.1 (hi.perm.mem_iff.1 he) with h|h
    ·obtain ⟨r',h1,h2⟩:=List.mem_filterMap.1 h
     split at h2
     ·rename_i hl
      obtain ⟨A',B',hAB'⟩:=e0v h1
      have:=(hst A' r' B' hAB').2.gen e h2
      have:r'.i=r.i:=by omega
      rw [this] at hl;exact hnL hl
     ·cases h2
    ·have hE:(∀ ia,W.ia=some ia->Ls L ia)->W.e.g≠n+r.i:=fun hal hg=>by
      cases hia:W.ia with
      | none=>have:=hge hia;omega
      | some ia =>
       have h1:=(hga ia hia).1
       have:ia=r.i:=by omega
       rw [<- this] at hnL;exact hnL (hal ia hia)
     rcases hgt e h with h|⟨rfl,hal⟩|⟨rfl,hl⟩
     ·have:=hgen e h;omega
     ·exact hE hal hg
     ·rcases hwg with h'|h'
      ·refine hE (fun ia hia=>?_) (by omega)
       refine a0w hL hc (hga ia hia).2 fun k hk=>?_
       have hwl':Ls L W.iw:=hl;exact hc W.iw ((hLt W.iw hiw).2 hwl') hiw k hk
      ·have:W.iw=r.i:=by omega
       rw [this] at hl;exact hnL hl
   have go:∀ (a':Act) (w':World) (ρ':Lk) (He':Hp),DI C F (W.tail (L.setIfInBounds r.i true)) n env rs (L.setIfInBounds r.i true) a' w' ρ' He'->wpAny C.P .any ops Q fuel (L.setIfInBounds r.i true) a' w':=by
    intro a' w' ρ' He' hn';refine ih _ _ _ ρ' He' (by simp [hL]) ?_ ?_ (fun j hj=>?_) hn'
    ·have:((rs.map (·.i)++suf).filter (fun i=>!(L.setIfInBounds r.i true).getD i false)).length<((rs.map (·.i)++suf).filter (fun i=>!L.getD i false)).length:=by
      have sub:(rs.map (·.i)++suf).filter (fun i=>!(L.setIfInBounds r.i true).getD i false)=((rs.map (·.i)++suf).filter (fun i=>!L.getD i false)).filter (fun i=>!Nat.beq i r.i):=by
       rw [List.filter_filter];apply List.filter_congr;intro x hx;have h1:=hset x;unfold Ls at h1
       by_cases hxr:x=r.i
       ·subst hxr
        have:(L.setIfInBounds r.i true).getD r.i false=true:=h1.2 (.inl rfl)
        simp [this]
       ·have hb:Nat.beq x r.i=false:=by
         cases hb:Nat.beq x r.i with
         | false=>rfl
         | true=>exact d9n (d9v hb) hxr
        rw [hb]
        by_cases hlx:L.getD x false=true
        ·rw [h1.2 (.inr hlx),hlx];rfl
        ·have:¬ (L.setIfInBounds r.i true).getD x false=true:=fun h=>hlx ((h1.1 h).resolve_left hxr)
         simp only [Bool.not_eq_true] at this hlx;rw [this,hlx];rfl
      rw [sub];apply List.length_filter_lt_length_iff_exists.2;exact ⟨r.i,by rw [List.mem_filter];exact ⟨by simp;exact .inl ⟨r,hr,rfl⟩,by unfold Ls at hnL;simpa using hnL⟩,by simp⟩
     omega
    ·intro k hk2 hks x hx
     have hk3:Ls (L.setIfInBounds r.i true) k:=by
      unfold Ls;rw [d9o,d9C (by simp;omega)] at hk2 ⊢;simpa using hk2
     show Ls _ x;rw [hset];rcases (hset k).1 hk3 with rfl|hk3
     ·exact .inr (hid x hx)
     ·exact .inr (hc k ((hLt k hks).2 hk3) hks x hx)
    ·rw [hset]
     rintro (rfl|h)
     ·have hnd:=ho.nodup
      rw [e0z] at hnd;exact hnd.2.2 r.i (List.mem_map.2 ⟨r,hr,rfl⟩) r.i hj rfl
     ·exact hs j hj h
   have hdst:=ho.dst;rw [hAB] at hdst hndr;have keep:∀ {α:Type} (j:Nat) (x y:α),j≠r.i->(if (L.setIfInBounds r.i true).getD j false=true then x else y)=(if L.getD j false=true then x else y):=fun j x y hj=>by
    have:=hset j
    unfold Ls at this
    by_cases hl:L.getD j false=true
    ·rw [d9l hl,d9l (this.2 (.inr hl))]
    ·rw [d9m hl,d9m fun h=>hl ((this.1 h).resolve_left hj)]
   have wset:r.i≠W.iw->W.ia≠some r.i->W.tail (L.setIfInBounds r.i true)=W.tail L:=fun hr hr2=>by
    unfold WR.tail;rw [keep W.iw _ _ (Ne.symm hr)];cases hia:W.ia with
    | none=>rfl
    | some ia =>
     dsimp only;rw [keep ia _ _ fun h=>hr2 (by rw [hia,h])]
   have next:r.i≠W.iw->W.ia≠some r.i->∀ v ρ' w',a9T C F He ρ w (n+r.i) r.d r.ne v ρ' w'->wpAny C.P .any ops Q fuel (L.setIfInBounds r.i true) (a.put r.o.dst v) w':=by
    intro hriw hria v ρ' w' p;have hi':=hi;rw [hAB] at hi';have hn':=DI.next hi' (by omega) hnL hndr hdst (hd r hr) p;rw [<- hAB,<- wset hriw hria] at hn';exact go _ _ _ _ hn'
   unfold wpOp;simp only [hor];have hR:∀ e∈W.R,e∈He:=fun e he=>hi.perm.mem_iff.2 (by
    refine List.mem_append_right _ ?_;unfold WR.tail;cases W.ia<;>dsimp only<;>(repeat' split)<;>simp [he])
   have samefm:r.ne=none->∀ {fm:List Ent},(A++r::B).filterMap (fun r'=>if L.getD r'.i false then r'.ne else none)=fm ->
     (A++r::B).filterMap (fun r'=>if (L.setIfInBounds r.i true).getD r'.i false then r'.ne else none)=fm:=fun hnone fm hfm=>by
    rw [<- hfm];refine a3d fun r' hr'=>?_
    by_cases hrr:r'.i=r.i
    ·have:r'=r:=c7L hndr hr' (by simp) hrr
     subst this;rw [hnone];simp
    ·exact keep r'.i _ _ hrr
   rcases hstr with ⟨hriw,hria,hstd⟩|⟨hriw,hria,hnone,hstw⟩|⟨hriw,hria,hnone,hstd⟩
   ·have hgo:∀ Hr:Hp,(∀ e∈Hr,e∈He)->a0s C F ops Hr (n+r.i) (a3C A env) r.o r.d r.ne->_:=fun Hr hsub hs=>hs.2 He ρ a w hi.mem hsub hfr hne (hi.look ho hL hc hAB hir)
    have fin:_:=(show (Region.wanted r.o (yielded ops a.tmps)=false/\r.ne=none/\Rep ρ (Own F.X ρ He) w r.d undef)\/(Region.wanted r.o (yielded ops a.tmps)=true/\d5X C F He ρ w (n+r.i) r.d r.ne r.o a) from by
     rcases hstd with ⟨hia,hre,hs⟩|hs
     ·refine hgo _ (fun e he=>hi.perm.mem_iff.2 ?_) hs
      have hnw:¬ L.getD W.iw false=true:=fun hwl=>hnL (by
       refine a0w hL hc hre fun k hk=>?_
       have hwl':Ls L W.iw:=hwl;exact hc W.iw ((hLt W.iw hiw).2 hwl') hiw k hk)
      unfold WR.tail;rw [d9m hnw,hia];rcases d9F.1 he with rfl|he
      ·simp
      ·simp [he]
     ·exact hgo _ hR hs)
    rcases fin with ⟨hw0,hn0,hrep⟩|⟨hw0,hout⟩
    ·rw [d9m (by rw [hw0];simp)]
     exact next hriw hria undef ρ w ⟨by rw [hn0];exact hi.mem,by rw [hn0];exact .refl _ _ _,fun _ _ _=>rfl,by rw [hn0];exact hrep⟩
    ·rw [d9l hw0]
     refine .inl ?_;unfold Oper.wp;rcases hout with ⟨v,ρ',w',h1,h2⟩|⟨f,vs,h1,h2⟩
     ·rw [h1];exact next hriw hria v ρ' w' h2
     ·rw [h1]
      refine h2.mono ?_;rintro e w' ⟨v,rfl,ρ',h3⟩;exact next hriw hria v ρ' w' h3
   ·
    have hnw:¬ L.getD W.iw false=true:=fun h=>hnL (by rw [hriw];exact h)
    generalize hfm:rs.filterMap (fun r'=>if L.getD r'.i false then r'.ne else none)=fm at *;have hperm:He.Perm (W.e::(fm++W.R)):=by
     have h0:=hi.perm;have htl:W.tail L=W.e::W.R:=by
      unfold WR.tail;rw [d9m hnw];cases hia:W.ia with
      | none=>rfl
      | some ia =>
       dsimp only;have hre:=(hga ia hia).2;rw [<- hriw] at hre;exact d9l (a0w hL hc hre hid)
     rw [htl,hfm] at h0;exact h0.trans e1S
    have m1:=hi.mem.perm hperm;have ho1:=Own.perm (X:=F.X) (ρ:=ρ) hperm;obtain ⟨hw0,v,ρ',w',hrun,m2,x2,far2,rep2⟩:=hstw (fm++W.R) ρ a w m1 (fun e he=>by simp [he]) hfr (fun e he=>hne e (hperm.mem_iff.2 he)) (fun t ht=>by
     rw [<- ho1];exact hi.look ho hL hc hAB hir t ht)
    rw [<- ho1] at x2;have hi':=hi;rw [hAB] at hi' hfm;have nx:=DI.nextG (H':=W.e'::W.R) hi' (by omega) hnL hndr hdst (hd r hr) (v:=v) m2 x2 far2 rep2 (by
     rw [samefm hnone hfm];exact e1S.symm)
    have hwt:W.tail (L.setIfInBounds r.i true)=W.e'::W.R:=by
     exact d9l ((hset W.iw).2 (.inl hriw.symm))
    rw [<- hAB,<- hwt] at nx;rw [d9l hw0];refine .inl ?_;unfold Oper.wp;rcases hrun with hrun|⟨hrun,rfl⟩
    ·rw [hrun];exact go _ _ _ _ nx
    ·rw [hrun];exact go _ _ _ _ nx
   ·
    have htl:W.tail L=W.R:=by
     have hnw:¬ L.getD W.iw false=true:=fun hwl=>hnL (by
      refine a0w hL hc (hga r.i hria).2 fun k hk=>?_
      have hwl':Ls L W.iw:=hwl;exact hc W.iw ((hLt W.iw hiw).2 hwl') hiw k hk)
     unfold WR.tail;rw [d9m hnw,hria];exact d9m hnL
    have hwt:W.tail (L.setIfInBounds r.i true)=W.e::W.R:=by
     have hnw:¬ (L.setIfInBounds r.i true).getD W.iw false=true:=fun hwl=>by
      rcases (hset W.iw).1 hwl with h|h
      ·exact hriw h.symm
      ·exact hnL (by
        refine a0w hL hc (hga r.i hria).2 fun k hk=>?_
        exact hc W.iw ((hLt W.iw hiw).2 h) hiw k hk)
     unfold WR.tail;rw [d9m hnw,hria];exact d9l ((hset r.i).2 (.inl rfl))
    have nxt:∀ v ρ' w',a9T C F He ρ w (n+r.i) r.d (some W.e) v ρ' w'->wpAny C.P .any ops Q fuel (L.setIfInBounds r.i true) (a.put r.o.dst v) w':=fun v ρ' w' p=>by
     have hi':=hi;rw [hAB] at hi';have nx:=DI.nextG (H':=W.e::W.R) hi' (by omega) hnL hndr hdst (hd r hr) (v:=v) p.mem p.ext p.far p.rep (by
      rw [samefm hnone rfl];have h0:=hi'.perm;rw [htl] at h0;exact (List.Perm.cons W.e h0).trans e1S.symm)
     rw [<- hAB,<- hwt] at nx;exact go _ _ _ _ nx
    rcases hstd.2 He ρ a w hi.mem hR hfr hne (hi.look ho hL hc hAB hir) with ⟨hw0,hn0,hrep⟩|⟨hw0,hout⟩
    ·cases hn0
    ·rw [d9l hw0]
     refine .inl ?_;unfold Oper.wp;rcases hout with ⟨v,ρ',w',h1,h2⟩|⟨f,vs,h1,h2⟩
     ·rw [h1];exact nxt v ρ' w' h2
     ·rw [h1]
      refine h2.mono ?_;rintro e w' ⟨v,rfl,ρ',h3⟩;exact nxt v ρ' w' h3
inductive b7S (C:Ctx)(F:Fra)(ops:Array Oper)(W:WR)(n:Nat):List Nat->Env->Hp->Env->Hp->Prop
 | nil (env:Env) (N:Hp):b7S C F ops W n [] env N env N
 | cons {i:Nat} {l:List Nat} {o:Oper} {d:D} {ne:Option Ent} {env env':Env} {N N':Hp} (ho:ops[i]? = some o) (hs:c8y C F ops W (n+i) env ⟨i,o,d,ne⟩)
   (h:b7S C F ops W n l (a2f env o.dst d) (a4G ne N) env' N'):b7S C F ops W n (i::l) env N env' N'
theorem b7S.recs {W:WR}{n:Nat}{l:List Nat}{env env':Env}{N N':Hp}(h:b7S C F ops W n l env N env' N') :
  ∃ rs:List Rec,rs.map (·.i)=l/\env'=a3C rs env/\N'=b7h rs N /\
   ∀ A r B,rs=A++r::B->ops[r.i]? = some r.o/\c8y C F ops W (n+r.i) (a3C A env) r:=by
 induction h with
 | nil env N=>exact ⟨[],rfl,rfl,rfl,fun A r B h=>by cases A<;>simp at h⟩
 | @cons i l o d ne env env' N N' ho hs _ ih =>
  obtain ⟨rs,h1,h2,h3,h4⟩:=ih;refine ⟨⟨i,o,d,ne⟩::rs,by simp [h1],h2,h3,fun A r B hr=>?_⟩;cases A with
  | nil =>
   simp only [e0p,e0P] at hr;obtain ⟨rfl,rfl⟩:=hr;exact ⟨ho,hs⟩
  | cons r0 A =>
   simp only [e0M,e0P] at hr;obtain ⟨rfl,rfl⟩:=hr;exact h4 A r B rfl
theorem d8x {W:WR}{s:St}{Q:Exit->St->Prop}{pre suf:List Nat}{envF:Env}{N:Hp}(hc:b2m ops pre suf=true)
  (hH:s.H.Perm W.start) (hga:∀ ia,W.ia=some ia->W.e.g=s.n+ia/\a1Z ops W.iw ia/\ia∈pre) (hiw:W.iw∈pre) (hwg:W.e'.g=W.e.g\/W.e'.g=s.n+W.iw)
  (hpre:b7S C F ops W s.n pre s.env [] envF N)
  (h:OkL C F ops (suf.map fun j=>ops.getD j default) ⟨envF,N++W.e'::W.R,s.n+ops.size⟩ (Q .normal)) (hd:ops.toList.all (a2m F.nt)=true) (ρ:Lk) (a:Act) (w:World) (hs:Sat C F ρ s a w) :
  wpAny C.P .any ops (Fin C F (Q .normal)) ops.size (Array.replicate ops.size false) a w.drew:=by
 obtain ⟨rs,h1,h2,h3,h4⟩:=hpre.recs;have hor:∀ r∈rs,ops[r.i]? = some r.o:=fun r hr=>by
  obtain ⟨A,B,hAB⟩:=e0v hr;exact (h4 A r B hAB).1
 have ho:=a8f h1 hor hc;have hds:∀ r∈rs,a2m F.nt r.o=true:=fun r hr=>by
  refine d9W.1 hd r.o ?_
  have:=hor r hr
  exact Array.mem_toList_iff.2 (e1u this)
 have hrep:∀ j,(Array.replicate ops.size false).getD j false=false:=fun j=>by
  rw [d9o];rw [e1r];split<;>rfl
 have hnL:∀ j,¬ Ls (Array.replicate ops.size false) j:=fun j hj=>by unfold Ls at hj;rw [hrep] at hj;cases hj
 have hgen:∀ e∈W.R,e.g<s.n:=fun e he=>hs.gen e (hH.mem_iff.2 (by unfold WR.start;cases W.ia<;>simp [he]))
 have hge:W.ia=none->W.e.g<s.n:=fun hia=>hs.gen _ (hH.mem_iff.2 (by unfold WR.start;rw [hia];simp))
 have hlw:=ho.lt W.iw (by rw [h1];simp [hiw]);have htl:W.tail (Array.replicate ops.size false)=W.start:=by
  unfold WR.tail WR.start;rw [d9m (by rw [hrep];simp)];cases W.ia with
  | none=>rfl
  | some ia=>exact d9m (by rw [hrep];simp)
 have hin:DI C F (W.tail (Array.replicate ops.size false)) s.n s.env rs (Array.replicate ops.size false) a w.drew ρ s.H:=by
  refine ⟨hs.mem.drew,?_,fun r _ hl=>d9n hl (hnL _),fun t _=>(hs.env t).mono (.drew _ _ _),fun k g hg hk=>d9n (hs.fresh k g hg) hk,hs.nt,hs.dfr⟩
  have:rs.filterMap (fun r=>if (Array.replicate ops.size false).getD r.i false then r.ne else none)=[]:=by
   rw [e2s];intro r _;rw [hrep];rfl
  rw [this,htl];exact hH
 refine b3X ho hlw hwg hgen hge (fun ia h=>⟨(hga ia h).1,(hga ia h).2.1⟩) hds h4 ?_ (fun hall=>by
  rw [<- h1] at hiw;obtain ⟨r,hr,he⟩:=List.mem_map.1 hiw;rw [<- he];exact hall r hr) ops.size _ a w.drew ρ s.H (by simp) ?_ ?_ (fun j _=>hnL j) hin
 ·intro L a' w' ρ' He hL hall hi
  have hN:He.Perm (N++W.e'::W.R):=by
   refine hi.perm.trans (List.Perm.append_right _ ?_);have e:rs.filterMap (fun r=>if L.getD r.i false then r.ne else none)=rs.filterMap (·.ne):=a3d fun r hr=>by
    have:=hall r hr;unfold Ls at this;rw [this];rfl
   rw [e,h3]
   have:=a2K rs []
   rw [e0D] at this;exact this.symm
  refine h ?_ suf ?_ ρ' a' w' ⟨hi.mem.perm hN,?_,?_,fun t=>?_,hi.nt,hi.dfr⟩
  ·rw [d9W]
   intro o' ho';obtain ⟨j,hj,rfl⟩:=List.mem_map.1 ho';have hlt:=ho.lt j (by simp [hj]);refine d9W.1 hd _ ?_;rw [d9o,d9C hlt];simp
  ·rw [List.map_map]
   refine e1M fun j hj=>?_
   have hlt:=ho.lt j (by simp [hj]);simp [d9o,d9C hlt]
  ·intro k g hg
   apply d9L;intro hk;obtain ⟨r,hr,_,he⟩:=hi.fresh k g (by simp at hg;omega) hk
   have:=ho.lt r.i (by simp;exact .inl ⟨r,hr,rfl⟩)
   simp at hg;omega
  ·intro e he
   rcases List.mem_append.1 he with he|he
   ·rw [h3] at he
    have he:=(a2K rs []).mem_iff.1 he;rw [e0D] at he;obtain ⟨r,hr,hre⟩:=List.mem_filterMap.1 he;obtain ⟨A,B,hAB⟩:=e0v hr
    have:=(h4 A r B hAB).2.gen e hre
    have:=ho.lt r.i (by simp;exact .inl ⟨r,hr,rfl⟩)
    show e.g<s.n+ops.size;omega
   ·show e.g<s.n+ops.size
    rcases d9F.1 he with rfl|he
    ·have hE:W.e.g<s.n+ops.size:=by
      cases hia:W.ia with
      | none=>have:=hge hia;omega
      | some ia =>
       obtain ⟨q1,_,q3⟩:=hga ia hia
       have:=ho.lt ia (by rw [h1];simp [q3])
       omega
     rcases hwg with h|h<;>omega
    ·have:=hgen e he
     omega
  ·show Rep ρ' (Own F.X ρ' (N++W.e'::W.R)) w' (envF.get t) _
   rw [<- Own.perm hN,h2]
   by_cases hw:∃ r∈rs,r.o.dst=some t
   ·obtain ⟨r,hr,hrd⟩:=hw
    rw [a4n rs s.env t ho.dst r hr hrd];exact hi.reps r hr (hall r hr) t hrd
   ·rw [a1v rs s.env t fun r hr hrd=>hw ⟨r,hr,hrd⟩]
    exact hi.old t fun r hr _ hrd=>hw ⟨r,hr,hrd⟩
 ·refine d9V (List.length_filter_le _ _) ?_
  have hsub:∀ (l:List Nat) (n:Nat),l.Nodup->(∀ x∈l,x<n)->l.length<=n:=by
   intro l n
   induction n generalizing l with
   | zero=>intro _ h;cases l with
    | nil=>simp
    | cons x l=>exact d9n (h x (by simp)) (by omega)
   | succ n ihn =>
    intro hnd hlt;have h1:=ihn (l.erase n) (hnd.erase n) fun x hx=>by
     have:=hlt x (List.mem_of_mem_erase hx)
     have:x≠n:=fun h=>by subst h;exact (e2v hnd) hx
     omega
    have:=List.length_erase (a:=n) (l:=l)
    split at this<;>omega
  exact hsub _ _ ho.nodup ho.lt
 ·intro k hk
  have:k<ops.size\/¬ k<ops.size:=by omega
  rcases this with hlt|hlt
  ·rw [d9o,e1r,d9l hlt] at hk;cases hk
  ·intro h;exact d9n h hlt
theorem c1C {P:Program}{o:Oper}{a:Act}{R R':Exit->Act->World->Prop}{K K':Act->World->Prop}(hk:∀ a w,K a w->K' a w)(h:∀ e a w,R e a w->R' e a w):∀ r,o.upon P a K R r->o.upon P a K' R' r:=fun r hr=>by
 unfold Oper.upon at hr ⊢;split at hr
 ·exact hk _ _ hr
 ·exact hk _ _ hr
 ·exact hk _ _ hr
 ·refine hr.mono ?_
  intro e w'' q;cases e with
  | returned v=>exact hk _ _ q
  | panicked c=>exact h _ _ _ q
  | outgrown=>obtain ⟨a,w,q⟩:=q;exact ⟨a,w,h _ _ _ q⟩
 ·exact fun c cs=>by
   obtain ⟨v,w',h1,h2⟩:=hr c cs;exact ⟨v,w',hk _ _ h1,h2⟩
 ·exact h _ _ _ hr
 ·exact hr.elim
theorem a5w {P:Program}{R R':Exit->Act->World->Prop}(h:∀ e a w,R e a w->R' e a w):∀ (fuel:Nat) (L:Array Bool) (a:Act) (w:World),wpAny P .any ops R fuel L a w->wpAny P .any ops R' fuel L a w
 | 0,L,a,w,hh=>⟨hh.1,h _ _ _ hh.2⟩
 | fuel+1,L,a,w,hh=>⟨fun h0=>h _ _ _ (hh.1 h0),fun i hi=>by
   have hq:=hh.2 i hi;unfold wpOp at hq ⊢;split
   ·rename_i ho;simp only [ho] at hq;exact a5w h _ _ _ _ hq
   ·rename_i o ho
    simp only [ho] at hq;split
    ·rename_i hw
     rw [d9l hw] at hq;rcases hq with hq|⟨h1,a,w,h2⟩
     ·exact .inl (c1C (fun a w=>a5w h _ _ a w) h _ hq)
     ·exact .inr ⟨h1,a,w,h _ _ _ h2⟩
    ·rename_i hw
     rw [d9m hw] at hq;exact a5w h _ _ _ _ hq⟩
theorem d8w {W:WR}{i:Nat}{s:St}{Q:Exit->St->Prop}{pre suf:List Nat}{envF:Env}{N:Hp}(hm:C.P.follows .mixedOrders=true)(hc:b2m ops pre suf=true)
  (hH:s.H.Perm W.start) (hga:∀ ia,W.ia=some ia->W.e.g=s.n+ia/\a1Z ops W.iw ia/\ia∈pre) (hiw:W.iw∈pre) (hwg:W.e'.g=W.e.g\/W.e'.g=s.n+W.iw)
  (hpre:b7S C F ops W s.n pre s.env [] envF N)
  (h:OkL C F ops (suf.map fun j=>ops.getD j default) ⟨envF,N++W.e'::W.R,s.n+ops.size⟩ (Q .normal)):Ok C F (.region i ops true) s Q:=fun hd ρ a w hs=>by
 refine wp_region_any hm (a5w (fun e a w h=>?_) _ _ _ _ (d8x hc hH hga hiw hwg hpre h hd ρ a w hs));obtain ⟨rfl,s',ρ',h1,h2⟩:=h;exact ⟨s',ρ',h1,h2⟩
theorem b8W {tt:Nat->Option a0n}{H:Hp}{g g':Operand->D}{op:Op}(h:∀ x∈op.operands,g x=g' x):evS tt H g op=evS tt H g' op:=by
 cases op<;>simp only [Op.operands] at h<;>try rfl
 case store t x y=>simp only [evS];rw [h x (by simp),h y (by simp)]
theorem c2y {tt:Nat->Option a0n}{e:Ent}{He:Hp}{g:Operand->D}{op:Op}{k:Nat}{e':Ent}{p:Prop}(h:evS tt [e] g op=some (k,e',p)) :
  evS tt (e::He) g op=some (k,e',p)/\Hp.set (e::He) k e'=e'::He/\e'.g=e.g:=by
 unfold evS at h;split at h<;>try(cases h;done)
 rename_i t x y;simp only [evS];split at h<;>try(cases h;done)
 rename_i i hi
 try simp only [hi]
 split at h<;>try(cases h;done)
 rename_i h1
 try simp only [h1]
 split at h<;>try(cases h;done)
 rename_i e1 h2;have hb:Nat.beq e.k k=true/\e1=e:=by
  split at h<;>try(cases h;done)
  cases h;simp only [Hp.get] at h2;split at h2
  ·rename_i hb;cases h2;exact ⟨hb,rfl⟩
  ·cases h2
 have hget:∀ k0,Hp.get [e] k0=some e1->Hp.get (e::He) k0=some e1:=fun k0 hk=>by
  simp only [Hp.get] at hk ⊢;split at hk
  ·exact hk
  ·cases hk
 try rw [hget _ h2]
 split at h<;>try(cases h;done)
 rename_i h3;cases h;refine ⟨by first|rfl|simp only [h3],?_,by rw [hb.2]⟩;simp only [Hp.set,hb.1]
theorem a3p.store {W:WR}{g:Nat}{env:Env}{o:Oper}{tt:Nat->Option a0n}(htt:Tab C.P tt){k:Nat}{p:Prop}(hw:a0S ops env o=some true)(he:evS tt [W.e] (a1m env) o.op=some (k,W.e',p))(hp:p) :
  a3p C F ops W g env o (.prim (.tuple #[])):=fun He ρ a w m _ _ _ hr=>by
 refine ⟨a1r hr hw,?_⟩;obtain ⟨g',h1,h2⟩:=a2y hr;rw [b8W h1] at he;obtain ⟨q1,q2,_⟩:=c2y (He:=He) he;obtain ⟨w',r1,r2,r3,_⟩:=b3E (s:=⟨[],W.e::He,0⟩) htt m h2 q1 hp;simp only [q2] at r2 r3;exact ⟨undef,ρ,w',.inr ⟨r1,rfl⟩,r2,r3,fun _ _ _=>rfl,.prim _⟩
theorem a8D {tt:Nat->Option a0n}{H:Hp}{n k:Nat}{g g':Operand->D}{op:Op}(h:∀ x∈op.operands,g x=g' x):evA tt H n k g op=evA tt H n k g' op:=by
 unfold evA;split
 ·rename_i args tys
  cases hargs:args.toList with
  | nil=>rfl
  | cons s r =>
   cases r with
   | nil=>rfl
   | cons x r =>
    cases r with
    | nil =>
     have hs:s∈args.toList:=by rw [hargs];simp
     have hx:x∈args.toList:=by rw [hargs];simp
     dsimp only;rw [h s (by simp [Op.operands,Call.operands];simpa using hs),h x (by simp [Op.operands,Call.operands];simpa using hx)]
    | cons=>rfl
 ·rfl
theorem b9C {e e1:Ent}{k:Nat}{He:Hp}(h:Hp.get [e] k=some e1):e1=e/\Hp.get (e::He) k=some e/\Hp.del (e::He) k=He/\Hp.del [e] k=[]:=by
 simp only [Hp.get] at h;split at h
 ·rename_i hb
  cases h;refine ⟨rfl,?_,?_,?_⟩
  ·simp only [Hp.get,hb]
  ·simp only [Hp.del,hb]
  ·simp only [Hp.del,hb]
 ·cases h
theorem c1p {e:Ent}{He:Hp}{esz:Nat}{d:D}{r:List D × Prop}(h:b6q [e] esz d=some r):b6q (e::He) esz d=some r:=by
 unfold b6q at h ⊢;split at h<;>try exact h
 split at h<;>try(cases h;done)
 rename_i h1;obtain ⟨rfl,h2,_,_⟩:=b9C (He:=He) h1;rw [h2];exact h
theorem b1q {tt:Nat->Option a0n}{e e':Ent}{He:Hp}{n k:Nat}{g:Operand->D}{op:Op}{d:D}{p:Prop}(h:evA tt [e] n k g op=some (d,[e'],p)) :
  evA tt (e::He) n k g op=some (d,e'::He,p)/\e'.g=n:=by
 unfold evA at h ⊢;split at h<;>try(cases h;done)
 split at h<;>try(cases h;done)
 rename_i h1
 try rw [h1]
 try dsimp only
 split at h<;>try(cases h;done)
 rename_i h2
 try rw [h2]
 try dsimp only
 split at h<;>try(cases h;done)
 rename_i h3
 try rw [h3]
 try dsimp only
 split at h<;>try(cases h;done)
 rename_i h4
 try rw [h4]
 try dsimp only
 split at h<;>try(cases h;done)
 rename_i h5
 try rw [h5]
 try dsimp only
 split at h<;>try(cases h;done)
 rename_i h6
 try rw [c1p h6]
 try dsimp only
 split at h<;>try(cases h;done)
 ·rename_i h7
  try rw [h7]
  try dsimp only
  split at h<;>try(cases h;done)
  rename_i h8;obtain ⟨rfl,a1,a2,a3⟩:=b9C (He:=He) h8
  try rw [a1]
  try dsimp only
  rw [a3] at h;rw [a2];cases h;exact ⟨rfl,rfl⟩
theorem a3p.app {W:WR}{g:Nat}{env:Env}{o:Oper}{tt:Nat->Option a0n}(k:Nat)(htt:Tab C.P tt){d:D}{p:Prop}(hw:a0S ops env o=some true)(he:evA tt [W.e] g k (a1m env) o.op=some (d,[W.e'],p))(hp:p) :
  a3p C F ops W g env o d:=fun He ρ a w m _ fr hne hr=>by
 refine ⟨a1r hr hw,?_⟩;obtain ⟨g',h1,h2⟩:=a2y hr;rw [a8D h1] at he;obtain ⟨q1,_⟩:=b1q (He:=He) he;obtain ⟨v,ρ',w',r1,r2⟩:=a6j htt m fr hne h2 q1 hp;exact ⟨v,ρ',w',.inl r1,r2.mem,r2.ext,r2.far,r2.rep⟩
theorem b5x {tt:Nat->Option a0n}{e':Ent}{He:Hp}{n k:Nat}{g:Operand->D}{op:Op}{d:D}{p:Prop}(h:evA tt [] n k g op=some (d,[e'],p)) :
  evA tt He n k g op=some (d,e'::He,p)/\e'.g=n:=by
 have src:∀ {esz:Nat} {x:D} {r:List D × Prop},b6q [] esz x=some r->b6q He esz x=some r:=fun {esz x r} h=>by
  unfold b6q at h ⊢;split at h<;>try exact h
  split at h<;>try(cases h;done)
  rename_i h1;cases h1
 unfold evA at h ⊢;split at h<;>try(cases h;done)
 split at h<;>try(cases h;done)
 rename_i h1
 try rw [h1]
 try dsimp only
 split at h<;>try(cases h;done)
 rename_i h2
 try rw [h2]
 try dsimp only
 split at h<;>try(cases h;done)
 rename_i h3
 try rw [h3]
 try dsimp only
 split at h<;>try(cases h;done)
 rename_i h4
 try rw [h4]
 try dsimp only
 split at h<;>try(cases h;done)
 rename_i h5
 try rw [h5]
 try dsimp only
 split at h<;>try(cases h;done)
 rename_i h6
 try rw [src h6]
 try dsimp only
 split at h<;>try(cases h;done)
 cases h;exact ⟨rfl,rfl⟩
theorem d9d {H:Hp}{g:Nat}{env:Env}{o:Oper}{e:Ent}{tt:Nat->Option a0n}(k:Nat)(htt:Tab C.P tt){d:D}{p:Prop}(hw:a0S ops env o=some true)(he:evA tt [] g k (a1m env) o.op=some (d,[e],p))(hp:p) :
  a0s C F ops H g env o d (some e):=by
 refine ⟨fun e' h=>by cases h;exact (b5x (He:=[]) he).2,fun He ρ a w m _ fr hne hr=>.inr ⟨a1r hr hw,.inl ?_⟩⟩;obtain ⟨g',h1,h2⟩:=a2y hr;rw [a8D h1] at he;obtain ⟨q1,_⟩:=b5x (He:=He) he;obtain ⟨v,ρ',w',r1,r2⟩:=a6j htt m fr hne h2 q1 hp;exact ⟨v,ρ',w',r1,r2.mem,r2.ext,r2.far,r2.rep⟩
end
noncomputable section
structure FI where
 nt:Nat
 res:List ResultVar
 code:Code
structure EV where
 tt:Nat->Option a0n
 xt:Nat->Option XI
 ft:Nat->Option FI
 np:Nat->Bool
 orc:Nat->List D->Option D
 mt:Nat->String->Option Nat
 nat:Nat->List D->Option D
structure a9R (C:Ctx)(X:EV):Prop where
 tt:Tab C.P X.tt
 xt:c3M C.P X.xt
 ft:∀ f i,X.ft f=some i->∃ fn,C.P.funcs[f]? = some fn/\fn.body=some i.code/\(fn.name == "runtime.NumGoroutine")=false/\a0O fn.ntmps i.code=true/\fn.ntmps=i.nt/\fn.results.toList=i.res
 orc:∀ f ds d,X.orc f ds=some d->a0b C f ds d/\ArePure ds
 mixed:C.P.follows .mixedOrders=true
 mt:∀ t name f,X.mt t name=some f->∀ v w,(method (C.P.types.size+Made.depth) t v name).run C.P w=.ok (f,v) w
 nat:∀ f ds d,X.nat f ds=some d->a4I C f ds d
noncomputable def d5h (env:Env)(t:Nat):D:=List.rec (motive:=fun _=>D) .any (fun p _ ih=>Bool.rec (motive:=fun _=>D) ih p.2 (Nat.beq p.1 t)) env
theorem b9B (t:Nat):∀ env:Env,d5h env t=env.get t
 | []=>rfl
 | (k,d)::r=>by
  show Bool.rec (motive:=fun _=>D) (d5h r t) d (Nat.beq k t)=_;rw [b9B t r];simp only [Env.get];cases Nat.beq k t<;>rfl
noncomputable def c8C (env:Env)(x:Operand):D:=match x with
 | .tmp t=>d5h env t
 | .const v=>a7t v
 | .global g=>.prim (.pointer (some ⟨g,0,none⟩))
 | .func f=>.clo (.func f) [] []
theorem a8P (env:Env):c8C env=a1m env:=by
 funext x
 cases x<;>first|rfl|exact b9B _ _
noncomputable def d3L (i:Nat)(l:List Nat):Bool:=List.rec (motive:=fun _=>Bool) false (fun j _ ih=>Bool.rec (motive:=fun _=>Bool) ih true (Nat.beq i j)) l
theorem b9U (i:Nat):∀ l:List Nat,d3L i l=a3n i l
 | []=>rfl
 | j::l=>by
  show Bool.rec (motive:=fun _=>Bool) (d3L i l) true (Nat.beq i j)=_;rw [b9U i l];simp only [a3n];cases Nat.beq i j<;>rfl
abbrev a8m:=Nat->List D->Hp->Nat->Option (D × Hp × Nat)
abbrev a7K:=Nat->List D->Option D
def c2F (b:Bool)(r:D × Hp × Nat):Option (D × Hp × Nat):=match b with
 | true=>some r
 | false=>none
def d3K (tt:Nat->Option a0n)(g:Operand->D)(t:Nat)(x ix:Operand):Option D:=match tt t with
 | some i=>match i.ti with
  | .slice _ esz _ _=>match g ix with
   | .prim (.int _ j)=>match g x with
    | .sl _ sz es=>match Nat.beq sz esz&&decide (0<=j) with
     | true=>match es[j.toNat]? with
      | some d=>some (.pptr d)
      | none=>none
     | false=>none
    | _=>none
   | _=>none
  | _=>none
 | none=>none
def c9r (X:EV)(g:Operand->D)(H:Hp)(n:Nat)(op:Op):Option (D × Hp × Nat):=match evP X.tt g op with
 | some (d,_)=>c2F (okP X.tt g op) (d,H,n+1)
 | none=>none
def d3G (X:EV)(g:Operand->D)(H:Hp)(n:Nat)(op:Op):Option (D × Hp × Nat):=match evQ X.tt X.xt g op with
 | some (d,_)=>c2F (okQ X.xt g op) (d,H,n+1)
 | none=>none
def a4V {α:Type}(a:Option α)(b:Option α):Option α:=match a with
 | some x=>some x
 | none=>b
def d6h (X:EV)(cl:a8m)(g:Operand->D)(H:Hp)(n:Nat)(op:Op):Option (D × Hp × Nat):=match op with
 | .call ⟨.value fop,args,_⟩=>match g fop with
  | .clo (.func f) first captured=>match X.nat f (first++args.toList.map g++captured) with
   | some d=>some (d,H,n+1)
   | none=>cl f (first++args.toList.map g++captured) H n
  | _=>none
 | .call ⟨.invoke r name,args,_⟩=>match g r with
  | .ifc t d0=>match X.mt t name with
   | some f=>cl f (d0::args.toList.map g) H n
   | none=>none
  | _=>none
 | .call ⟨.builtin .append,_,_⟩=>match evA X.tt H n n g op with
  | some (d,H',_)=>c2F (okA X.tt H g op) (d,H',n+1)
  | none=>none
 | .makeSlice _ _ _=>match evM X.tt n n g op with
  | some (d,e,_)=>c2F (okM X.tt g op) (d,e::H,n+1)
  | none=>none
 | .store _ _ _=>match evS X.tt H g op with
  | some (k,e,_)=>c2F (okS X.tt H g op) (.prim (.tuple #[]),Hp.set H k e,n+1)
  | none=>none
 | .load _ _ | .alloc _ | .box _ _ | .buildSlice _ _ _=>match evL X.tt H n n g op with
  | some (d,ne,_)=>c2F (okL X.tt H g op) (d,a4G ne H,n+1)
  | none=>none
 | .indexAddr t x ix=>a4V (c9r X g H n op) (match d3K X.tt g t x ix with
  | some d=>some (d,H,n+1)
  | none=>none)
 | .makeInterface _ _ | .lookup _ _ _ _=>d3G X g H n op
 | .binOp _ _ _ _ _=>a4V (c9r X g H n op) (d3G X g H n op)
 | _=>c9r X g H n op
def b8X (X:EV)(cl:a8m)(ops:Array Oper)(s:St)(o:Oper):Option (D × Hp × Nat):=match a0S ops s.env o with
 | some true=>d6h X cl (c8C s.env) s.H s.n o.op
 | some false=>some (.prim (.tuple #[]),s.H,s.n+1)
 | none=>none
def b4n (X:EV)(cl:a8m)(ops:Array Oper):List Oper->St->Option St
 | [],s=>some s
 | o::os,s=>match b8X X cl ops s o with
  | some (d,H',n')=>fzD d fun d=>fzN n' fun n'=>b4n X cl ops os ⟨a2f s.env o.dst d,H',n'⟩
  | none=>none
def isR (d:D)(H:Hp)(n:Nat):D->Hp->Nat->Prop:=fun d1 H1 n1=>d1=d/\H1=H/\n1=n
def a6N (C:Ctx)(cl:a8m):Prop:=∀ f ds H n d H' n',cl f ds H n=some (d,H',n')->a0z C f ds H n (isR d H' n')
def a5M (C:Ctx)(cp:a7K):Prop:=∀ f ds d,cp f ds=some d->a0b C f ds d/\ArePure ds
section
variable {C:Ctx} {F:Fra} {X:EV} {cl:a8m} {cp:a7K} {ops:Array Oper}
theorem a3u {b:Bool}{r r':D × Hp × Nat}(h:c2F b r=some r'):b=true/\r=r':=by
 cases b
 ·cases h
 ·cases h;exact ⟨rfl,rfl⟩
theorem b2T {tt:Nat->Option a0n}{g:Operand->D}{t:Nat}{x ix:Operand}{d:D}(h:d3K tt g t x ix=some d):∃ i e esz eby ez kk j nn es d',tt t=some i/\i.ti=.slice e esz eby ez/\g ix=.prim (.int kk j) /\
  g x=.sl nn esz es/\0<=j/\es[j.toNat]? = some d'/\d=.pptr d':=by
 unfold d3K at h;split at h<;>try(cases h;done)
 rename_i i h1;split at h<;>try(cases h;done)
 rename_i e esz eby ez h2;split at h<;>try(cases h;done)
 rename_i kk j h3;split at h<;>try(cases h;done)
 rename_i nn sz es h4;split at h<;>try(cases h;done)
 rename_i h5;split at h<;>try(cases h;done)
 rename_i d' h6;cases h;simp only [d9B,e0l] at h5;obtain rfl:=d9v h5.1;exact ⟨i,e,sz,eby,ez,kk,j,nn,es,d',h1,h2,h3,h4,h5.2,h6,rfl⟩
theorem b8Y (hX:a9R C X)(hcl:a6N C cl){s:St}{o:Oper}{os:List Oper}{K:St->Prop}{d:D}{H':Hp}{n':Nat}(h:b8X X cl ops s o=some (d,H',n'))
  (hk:OkL C F ops os ⟨a2f s.env o.dst d,H',n'⟩ K):OkL C F ops (o::os) s K:=by
 unfold b8X at h;rw [a8P] at h;split at h<;>try(cases h;done)
 ·rename_i hw
  have pe:c9r X (a1m s.env) s.H s.n o.op=some (d,H',n')->OkL C F ops (o::os) s K:=fun h=>by
   unfold c9r at h;split at h<;>try(cases h;done)
   rename_i hp;obtain ⟨hb,hr⟩:=a3u h;cases hr;exact OkL.p hX.tt hw hp (c0m hp hb) hk
  have qe:d3G X (a1m s.env) s.H s.n o.op=some (d,H',n')->OkL C F ops (o::os) s K:=fun h=>by
   unfold d3G at h;split at h<;>try(cases h;done)
   rename_i hp;obtain ⟨hb,hr⟩:=a3u h;cases hr;exact OkL.q hX.tt hX.xt hw hp (c5C hp hb) hk
  have le:∀ r,(match evL X.tt s.H s.n s.n (a1m s.env) o.op with
    | some (d,ne,_)=>c2F (okL X.tt s.H (a1m s.env) o.op) (d,a4G ne s.H,s.n+1)
    | none=>none)=some r->r=(d,H',n')->OkL C F ops (o::os) s K:=fun r h hr=>by
   split at h<;>try(cases h;done)
   rename_i hp;obtain ⟨hb,hr'⟩:=a3u h;rw [<- hr'] at hr;cases hr;exact OkL.l' s.n hX.tt hw hp (c0l hp hb) hk
  unfold d6h at h;split at h
  ·rename_i fop args tys ho
   split at h<;>try(cases h;done)
   rename_i f first captured hf
   split at h
   ·rename_i hn
    cases h;exact OkL.nat hw ho hf rfl (hX.nat _ _ _ hn) hk
   refine d8B hw ho hf rfl (hcl _ _ _ _ _ _ _ h) fun d1 H1 n1 hΦ=>?_
   obtain ⟨rfl,rfl,rfl⟩:=hΦ;exact hk
  ·rename_i r name args tys ho
   split at h<;>try(cases h;done)
   rename_i t d0 hr;split at h<;>try(cases h;done)
   rename_i f hf;refine d8D hw ho hr (hX.mt _ _ _ hf) rfl (hcl _ _ _ _ _ _ _ h) fun d1 H1 n1 hΦ=>?_
   obtain ⟨rfl,rfl,rfl⟩:=hΦ;exact hk
  ·split at h<;>try(cases h;done)
   rename_i hp;obtain ⟨hb,hr⟩:=a3u h;cases hr;exact d8z s.n hX.tt hw hp (c0h hp hb) hk
  ·split at h<;>try(cases h;done)
   rename_i hp;obtain ⟨hb,hr⟩:=a3u h;cases hr;exact d8E s.n hX.tt hw hp (d2S hp hb) hk
  ·split at h<;>try(cases h;done)
   rename_i hp;obtain ⟨hb,hr⟩:=a3u h;cases hr;exact OkL.store hX.tt hw hp (c5D hp hb) hk
  ·exact le _ h rfl
  ·exact le _ h rfl
  ·exact le _ h rfl
  ·exact le _ h rfl
  ·rename_i t x ix ho
   unfold a4V at h;split at h
   ·rename_i hr;cases h;exact pe hr
   ·split at h<;>try(cases h;done)
    rename_i hi;cases h;obtain ⟨i,e,esz,eby,ez,kk,j,nn,es,d',a1,a2,a3,a4,a5,a6,rfl⟩:=b2T hi;exact OkL.idx hX.tt hw ho a1 a2 a3 a4 a5 a6 hk
  ·exact qe h
  ·exact qe h
  ·unfold a4V at h
   split at h
   ·rename_i hr;cases h;exact pe hr
   ·exact qe h
  ·exact pe h
 ·rename_i hw
  cases h;exact OkL.skip hw hk
theorem a7X (hX:a9R C X)(hcl:a6N C cl){K:St->Prop}:∀ {os:List Oper} {s s':St},b4n X cl ops os s=some s'->K s'->OkL C F ops os s K
 | [],s,s',h,hk=>by
  simp only [b4n,d9z] at h;subst h;exact OkL.nil hk
 | o::os,s,s',h,hk=>by
  simp only [b4n] at h;split at h<;>try(cases h;done)
  rename_i hs;rw [b0x,a8O] at h;exact b8Y hX hcl hs (a7X hX hcl h hk)
theorem a0s.l' {H:Hp}{g:Nat}{env:Env}{o:Oper}{tt:Nat->Option a0n}(k:Nat)(htt:Tab C.P tt){d:D}{ne:Option Ent}{p:Prop}(hw:a0S ops env o=some true)(he:evL tt H g k (a1m env) o.op=some (d,ne,p))(hp:p):a0s C F ops H g env o d ne:=by
 refine ⟨fun e h=>by subst h;exact b8R he,fun He ρ a w m hsub fr hne hr=>.inr ⟨a1r hr hw,.inl ?_⟩⟩;obtain ⟨g',h1,h2⟩:=a2y hr;obtain ⟨v,ρ',w',r1,r2⟩:=c3Y (g:=g') hsub htt m fr hne h2 (by rw [<- b8Q h1];exact he) hp;exact ⟨v,ρ',w',r1,r2⟩
theorem b8U {tt:Nat->Option a0n}{xt:Nat->Option XI}{g g':Operand->D}{op:Op}(h:∀ x∈op.operands,g x=g' x):evQ tt xt g op=evQ tt xt g' op:=by
 cases op<;>simp only [Op.operands] at h<;>try rfl
 case binOp op t x y yt=>simp only [evQ];rw [h x (by simp),h y (by simp)]
 case makeInterface t x=>simp only [evQ];rw [h x (by simp)]
 case lookup t x ix ok=>simp only [evQ];rw [h x (by simp),h ix (by simp)]
theorem a0s.q {H:Hp}{g:Nat}{env:Env}{o:Oper}{tt:Nat->Option a0n}{xt:Nat->Option XI}(htt:Tab C.P tt)(hxt:c3M C.P xt){d:D}{p:Prop}(hw:a0S ops env o=some true)(he:evQ tt xt (a1m env) o.op=some (d,p))(hp:p) :
  a0s C F ops H g env o d none:=by
 refine ⟨by simp,fun He ρ a w m _ _ _ hr=>.inr ⟨a1r hr hw,.inl ?_⟩⟩;obtain ⟨g',h1,h2⟩:=a2y hr;obtain ⟨v,r1,r2⟩:=c3Z (g:=g') htt hxt h2 (by rw [<- b8U h1];exact he) hp;exact ⟨v,ρ,w,r1,m,.refl _ _ _,fun _ _ _=>rfl,r2⟩
def c8D (b:Bool)(r:D × Option Ent):Option (D × Option Ent):=match b with
 | true=>some r
 | false=>none
theorem a6r {b:Bool}{r r':D × Option Ent}(h:c8D b r=some r'):b=true/\r=r':=by
 cases b
 ·cases h
 ·cases h;exact ⟨rfl,rfl⟩
def stP (X:EV)(g:Operand->D)(op:Op):Option (D × Option Ent):=match evP X.tt g op with
 | some (d,_)=>c8D (okP X.tt g op) (d,none)
 | none=>none
def stQ (X:EV)(g:Operand->D)(op:Op):Option (D × Option Ent):=match evQ X.tt X.xt g op with
 | some (d,_)=>c8D (okQ X.xt g op) (d,none)
 | none=>none
def d6s (X:EV)(cp:a7K)(g:Operand->D)(H:Hp)(n:Nat)(op:Op):Option (D × Option Ent):=match op with
 | .call ⟨.value fop,args,_⟩=>match g fop with
  | .clo (.func f) first captured=>match X.nat f (first++args.toList.map g++captured) with
   | some d=>some (d,none)
   | none=>match cp f (first++args.toList.map g++captured) with
    | some d=>some (d,none)
    | none=>none
  | _=>none
 | .call ⟨.builtin .append,_,_⟩=>match evA X.tt [] n n g op with
  | some (d,[e],_)=>c8D (okA X.tt [] g op) (d,some e)
  | _=>none
 | .load _ _ | .alloc _ | .box _ _ | .buildSlice _ _ _=>match evL X.tt H n n g op with
  | some (d,ne,_)=>c8D (okL X.tt H g op) (d,ne)
  | none=>none
 | .indexAddr t x ix=>a4V (stP X g op) (match d3K X.tt g t x ix with
  | some d=>some (d,none)
  | none=>none)
 | .makeInterface _ _ | .lookup _ _ _ _=>stQ X g op
 | .binOp _ _ _ _ _=>a4V (stP X g op) (stQ X g op)
 | _=>stP X g op
def b3C (X:EV)(cp:a7K)(ops:Array Oper)(H:Hp)(n:Nat)(env:Env)(o:Oper):Option (D × Option Ent):=match a0S ops env o with
 | some true=>d6s X cp (c8C env) H n o.op
 | some false=>some (.prim (.tuple #[]),none)
 | none=>none
theorem a9B (hX:a9R C X)(hcp:a5M C cp){H:Hp}{n:Nat}{env:Env}{o:Oper}{d:D}{ne:Option Ent}(h:b3C X cp ops H n env o=some (d,ne)):a0s C F ops H n env o d ne:=by
 unfold b3C at h;rw [a8P] at h;split at h<;>try(cases h;done)
 ·rename_i hw
  have pe:stP X (a1m env) o.op=some (d,ne)->a0s C F ops H n env o d ne:=fun h=>by
   unfold stP at h;split at h<;>try(cases h;done)
   rename_i hp;obtain ⟨hb,hr⟩:=a6r h;cases hr;exact a0s.p hX.tt hw hp (c0m hp hb)
  have qe:stQ X (a1m env) o.op=some (d,ne)->a0s C F ops H n env o d ne:=fun h=>by
   unfold stQ at h;split at h<;>try(cases h;done)
   rename_i hp;obtain ⟨hb,hr⟩:=a6r h;cases hr;exact a0s.q hX.tt hX.xt hw hp (c5C hp hb)
  have le:∀ r,(match evL X.tt H n n (a1m env) o.op with
    | some (d,ne,_)=>c8D (okL X.tt H (a1m env) o.op) (d,ne)
    | none=>none)=some r->r=(d,ne)->a0s C F ops H n env o d ne:=fun r h hr=>by
   split at h<;>try(cases h;done)
   rename_i hp;obtain ⟨hb,hr'⟩:=a6r h;rw [<- hr'] at hr;cases hr;exact a0s.l' n hX.tt hw hp (c0l hp hb)
  unfold d6s at h;split at h
  ·rename_i fop args tys ho
   split at h<;>try(cases h;done)
   rename_i f first captured hf
   split at h
   ·rename_i hn
    cases h;exact a0s.nat hw ho hf rfl (hX.nat _ _ _ hn)
   split at h<;>try(cases h;done)
   rename_i hc;cases h;obtain ⟨c1,c2⟩:=hcp _ _ _ hc;exact a0s.call hw ho hf rfl c1 c2
  ·split at h<;>try(cases h;done)
   rename_i hp;obtain ⟨hb,hr⟩:=a6r h;cases hr;exact d9d n hX.tt hw hp (c0h hp hb)
  ·exact le _ h rfl
  ·exact le _ h rfl
  ·exact le _ h rfl
  ·exact le _ h rfl
  ·rename_i t x ix ho
   unfold a4V at h;split at h
   ·rename_i hr;cases h;exact pe hr
   ·split at h<;>try(cases h;done)
    rename_i hi;cases h;obtain ⟨i,e,esz,eby,ez,kk,j,nn,es,d',a1,a2,a3,a4,a5,a6,rfl⟩:=b2T hi;exact a0s.idx hX.tt hw ho a1 a2 a3 a4 a5 a6
  ·exact qe h
  ·exact qe h
  ·unfold a4V at h
   split at h
   ·rename_i hr;cases h;exact pe hr
   ·exact qe h
  ·exact pe h
 ·rename_i hw
  cases h;exact a0s.skip hw
def b6M (X:EV)(cp:a7K)(ops:Array Oper)(H:Hp)(n:Nat):List Nat->Env->Hp->Option (Env × Hp)
 | [],env,N=>some (env,N)
 | i::l,env,N=>match ops[i]? with
  | some o=>match b3C X cp ops H (n+i) env o with
   | some (d,ne)=>fzD d fun d=>b6M X cp ops H n l (a2f env o.dst d) (a4G ne N)
   | none=>none
  | none=>none
theorem b5y (hX:a9R C X)(hcp:a5M C cp){H:Hp}{n:Nat}:∀ {l:List Nat} {env env':Env} {N N':Hp},b6M X cp ops H n l env N=some (env',N')->DTr C F ops H n l env N env' N'
 | [],env,env',N,N',h=>by
  simp only [b6M,d9z,d9Q] at h;obtain ⟨rfl,rfl⟩:=h;exact .nil _ _
 | i::l,env,env',N,N',h=>by
  simp only [b6M] at h;split at h<;>try(cases h;done)
  rename_i o ho;split at h<;>try(cases h;done)
  rename_i d ne hs;rw [b0x] at h;exact .cons ho (a9B hX hcp hs) (b5y hX hcp h)
def b3l (ops:Array Oper)(done:List Nat):List Nat->Option (Nat × List Nat)
 | []=>none
 | i::r=>match a4z (a2S ops i) done with
  | true=>some (i,r)
  | false=>match b3l ops done r with
   | some (j,r')=>some (j,i::r')
   | none=>none
def d5U (ops:Array Oper):Nat->List Nat->List Nat->List Nat
 | 0,done,rest=>done.reverse++rest
 | f+1,done,rest=>match b3l ops done rest with
  | some (i,rest')=>d5U ops f (i::done) rest'
  | none=>done.reverse++rest
def c1n (clo:List (Nat × List Nat)):List Nat->List Nat->List Nat->List Nat->List Nat × List Nat
 | _,[],pre,cur=>(pre.reverse,cur.reverse)
 | done,i::l,pre,cur=>match a4z done (a2j clo i) with
  | true=>c1n clo (i::done) l pre (i::cur)
  | false=>c1n clo (i::done) l (i::(cur++pre)) []
def d5x (ops:Array Oper):List Nat × List Nat :=
 c1n (b5m ops (d5U ops ops.size [] (List.range ops.size)) []) [] (d5U ops ops.size [] (List.range ops.size)) [] []
def d7j:Op->Bool
 | .store _ _ _=>true
 | .call ⟨.builtin .append,_,_⟩=>true
 | _=>false
def c9t (ops:Array Oper):List Nat->Option Nat
 | []=>none
 | i::l=>match ops[i]? with
  | some o=>match d7j o.op with
   | true=>some i
   | false=>c9t ops l
  | none=>none
def d6x (i:Nat):List Nat->List Nat
 | []=>[]
 | j::l=>match Nat.beq i j with
  | true=>[]
  | false=>j::d6x i l
def d5W (g:Operand->D):Op->Option Nat
 | .store _ x _=>match g x with
  | .optr k _ _ _ _=>some k
  | _=>none
 | .call ⟨.builtin .append,args,_⟩=>match args.toList with
  | [s,_]=>match g s with
   | .osl k _ _ _ _=>some k
   | _=>none
  | _=>none
 | _=>none
def d4f (X:EV)(e:Ent)(n:Nat)(g:Operand->D)(op:Op):Option (D × Ent):=match op with
 | .store _ _ _=>match evS X.tt [e] g op with
  | some (_,e',_)=>match okS X.tt [e] g op with
   | true=>some (.prim (.tuple #[]),e')
   | false=>none
  | none=>none
 | _=>match evA X.tt [e] n n g op with
  | some (d,[e'],_)=>match okA X.tt [e] g op with
   | true=>some (d,e')
   | false=>none
  | _=>none
def b9H (ia:Option Nat)(i:Nat):Bool:=match ia with
 | some j=>Nat.beq i j
 | none=>false
def a7N (ia:Option Nat)(accE:Option Ent)(R:Hp)(b:Bool):Hp:=match ia with
 | none=>match accE with
  | some e=>match b with
   | true=>e::R
   | false=>R
  | none=>R
 | some _=>R
def a5I (X:EV)(cp:a7K)(ops:Array Oper)(iw:Nat)(ia:Option Nat)(R:Hp)(clo:List Nat)(n:Nat):List Nat->Env->Hp->Option Ent->Option Ent->Option (Env × Hp × Ent × Ent)
 | [],env,N,accE,acc=>match accE with
  | some e=>match acc with
   | some e'=>some (env,N,e,e')
   | none=>none
  | none=>none
 | i::l,env,N,accE,acc=>match ops[i]? with
  | some o=>match Nat.beq i iw with
   | true=>match acc with
    | some _=>none
    | none=>match accE with
     | some e=>match a0S ops env o with
      | some true=>match d4f X e (n+i) (c8C env) o.op with
       | some (d,e')=>a5I X cp ops iw ia R clo n l (a2f env o.dst d) N accE (some e')
       | none=>none
      | _=>none
     | none=>none
   | false=>match b9H ia i with
    | true=>match accE with
     | some _=>none
     | none=>match b3C X cp ops R (n+i) env o with
      | some (d,some e)=>fzD d fun d=>a5I X cp ops iw ia R clo n l (a2f env o.dst d) N (some e) acc
      | _=>none
    | false=>match b3C X cp ops (a7N ia accE R (a3n i clo)) (n+i) env o with
     | some (d,ne)=>fzD d fun d=>a5I X cp ops iw ia R clo n l (a2f env o.dst d) (a4G ne N) accE acc
     | none=>none
  | none=>none
theorem a2H {iw:Nat}{ia:Option Nat}{R:Hp}{clo:List Nat}{n:Nat}:∀ {l:List Nat} {env env':Env} {N N':Hp} {accE acc:Option Ent} {e e':Ent},a5I X cp ops iw ia R clo n l env N accE acc=some (env',N',e,e') ->
  (∀ a,accE=some a->e=a)/\(∀ a,acc=some a->e'=a)
 | [],_,_,_,_,_,_,_,_,h=>by
  simp only [a5I] at h;split at h<;>try(cases h;done)
  split at h<;>try(cases h;done)
  simp only [d9z,d9Q] at h;exact ⟨fun a ha=>by cases ha;exact h.2.2.1.symm,fun a ha=>by cases ha;exact h.2.2.2.symm⟩
 | i::l,_,_,_,_,_,_,_,_,h=>by
  simp only [a5I] at h;split at h<;>try(cases h;done)
  split at h
  ·split at h<;>try(cases h;done)
   split at h<;>try(cases h;done)
   split at h<;>try(cases h;done)
   split at h<;>try(cases h;done)
   exact ⟨(a2H h).1,by simp⟩
  ·split at h
   ·split at h<;>try(cases h;done)
    split at h<;>try(cases h;done)
    rw [b0x] at h;exact ⟨by simp,(a2H h).2⟩
   ·split at h<;>try(cases h;done)
    rw [b0x] at h;exact a2H h
theorem c6K (hX:a9R C X){W:WR}{n:Nat}{env:Env}{o:Oper}{d:D}(hw:a0S ops env o=some true)(h:d4f X W.e n (a1m env) o.op=some (d,W.e')):a3p C F ops W n env o d:=by
 unfold d4f at h;split at h
 ·split at h<;>try(cases h;done)
  rename_i he;split at h<;>try(cases h;done)
  rename_i hk;simp only [d9z,d9Q] at h;obtain ⟨rfl,h2⟩:=h;rw [h2] at he;exact a3p.store hX.tt hw he (c5D he hk)
 ·split at h<;>try(cases h;done)
  rename_i he;split at h<;>try(cases h;done)
  rename_i hk;simp only [d9z,d9Q] at h;obtain ⟨rfl,h2⟩:=h;rw [h2] at he;exact a3p.app n hX.tt hw he (c0h he hk)
theorem a8c {ia:Option Nat}{i:Nat}:b9H ia i=true↔ia=some i:=by
 cases ia with
 | none=>simp [b9H]
 | some j =>
  simp only [b9H,d9z];exact ⟨fun h=>(d9v h).symm,fun h=>by rw [h];exact e2p _⟩
theorem a6o (hX:a9R C X)(hcp:a5M C cp){W:WR}(hwa:W.ia≠some W.iw){clo:List Nat}(hclo:∀ j∈clo,a1Z ops W.iw j){n:Nat}:∀ {l:List Nat} {env env':Env} {N N':Hp} {accE acc:Option Ent},
  a5I X cp ops W.iw W.ia W.R clo n l env N accE acc=some (env',N',W.e,W.e')->b7S C F ops W n l env N env' N'
 | [],env,env',N,N',accE,acc,h=>by
  simp only [a5I] at h;split at h<;>try(cases h;done)
  split at h<;>try(cases h;done)
  simp only [d9z,d9Q] at h;obtain ⟨rfl,rfl,_⟩:=h;exact .nil _ _
 | i::l,env,env',N,N',accE,acc,h=>by
  simp only [a5I,a8P] at h;split at h<;>try(cases h;done)
  rename_i o ho;split at h
  ·rename_i hb
   have hb:=d9v hb;split at h<;>try(cases h;done)
   split at h<;>try(cases h;done)
   rename_i e0;split at h<;>try(cases h;done)
   rename_i hw;split at h<;>try(cases h;done)
   rename_i d e1 he;obtain ⟨h1,h2⟩:=a2H h;rw [<- h1 _ rfl,<- h2 _ rfl] at he;exact .cons (ne:=none) ho (.inr (.inl ⟨hb,by rw [hb];exact hwa,rfl,c6K hX hw he⟩)) (a6o hX hcp hwa hclo h)
  ·rename_i hb
   have hne:i≠W.iw:=fun hi=>by rw [hi,e2p] at hb;cases hb
   split at h
   ·rename_i hi
    have hi:=a8c.1 hi;split at h<;>try(cases h;done)
    split at h<;>try(cases h;done)
    rename_i d e0 hs;rw [b0x] at h;have h1:=(a2H h).1 _ rfl;rw [<- h1] at hs;exact .cons (ne:=none) ho (.inr (.inr ⟨hne,hi,rfl,a9B (F:=F) hX hcp hs⟩)) (a6o hX hcp hwa hclo h)
   ·rename_i hi
    have hi:W.ia≠some i:=fun h=>by rw [a8c.2 h] at hi;cases hi
    split at h<;>try(cases h;done)
    rename_i d ne hs;rw [b0x] at h;have hacc:=(a2H h).1;refine .cons ho (.inl ⟨hne,hi,?_⟩) (a6o hX hcp hwa hclo h);have hst:=a9B (F:=F) hX hcp hs;unfold a7N at hst;cases hia:W.ia with
    | none =>
     rw [hia] at hst;cases accE with
     | none=>exact .inr hst
     | some a =>
      have:=hacc a rfl
      subst this;dsimp only at hst;cases hm:a3n i clo with
      | true=>rw [hm] at hst;exact .inl ⟨rfl,hclo i (a0T.1 hm),hst⟩
      | false=>rw [hm] at hst;exact .inr hst
    | some ia=>rw [hia] at hst;exact .inr hst
def c6e (s:St)(N1:Hp)(k:Nat):Option (Option Nat × Option Ent × Hp):=match Hp.get s.H k with
 | some e=>some (none,some e,Hp.del s.H k)
 | none=>match Hp.get N1 k with
  | some e=>some (some (e.g - s.n),none,s.H)
  | none=>none
def d6m (n:Nat)(pre clo:List Nat)(e:Ent)(iw:Nat):Option Nat->Bool
 | none=>true
 | some ia=>Nat.beq e.g (n+ia)&&a3n ia clo&&a3n ia pre && !(Nat.beq ia iw)
def b8O (X:EV)(cl:a8m)(cp:a7K)(ops:Array Oper)(pre suf:List Nat)(iw:Nat)(s:St):Option St:=match b6M X cp ops s.H s.n (d6x iw pre) s.env [] with
 | some (env1,N1)=>match d5W (c8C env1) (ops.getD iw default).op with
  | some k=>match c6e s N1 k with
   | some (ia,accE,R)=>match a3n iw pre with
    | true=>match a5I X cp ops iw ia R (a2j (b5m ops (pre++suf) []) iw) s.n pre s.env [] accE none with
     | some (env,N,e,e')=>match (Nat.beq e'.g e.g||Nat.beq e'.g (s.n+iw))&&d6m s.n pre (a2j (b5m ops (pre++suf) []) iw) e iw ia with
      | true=>fzN (s.n+ops.size) fun n=>b4n X cl ops (suf.map fun j=>ops.getD j default) ⟨env,N++e'::R,n⟩
      | false=>none
     | none=>none
    | false=>none
   | none=>none
  | none=>none
 | none=>none
def b8N (X:EV)(cl:a8m)(cp:a7K)(ops:Array Oper)(s:St):Option St:=match d5x ops with
 | (pre,suf)=>match b2m ops pre suf with
  | true=>match (match c9t ops pre with
    | some iw=>b8O X cl cp ops pre suf iw s
    | none=>none) with
   | some s'=>some s'
   | none=>match b6M X cp ops s.H s.n pre s.env [] with
    | some (env,N)=>fzN (s.n+ops.size) fun n=>b4n X cl ops (suf.map fun j=>ops.getD j default) ⟨env,N++s.H,n⟩
    | none=>none
  | false=>none
noncomputable def dd (e:Env):List Nat->Env:=List.rec (motive:=fun _=>List Nat->Env) (fun _=>[]) (fun p _ ih seen=>Bool.rec (motive:=fun _=>Env) (p::ih (p.1::seen)) (ih seen) (d3L p.1 seen)) e
theorem c6C (k:Nat)(d:D)(r:Env)(seen:List Nat):dd ((k,d)::r) seen=match a3n k seen with
  | true=>dd r seen
  | false=>(k,d)::dd r (k::seen):=by
 show Bool.rec (motive:=fun _=>Env) _ _ (d3L k seen)=_;rw [b9U];cases a3n k seen<;>rfl
theorem b8w:∀ (e:Env) (seen:List Nat) (t:Nat),t∉seen->(dd e seen).get t=e.get t
 | [],_,_,_=>rfl
 | (k,d)::r,seen,t,h=>by
  rw [c6C];cases hb:a3n k seen with
  | true =>
   dsimp only;have hk:k≠t:=fun hk=>h (hk ▸ a0T.1 hb)
   rw [b8w r seen t h,d8k,d9m hk]
  | false =>
   dsimp only;rw [d8k,d8k]
   by_cases hk:k=t
   ·rw [d9l hk,d9l hk]
   ·rw [d9m hk,d9m hk,b8w r (k::seen) t (by simp;exact ⟨fun h=>hk h.symm,h⟩)]
def c8J (f:D->List Nat->List Nat):List D->List Nat->List Nat
 | [],acc=>acc
 | d::l,acc=>c8J f l (f d acc)
def c3o:Nat->D->List Nat->List Nat
 | 0,_,acc=>acc
 | n+1,d,acc=>match d with
  | .osl k _ _ _ _=>k::acc
  | .optr k _ _ _ _=>k::acc
  | .agg l=>c8J (c3o n) l acc
  | .tup l=>c8J (c3o n) l acc
  | .clo _ a b=>c8J (c3o n) a (c8J (c3o n) b acc)
  | .gd _ d=>c3o n d acc
  | .ifc _ d=>c3o n d acc
  | _=>acc
def c5M:Env->List Nat->List Nat
 | [],acc=>acc
 | (_,d)::r,acc=>c5M r (c3o 5 d acc)
def c3p:Hp->List Nat->List Nat
 | [],acc=>acc
 | e::r,acc=>c3p r (c8J (c3o 5) e.es acc)
def b2W (p:Ent->Bool):Hp->Hp
 | []=>[]
 | e::r=>match p e with
  | true=>e::b2W p r
  | false=>b2W p r
theorem a6v (p:Ent->Bool):∀ H:Hp,(b2W p H).Sublist H
 | []=>.slnil
 | e::r=>by
  simp only [b2W];split
  ·exact (a6v p r).cons_cons e
  ·exact (a6v p r).cons e
def c8B {α:Type}:List Nat->(List Nat->α)->α
 | [],k=>k []
 | n::l,k=>fzN n fun n=>c8B l fun l=>k (n::l)
theorem b1w {α:Type}:∀ (l:List Nat) (k:List Nat->α),c8B l k=k l
 | [],_=>rfl
 | n::l,k=>by simp only [c8B,a8O,b1w l]
def d2p {α:Type}:Hp->(Hp->α)->α
 | [],k=>k []
 | e::l,k=>d2p l fun l=>k (e::l)
theorem b4q {α:Type}:∀ (l:Hp) (k:Hp->α),d2p l k=k l
 | [],_=>rfl
 | e::l,k=>by simp only [d2p,b4q l]
def gcK {α:Type}(n:Nat)(env:Env)(H:Hp)(k:Hp->α):α:=c8B (c3p H (c5M env [])) fun ks=>d2p (b2W (fun e=>match Nat.blt e.g n with
  | true=>true
  | false=>a3n e.k ks) H) k
theorem d2t {α:Type}(n:Nat)(env:Env)(H:Hp)(k:Hp->α):∃ H':Hp,H'.Sublist H/\gcK n env H k=k H':=⟨_,a6v _ _,by unfold gcK;rw [b1w,b4q]⟩
def gcR {α:Type}(n:Nat)(d:D)(H:Hp)(k:Hp->α):α :=
 c8B (c3p (b2W (fun e=>Nat.blt e.g n) H) (c3o 5 d [])) fun ks=>c8B (c3p (b2W (fun e=>a3n e.k ks) H) ks) fun ks=>d2p (b2W (fun e=>match Nat.blt e.g n with
  | true=>true
  | false=>a3n e.k ks) H) k
theorem d2u {α:Type}(n:Nat)(d:D)(H:Hp)(k:Hp->α):∃ H':Hp,H'.Sublist H/\gcR n d H k=k H':=⟨_,a6v _ _,by unfold gcR;rw [b1w,b1w,b4q]⟩
def b9R (f:St->Option (Exit × St))(n0:Nat):Nat->St->Option (Exit × St)
 | 0,_=>none
 | k+1,s=>gcK n0 s.env s.H fun H=>match f ⟨dd s.env [],H,s.n⟩ with
  | some (.normal,s')=>b9R f n0 k s'
  | r=>r
def a1L (X:EV)(cl:a8m)(cp:a7K)(lf:Nat):Code->St->Option (Exit × St)
 | .skip,s=>some (.normal,s)
 | .region _ ops draw,s=>match draw with
  | true=>match b8N X cl cp ops s with
   | some s'=>some (.normal,s')
   | none=>none
  | false=>match b4n X cl ops ops.toList s with
   | some s'=>some (.normal,s')
   | none=>none
 | .seq a b,s=>match a1L X cl cp lf a s with
  | some (.normal,s')=>a1L X cl cp lf b s'
  | r=>r
 | .cond c a b,s=>match c8C s.env c with
  | .prim (.bool true)=>a1L X cl cp lf a s
  | .prim (.bool false)=>a1L X cl cp lf b s
  | _=>none
 | .block i b,s=>match a1L X cl cp lf b s with
  | some (.exit j,s')=>match Nat.beq j i with
   | true=>some (.normal,s')
   | false=>some (.exit j,s')
  | r=>r
 | .loop b,s=>b9R (a1L X cl cp lf b) (lf / 1048576) (lf%1048576) s
 | .exit i,s=>some (.exit i,s)
 | .ret,s=>some (.ret,s)
 | _,_=>none
def isS (e:Exit)(s:St):Exit->St->Prop:=fun e1 s1=>e1=e/\s1=s
theorem d8y {c:Code}{s s2:St}{Q:Exit->St->Prop}(he:∀ t,s2.env.get t=s.env.get t)(hH:s2.H=s.H)(hn:s2.n=s.n)(h:Ok C F c s2 Q):Ok C F c s Q :=
 fun hd ρ a w hs=>h hd ρ a w ⟨by rw [hH];exact hs.mem,by rw [hn];exact hs.fresh,by rw [hH,hn];exact hs.gen,fun t=>by rw [he,hH];exact hs.env t,hs.nt,hs.dfr⟩
theorem Ok.subH {c:Code}{env:Env}{H H':Hp}{n:Nat}{Q:Exit->St->Prop}(hs:H'.Sublist H)(h:Ok C F c ⟨env,H',n⟩ Q):Ok C F c ⟨env,H,n⟩ Q :=
 fun hd ρ a w hS=>by
  obtain ⟨m,hO⟩:=hS.mem.sub hs;exact h hd ρ a w ⟨m,hS.fresh,fun e he=>hS.gen e (hs.subset he),fun t=>(hS.env t).anti hO,hS.nt,hS.dfr⟩
theorem a0z.subH {f:Nat}{ds:List D}{H H1 H2:Hp}{n n':Nat}{d:D}(hs:H2.Sublist H1)(h:a0z C f ds H n (isR d H1 n')):a0z C f ds H n (isR d H2 n'):=by
 refine ⟨h.1,fun F ρ w vs m hfr hg hvs hr=>(h.2 F ρ w vs m hfr hg hvs hr).mono ?_⟩;rintro e w' ⟨v,d',H',n2,ρ',rfl,⟨rfl,rfl,rfl⟩,m',x,fr,gn,rep⟩;obtain ⟨m2,hO⟩:=m'.sub hs;exact ⟨v,_,_,_,ρ',rfl,⟨rfl,rfl,rfl⟩,m2,⟨x.size,x.link,fun b hb hb'=>⟨fun h=>(x.pure b hb hb').1 (hO b h),(x.pure b hb hb').2⟩,x.shape⟩,fr,fun e he=>gn e (hs.subset he),rep.anti hO⟩
theorem b8P (hX:a9R C X)(hcl:a6N C cl)(hcp:a5M C cp){i:Nat}{s s':St}(h:b8N X cl cp ops s=some s'):Ok C F (.region i ops true) s (isS .normal s'):=by
 unfold b8N at h;split at h;rename_i pre suf ho;split at h<;>try(cases h;done)
 rename_i hc;split at h
 ·rename_i s1 hh
  cases h
  revert hh
  intro h;split at h<;>try(cases h;done)
  rename_i iw _;unfold b8O at h;simp only [a8P] at h;split at h<;>try(cases h;done)
  split at h<;>try(cases h;done)
  split at h<;>try(cases h;done)
  rename_i k _ ia accE R hwb;split at h<;>try(cases h;done)
  rename_i hm;split at h<;>try(cases h;done)
  rename_i env N e e' hp;split at h<;>try(cases h;done)
  rename_i hg;rw [a8O] at h;simp only [d9B,e2d] at hg;obtain ⟨hg1,hg2⟩:=hg;have hreach:∀ j∈a2j (b5m ops (pre++suf) []) iw,a1Z ops iw j:=fun j hj=>a2J (a3m _ _ (by simp)) _ _ hj
  have hia:∀ j,ia=some j->e.g=s.n+j/\a1Z ops iw j/\j∈pre/\j≠iw:=fun j hj=>by
   subst hj;simp only [d6m,d9B,d9w] at hg2;exact ⟨d9v hg2.1.1.1,hreach j (a0T.1 hg2.1.1.2),a0T.1 hg2.1.2,fun h=>by rw [h,e2p] at hg2;cases hg2.2⟩
  have hacc:=(a2H hp).1;have hst:s.H.Perm (WR.start ⟨iw,ia,e,e',R⟩):=by
   unfold c6e at hwb;split at hwb
   ·rename_i e0 he
    cases hwb;obtain ⟨H1,H2,q1,_,q3⟩:=d8q e0 he;rw [q3,hacc e0 rfl];unfold WR.start;rw [q1];exact e1S
   ·split at hwb<;>try(cases hwb;done)
    cases hwb;exact List.Perm.refl _
  exact d8w (W:=⟨iw,ia,e,e',R⟩) hX.mixed hc hst (fun j hj=>⟨(hia j hj).1,(hia j hj).2.1,(hia j hj).2.2.1⟩) (a0T.1 hm) (hg1.imp d9v d9v)
   (a6o (W:=⟨iw,ia,e,e',R⟩) hX hcp (fun h=>(hia iw h).2.2.2 rfl) hreach hp) (a7X hX hcl h ⟨rfl,rfl⟩)
 ·split at h<;>try(cases h;done)
  rename_i env N hp;rw [a8O] at h;exact d8u hX.mixed hc (b5y hX hcp hp) (a7X hX hcl h ⟨rfl,rfl⟩)
theorem a1V (hX:a9R C X)(hcl:a6N C cl)(hcp:a5M C cp){lf:Nat}:∀ {c:Code} {s s':St} {e:Exit},a1L X cl cp lf c s=some (e,s')->Ok C F c s (isS e s')
 | .skip,s,s',e,h=>by simp only [a1L,d9z,d9Q] at h;obtain ⟨rfl,rfl⟩:=h;exact Ok.skip ⟨rfl,rfl⟩
 | .region i ops draw,s,s',e,h=>by
  simp only [a1L] at h;split at h
  ·split at h<;>try(cases h;done)
   rename_i hd;cases h;exact b8P hX hcl hcp hd
  ·split at h<;>try(cases h;done)
   rename_i hd;cases h;exact Ok.region (a7X hX hcl hd ⟨rfl,rfl⟩)
 | .seq a b,s,s',e,h=>by
  simp only [a1L] at h;refine Ok.seq ?_;split at h
  ·rename_i s1 h1
   refine (a1V hX hcl hcp h1).mono ?_;rintro _ _ ⟨rfl,rfl⟩;exact a1V hX hcl hcp h
  ·rename_i hne
   refine (a1V hX hcl hcp h).mono ?_;rintro e1 s1 ⟨h1,h2⟩;rw [h1,h2];cases e with
   | normal=>exact d9n h (hne _)
   | _=>exact ⟨rfl,rfl⟩
 | .cond c a b,s,s',e,h=>by
  simp only [a1L,a8P] at h;have hr:∀ x,a1m s.env c=.prim (.bool x)->∀ ρ a w,Sat C F ρ s a w->a.eval c=.bool x:=fun x hx ρ a w hs=>by
   have:=a0Z hs.env c
   rw [hx] at this;generalize a.eval c=v at this;cases this;rfl
  split at h
  ·rename_i hx
   exact Ok.cond true (hr _ hx) (fun _=>a1V hX hcl hcp h) (fun h=>by cases h)
  ·rename_i hx
   exact Ok.cond false (hr _ hx) (fun h=>by cases h) (fun _=>a1V hX hcl hcp h)
  ·cases h
 | .block i b,s,s',e,h=>by
  simp only [a1L] at h;refine Ok.block ?_;split at h
  ·rename_i j s1 h1
   refine (a1V hX hcl hcp h1).mono ?_;rintro _ _ ⟨rfl,rfl⟩;dsimp only;split at h
   ·rename_i hb
    cases h;rw [d9l (d9v hb)];exact ⟨rfl,rfl⟩
   ·rename_i hb
    cases h;rw [d9m (fun hj=>by rw [hj,e2p] at hb;cases hb)];exact ⟨rfl,rfl⟩
  ·rename_i hne
   refine (a1V hX hcl hcp h).mono ?_;rintro e1 s1 ⟨h1,h2⟩;rw [h1,h2];cases e with
   | exit j=>exact d9n h (hne _ _)
   | _=>exact ⟨rfl,rfl⟩
 | .loop b,s,s',e,h=>by
  simp only [a1L] at h;refine Ok.loop (fun m s=>b9R (a1L X cl cp lf b) (lf / 1048576) m s=some (e,s')) h fun m s1 hI=>?_
  cases m with
  | zero=>cases hI
  | succ m =>
   simp only [b9R] at hI;obtain ⟨H2,hsub,hgc⟩:=d2t (α:=Option (Exit × St)) (lf / 1048576) s1.env s1.H (fun H=>match a1L X cl cp lf b ⟨dd s1.env [],H,s1.n⟩ with
    | some (.normal,s')=>b9R (a1L X cl cp lf b) (lf / 1048576) m s'
    | r=>r)
   rw [hgc] at hI;refine d8y (s2:=⟨dd s1.env [],s1.H,s1.n⟩) (fun t=>b8w _ _ _ (by simp)) rfl rfl ?_;refine Ok.subH hsub ?_;split at hI
   ·rename_i s2 h2
    refine (a1V hX hcl hcp h2).mono ?_;rintro _ _ ⟨rfl,rfl⟩;exact ⟨m,e1L m,hI⟩
   ·rename_i hne
    refine (a1V hX hcl hcp hI).mono ?_;rintro e1 s1 ⟨h1,h2⟩;rw [h1,h2];cases e with
    | normal=>exact d9n hI (hne _)
    | _=>exact ⟨rfl,rfl⟩
 | .exit i,s,s',e,h=>by simp only [a1L,d9z,d9Q] at h;obtain ⟨rfl,rfl⟩:=h;exact Ok.exit ⟨rfl,rfl⟩
 | .ret,s,s',e,h=>by simp only [a1L,d9z,d9Q] at h;obtain ⟨rfl,rfl⟩:=h;exact Ok.ret ⟨rfl,rfl⟩
 | .rangeFunc ..,_,_,_,h=>by simp [a1L] at h
 | .scope _,_,_,_,h=>by simp [a1L] at h
 | .label _,_,_,_,h=>by simp [a1L] at h
 | .goto _,_,_,_,h=>by simp [a1L] at h
 | .refuse _,_,_,_,h=>by simp [a1L] at h
def okR (tt:Nat->Option a0n)(s:St):List ResultVar->Bool
 | []=>true
 | .tmp _::r=>okR tt s r
 | .cell a t::r=>okL tt s.H (fun _=>s.env.get a) (.load t (.tmp 0))&&okR tt s r
theorem b5W {tt:Nat->Option a0n}{s:St}:∀ {rs:List ResultVar} {l:List D} {p:Prop},a6F tt s rs=some (l,p)->okR tt s rs=true->p
 | [],_,_,h,_=>by simp only [a6F,d9z,d9Q] at h;obtain ⟨_,rfl⟩:=h;trivial
 | r::rs,l,p,h,hk=>by
  simp only [a6F] at h;split at h<;>try(cases h;done)
  rename_i d q h1;split at h<;>try(cases h;done)
  rename_i l' q' h2;cases h;cases r with
  | tmp t =>
   simp only [b0Q,d9z,d9Q] at h1;obtain ⟨_,rfl⟩:=h1;exact ⟨trivial,b5W h2 hk⟩
  | cell a t =>
   simp only [okR,d9B] at hk;simp only [b0Q] at h1;split at h1<;>try(cases h1;done)
   rename_i he;cases h1;exact ⟨c0l he hk.1,b5W h2 hk.2⟩
def c2x (tt:Nat->Option a0n)(s:St)(rs:List ResultVar):Option (D × Hp × Nat):=match c0T tt s rs with
 | some (d,_)=>c2F (okR tt s rs) (d,s.H,s.n)
 | none=>none
theorem b5z {tt:Nat->Option a0n}{s:St}{rs:List ResultVar}{d:D}{H:Hp}{n:Nat}(h:c2x tt s rs=some (d,H,n)):∃ p,c0T tt s rs=some (d,p)/\p/\H=s.H/\n=s.n:=by
 unfold c2x at h;split at h<;>try(cases h;done)
 rename_i d' p hr;obtain ⟨hb,he⟩:=a3u h;cases he;refine ⟨p,hr,?_,rfl,rfl⟩;unfold c0T at hr;split at hr<;>try(cases hr;done)
 ·rename_i ha;cases hr;exact b5W ha hb
 ·rename_i ha;cases hr;exact b5W ha hb
def c3s (X:EV)(cl:a8m)(cp:a7K)(lf f:Nat)(ds:List D)(H:Hp)(n:Nat):Option (D × Hp × Nat):=match X.ft f with
 | some i=>match Nat.ble ds.length i.nt with
  | true=>match a1L X cl cp (lf+n*1048576) i.code ⟨a1n 0 ds,H,n⟩ with
   | some (.normal,s)=>c2x X.tt s i.res
   | some (.ret,s)=>c2x X.tt s i.res
   | _=>none
  | false=>none
 | none=>none
def b6c (X:EV)(cl:a8m)(cp:a7K)(lf f:Nat)(ds:List D):Option D:=match X.orc f ds with
 | some d=>some d
 | none=>match X.np f with
  | true=>none
  | false=>match b7O (a7k 20) ds with
   | true=>match c3s X cl cp lf f ds [] 0 with
    | some (d,H,_)=>fzP 20 H d
    | none=>none
   | false=>none
def evF (X:EV)(lf:Nat):Nat->a7K × a8m
 | 0=>(fun _ _=>none,fun _ _ _ _=>none)
 | fu+1=>(b6c X (evF X lf fu).2 (evF X lf fu).1 lf,fun f ds H n=>match b6c X (evF X lf fu).2 (evF X lf fu).1 lf f ds with
  | some d=>some (d,H,n+1)
  | none=>match c3s X (evF X lf fu).2 (evF X lf fu).1 lf f ds H n with
   | some (d,H',n')=>gcR n d H' fun H2=>some (d,H2,n')
   | none=>none)
theorem b6k (hX:a9R C X){lf f:Nat}{ds:List D}{H H':Hp}{n n':Nat}{d:D}(h:c3s X cl cp lf f ds H n=some (d,H',n')) :
  ∃ fn i e s p,X.ft f=some i/\C.P.funcs[f]? = some fn/\fn.body=some i.code/\(fn.name == "runtime.NumGoroutine")=false/\a0O fn.ntmps i.code=true/\Nat.ble ds.length fn.ntmps=true /\
   (e=.normal\/e=.ret)/\a1L X cl cp (lf+n*1048576) i.code ⟨a1n 0 ds,H,n⟩=some (e,s)/\c0T X.tt s fn.results.toList=some (d,p)/\p/\H'=s.H/\n'=s.n:=by
 unfold c3s at h;split at h<;>try(cases h;done)
 rename_i i hi;obtain ⟨fn,a1,a2,a3,a4,a5,a6⟩:=hX.ft f i hi;split at h<;>try(cases h;done)
 rename_i hb;split at h<;>try(cases h;done)
 ·rename_i s hc
  obtain ⟨p,b1,b2,b3,b4⟩:=b5z h;exact ⟨fn,i,.normal,s,p,hi,a1,a2,a3,a4,by rw [a5];exact hb,.inl rfl,hc,by rw [a6];exact b1,b2,b3,b4⟩
 ·rename_i s hc
  obtain ⟨p,b1,b2,b3,b4⟩:=b5z h;exact ⟨fn,i,.ret,s,p,hi,a1,a2,a3,a4,by rw [a5];exact hb,.inr rfl,hc,by rw [a6];exact b1,b2,b3,b4⟩
theorem b3n (hX:a9R C X)(hcl:a6N C cl)(hcp:a5M C cp){lf f:Nat}{ds:List D}{d:D}(h:b6c X cl cp lf f ds=some d):a0b C f ds d/\ArePure ds:=by
 unfold b6c at h;split at h
 ·rename_i ho;cases h;exact hX.orc _ _ _ ho
 ·split at h<;>try(cases h;done)
  split at h<;>try(cases h;done)
  rename_i hp;split at h<;>try(cases h;done)
  rename_i d0 H0 n0 hr;obtain ⟨fn,i,e,s,p,_,a1,a2,a3,a4,a5,a6,a7,a8,a9,rfl,rfl⟩:=b6k hX hr;obtain ⟨z1,z2⟩:=a7v h;refine ⟨a0c.intro hX.tt a1 a2 a3 a4 a5 fun F=>(a1V hX hcl hcp a7).mono ?_,⟨fun x hx=>a1a (a3M hp x hx)⟩⟩;rintro _ _ ⟨rfl,rfl⟩;exact ⟨a6,d0,p,a8,a9,d,z1,z2,rfl⟩
theorem a0z.ofPure {f:Nat}{ds:List D}{d:D}{H:Hp}{n:Nat}(h:a0b C f ds d)(hp:ArePure ds):a0z C f ds H n (isR d H (n+1)):=by
 refine ⟨h.1,fun F ρ w vs m hfr hg hvs hr=>(h.2 (Own F.X ρ H) w vs m.g (d9V m.gn m.size) (fun b hb=>m.own_lt hb) hvs fun i x hx=>hp.out x (d9r hx) _ _ _ _ _ (hr i x hx)).mono ?_⟩;rintro e w' ⟨v,d',rfl,hb,rfl,hrep⟩;have x:Ext ρ (Own F.X ρ H) w ρ (Own F.X ρ H) w':=⟨hb.size,fun _ _ _ h=>h,fun b hb' hO=>⟨hO,hb.block b hb'⟩,fun b cs T fz hh=>⟨cs,_,by
  rw [hb.block b (Array.getElem?_eq_some_iff.1 hh).1];exact hh,rfl⟩⟩
 exact ⟨v,_,_,_,ρ,rfl,⟨rfl,rfl,rfl⟩,m.same x hb.os hb.tape hb.output hb.block,x,fun k g hg=>hfr k g (by omega),fun e he=>e0G (hg e he),hrep.nol⟩
theorem c3X (hX:a9R C X)(lf:Nat):∀ fu,a5M C (evF X lf fu).1/\a6N C (evF X lf fu).2
 | 0=>⟨fun _ _ _ h=>by simp [evF] at h,fun _ _ _ _ _ _ _ h=>by simp [evF] at h⟩
 | fu+1=>by
  obtain ⟨hcp,hcl⟩:=c3X hX lf fu;refine ⟨fun f ds d h=>b3n hX hcl hcp h,fun f ds H n d H' n' h=>?_⟩;simp only [evF] at h;split at h
  ·rename_i d0 hp
   cases h;obtain ⟨h1,h2⟩:=b3n hX hcl hcp hp;exact .ofPure h1 h2
  ·split at h<;>try(cases h;done)
   rename_i d1 H1 n1 hrun;obtain ⟨H2,hsub,hgc⟩:=d2u (α:=Option (D × Hp × Nat)) n d1 H1 (fun H2=>some (d1,H2,n1));rw [hgc] at h;cases h;refine a0z.subH hsub ?_;obtain ⟨fn,i,e,s,p,_,a1,a2,a3,a4,a5,a6,a7,a8,a9,rfl,rfl⟩:=b6k hX hrun;refine a0z.intro hX.tt a1 a2 a3 a4 a5 fun F _=>(a1V hX hcl hcp a7).mono ?_
   rintro _ _ ⟨rfl,rfl⟩;exact ⟨a6,d,p,a8,a9,rfl,rfl,rfl⟩
theorem d9b (hX:a9R C X)(lf fu:Nat){f:Nat}{ds:List D}{d:D}(h:(evF X lf fu).1 f ds=some d):a0b C f ds d:=((c3X hX lf fu).1 f ds d h).1
end
end
inductive Bt (α:Type) where
 | nil
 | node (k:Nat) (v:α) (l r:Bt α)
def Bt.get {α:Type}:Bt α->Nat->Option α
 | .nil,_=>none
 | .node k v l r,t=>match Nat.beq t k with
  | true=>some v
  | false=>match Nat.ble t k with
   | true=>l.get t
   | false=>r.get t
def Bt.toL {α:Type}:Bt α->List (Nat × α)
 | .nil=>[]
 | .node k v l r=>(k,v)::(l.toL++r.toL)
theorem Bt.get_mem {α:Type}:∀ {b:Bt α} {t:Nat} {v:α},b.get t=some v->(t,v)∈b.toL
 | .nil,_,_,h=>by cases h
 | .node k v l r,t,u,h=>by
  simp only [Bt.get] at h;split at h
  ·rename_i hb;cases h;rw [d9v hb];exact e0T ..
  ·split at h
   ·exact e0t _ (e1h _ (Bt.get_mem h))
   ·exact e0t _ (List.mem_append_right _ (Bt.get_mem h))
theorem d8i {P:Program}{b:Bt a0n}(h:b.toL.map (fun p=>a3i P p.1)=b.toL.map (fun p=>some p.2)):Tab P b.get:=fun t i hi=>by
 have hm:=Bt.get_mem hi;obtain ⟨j,hj,he⟩:=e1x hm
 have:=congrArg (fun l=>l[j]?) h
 simp only [d9E,d9t hj,he,e2z,d9z] at this;exact this
theorem d8j {P:Program}{b:Bt XI}(h:b.toL.map (fun p=>b5a P p.1)=b.toL.map (fun p=>some p.2)):c3M P b.get:=fun t i hi=>by
 have hm:=Bt.get_mem hi;obtain ⟨j,hj,he⟩:=e1x hm
 have:=congrArg (fun l=>l[j]?) h
 simp only [d9E,d9t hj,he,e2z,d9z] at this;exact this
def FOk (P:Program) (f:Nat) (i:FI):Prop:=∃ fn,P.funcs[f]? = some fn/\fn.body=some i.code/\(fn.name == "runtime.NumGoroutine")=false/\a0O fn.ntmps i.code=true/\fn.ntmps=i.nt/\fn.results.toList=i.res
def c8L (P:Program):Bt FI->Prop
 | .nil=>True
 | .node k v l r=>FOk P k v/\c8L P l/\c8L P r
theorem d8h {P:Program}:∀ {b:Bt FI},c8L P b->∀ f i,b.get f=some i->FOk P f i
 | .nil,_,_,_,h=>by cases h
 | .node k v l r,h,f,i,hi=>by
  simp only [Bt.get] at hi;split at hi
  ·rename_i hb;cases hi;rw [d9v hb];exact h.1
  ·split at hi
   ·exact d8h h.2.1 f i hi
   ·exact d8h h.2.2 f i hi
def c4a (f:Func):FI:=⟨f.ntmps,f.results.toList,f.body.getD .skip⟩
def d4e (tt:Nat->Option a0n)(g:Operand->D)(op:Op):Option D:=match evP tt g op with
 | some (d,_)=>match okP tt g op with
  | true=>some d
  | false=>none
 | none=>none
theorem c6J {tt:Nat->Option a0n}{g:Operand->D}{op:Op}{d:D}(h:d4e tt g op=some d):∃ p,evP tt g op=some (d,p)/\p:=by
 unfold d4e at h;split at h<;>try(cases h;done)
 rename_i hp;split at h<;>try(cases h;done)
 rename_i hk;cases h;exact ⟨_,hp,c0m hp hk⟩
section
variable {C:Ctx} {F:Fra} {s:St} {ops:Array Oper} {o:Oper} {os:List Oper} {K:St->Prop}
theorem d8G {tt:Nat->Option a0n}(htt:Tab C.P tt){m t:Nat}{ks vs:List D}(d:D)(hw:a0S ops s.env o=some true)(he:d4e tt (a1m s.env) o.op=some d)(hflat:b0a d)(hd:o.dst=some t)(hne:t≠m)
  (h:OkM C F ops os m ks vs ⟨a2f s.env (some t) d,s.H,s.n+1⟩ K):OkM C F ops (o::os) m ks vs s K:=by
 obtain ⟨p,h1,h2⟩:=c6J he;exact OkM.p htt hw h1 h2 hflat hd hne h
end
def fw (rd:Option Nat):Fence:={ Fence.wide with round:=rd }
theorem a3G {rd:Option Nat}{n:Nat}{P:Program}{f:FuncId}{args:Array Value}{w:World}{R:Ending->World->Prop}:CallsIn (fw rd) n P f args w R↔Calls P f args w R :=
 (show CallsIn (fw rd) n P f args w R↔CallsIn Fence.wide n P f args w R from Iff.rfl).trans callsIn_wide
theorem a4o {rd:Option Nat}{n:Nat}:(fw rd).depth.isSome=true->1<=n:=fun h=>by cases h
theorem a9e {P:Program}{ρ:Operand->Value}{o:Oper}{w w':World}{x:Next}(h:(execOp ρ o).run P w=.ok x w')(hx:∀ d,x≠.defer d):∀ c,o.op≠.defer c:=fun c hc=>by
 unfold execOp at h;simp only [hc] at h;rw [run_bind] at h;split at h
 ·cases h;exact hx _ rfl
 ·cases h
section
variable {C:Ctx} {F:Fra} {ops:Array Oper} {rd:Option Nat} {Q:Exit->Act->World->Prop}
theorem a5x {P:Program}{o:Oper}{a:Act}{w w':World}{v:Value}{K:Act->World->Prop}(h:(execOp a.eval o).run P w=.ok (.value v) w')(hk:K (a.put o.dst v) w'):o.wpIn (fw rd) 0 P a w K Q:=by
 refine ⟨fun _ _=>trivial,?_⟩;rw [Oper.semAt_eq _ _ _ (a9e h (by simp)),h];exact hk
theorem b7J {P:Program}{o:Oper}{a:Act}{w w':World}{f:Nat}{vs:Array Value}{K:Act->World->Prop}(h:(execOp a.eval o).run P w=.ok (.enter f vs) w')
  (hc:Calls P f vs w' fun e w''=>∃ v,e=.returned v/\K (a.put o.dst v) w''):o.wpIn (fw rd) 0 P a w K Q:=by
 refine ⟨fun _ _=>trivial,?_⟩;rw [Oper.semAt_eq _ _ _ (a9e h (by simp)),h];refine ⟨a4o,a3G.2 (hc.mono ?_)⟩;rintro e w'' ⟨v,rfl,hk⟩;exact hk
theorem b7K {P:Program}{o:Oper}{a:Act}{w w':World}{l f:Nat}{tmps:Array Value}{as bd:Code}{K:Act->World->Prop}(h:(execOp a.eval o).run P w=.ok (.round l f tmps as bd) w')
  (hc:RoundIn (fw rd) 0 P l f tmps as bd w' fun e w''=>∃ v,e=.returned v/\K (a.put o.dst v) w''):o.wpIn (fw rd) 0 P a w K Q:=by
 refine ⟨fun _ _=>trivial,?_⟩;rw [Oper.semAt_eq _ _ _ (a9e h (by simp)),h];refine ⟨a4o,hc.mono ?_⟩;rintro e w'' ⟨v,rfl,hk⟩;exact hk
theorem a1A {R:Exit->Act->World->Prop}{l2:List Nat}(hR:∀ e a w,R e a w->e=.normal/\wpOpsIn (fw rd) 0 C.P ops Q l2 a w)(hnd:∀ (i:Nat) (o:Oper),ops[i]? = some o->∀ c,o.op≠.defer c) :
  ∀ (l:List Nat) (a:Act) (w:World),wpOps C.P ops R l a w->wpOpsIn (fw rd) 0 C.P ops Q (l++l2) a w
 | [],a,w,h=>(hR _ _ _ h).2
 | i::l,a,w,h=>by
  have hlet:¬ LetsOut R:=fun ⟨a,w,h⟩=>by have:=(hR _ _ _ h).1;cases this
  simp only [wpOps] at h;simp only [e0M,wpOpsIn];cases ho:ops[i]? with
  | none=>simp only [ho] at h;exact a1A hR hnd l a w h
  | some o =>
   simp only [ho] at h;dsimp only;split
   ·rename_i hw
    rw [d9l hw] at h;rcases h with h|⟨_,h⟩
    ·unfold Oper.wp at h
     refine ⟨fun _ _=>trivial,?_⟩;rw [Oper.semAt_eq _ _ _ (hnd i o ho)]
     revert h
     generalize (execOp a.eval o).run C.P w=r;intro h;unfold Oper.upon at h;unfold Oper.uponIn;split at h
     ·exact a1A hR hnd l _ _ h
     ·exact a1A hR hnd l _ _ h
     ·exact a1A hR hnd l _ _ h
     ·refine ⟨a4o,a3G.2 (h.mono ?_)⟩
      intro e w'' h;cases e with
      | returned v=>exact a1A hR hnd l _ _ h
      | panicked c=>have:=(hR _ _ _ h).1;cases this
      | outgrown=>exact d9n h hlet
     ·exact ⟨a4o,fun c cs hr=>by
       obtain ⟨v,w',h1,h2⟩:=h c cs;exact ⟨v,w',a1A hR hnd l _ _ h1,stepsIn_wide.2 h2⟩⟩
     ·have:=(hR _ _ _ h).1;cases this
     ·exact h.elim
    ·exact d9n h hlet
   ·rename_i hw
    rw [d9m hw] at h;exact ⟨fun _ _=>trivial,a1A hR hnd l _ _ h⟩
theorem a5P {Q:Exit->Act->World->Prop}:∀ (l:List Nat) (fuel:Nat) (L:Array Bool) (a:Act) (w:World),L.size=ops.size->l.length<=fuel->(∀ i,i<ops.size->(Ls L i↔i∉l))->l.Nodup ->
  (∀ A i B,l=A++i::B->(∀ j∈a2S ops i,j<ops.size/\j∉i::B)/\∀ j∈A,a1Z ops i j)->(∀ i∈l,i<ops.size)->Cl ops L ->
  wpOpsIn (fw rd) 0 C.P ops Q l a w->wpAnyIn (fw rd) 0 C.P .any ops Q fuel L a w
 | [],fuel,L,a,w,hs,_,hl,_,_,_,_,h=>by
  have hr:Region.ready .any ops L=[]:=by
   apply List.eq_nil_iff_forall_not_mem.2;intro i hi;obtain ⟨h1,h2,_⟩:=a0P.1 hi
   have:=(hl i h1).2 (by simp)
   unfold Ls at this;rw [d9o,d9C (by omega)] at this h2;simp at this h2;rw [this] at h2;cases h2
  cases fuel with
  | zero=>exact ⟨hr,h⟩
  | succ fuel=>exact ⟨fun _=>h,fun i hi=>by rw [hr] at hi;simp at hi⟩
 | i::l,0,_,_,_,_,hf,_,_,_,_,_,_=>by simp at hf
 | i::l,fuel+1,L,a,w,hs,hf,hl,hnd,hd,hlt,hcl,h=>by
  have hil:=hlt i (by simp);have hLi:∀ j,j<ops.size->(L.getD j true=true↔Ls L j):=fun j hj=>by
   unfold Ls;rw [d9o,d9o,d9C (by omega)];simp
  have hready:∀ j,j∈Region.ready .any ops L↔j=i:=by
   intro j;rw [a0P];constructor
   ·rintro ⟨h1,h2,h3⟩
    have hj:j∈i::l:=by
     apply d9L;intro hn
     have:=(hLi j h1).2 ((hl j h1).2 hn)
     rw [h2] at this;cases this
    apply d9L;intro hne;have hjl:j∈l:=by simpa [hne] using hj
    obtain ⟨A,B,rfl⟩:=e0v hjl;have hreach:=(hd (i::A) j B (by simp)).2 i (by simp)
    have:=a0w hs hcl hreach h3
    exact d9n ((hl i hil).1 this) (by simp)
   ·rintro rfl
    refine ⟨hil,?_,fun k hk=>?_⟩
    ·cases hb:L.getD j true with
     | false=>rfl
     | true=>exact d9n ((hl j hil).1 ((hLi j hil).1 hb)) (by simp)
    ·have hk2:=(hd [] j l rfl).1 k hk
     exact (hl k hk2.1).2 hk2.2
  have hset:∀ j,Ls (L.setIfInBounds i true) j↔j=i\/Ls L j:=fun j=>Ls.set (by omega)
  refine ⟨fun h0=>?_,fun j hj=>?_⟩
  ·have:=(hready i).2 rfl
   rw [h0] at this;simp at this
  ·obtain rfl:=(hready j).1 hj
   rw [wpOpsIn_cons] at h;obtain ⟨n1,n2⟩:=List.nodup_cons.1 hnd;refine wpOpIn_mono (fun a w hk=>?_) h;refine a5P l fuel _ a w (by simp [hs]) (by simp at hf;omega) (fun k hk2=>?_) n2 (fun A k B hAB=>?_) (fun k hk2=>hlt k (by simp [hk2])) ?_ hk
   ·rw [hset,hl k hk2]
    by_cases hkj:k=j
    ·subst hkj;simp [n1]
    ·simp [hkj]
   ·obtain ⟨q1,q2⟩:=hd (j::A) k B (by simp [hAB])
    exact ⟨q1,fun x hx=>q2 x (by simp [hx])⟩
   ·intro k hk2 hks x hx
    have hk3:Ls (L.setIfInBounds j true) k:=by
     unfold Ls;rw [d9o,d9C (by simp;omega)] at hk2 ⊢;simpa using hk2
    show Ls _ x;rw [hset];rcases (hset k).1 hk3 with rfl|hk3
    ·exact .inr ((a0P.1 hj).2.2 x hx)
    ·exact .inr (hcl k ((hLi k hks).2 hk3) hks x hx)
theorem b3V {Q:Exit->Act->World->Prop}{H:Hp}{n:Nat}{env:Env}{rs:List Rec}{suf:List Nat}(ho:b3S ops rs suf)(hgen:∀ e∈H,e.g<n)(hd:∀ r∈rs,a2m F.nt r.o=true)
  (hst:∀ A r B,rs=A++r::B->ops[r.i]? = some r.o/\a0s C F ops H (n+r.i) (a3C A env) r.o r.d r.ne)
  (hend:∀ (L:Array Bool) (a:Act) (w:World) (ρ:Lk) (He:Hp),L.size=ops.size->(∀ r∈rs,Ls L r.i)->DI C F H n env rs L a w ρ He->wpOpsIn (fw rd) 0 C.P ops Q suf a w) :
  ∀ (fuel:Nat) (L:Array Bool) (a:Act) (w:World) (ρ:Lk) (He:Hp),L.size=ops.size->((rs.map (·.i)++suf).filter (fun i=>!L.getD i false)).length<=fuel->Cl ops L->(∀ i∈suf,¬ Ls L i) ->
   DI C F H n env rs L a w ρ He->wpAnyIn (fw rd) 0 C.P .any ops Q fuel L a w:=by
 intro fuel
 induction fuel with
 | zero =>
  intro L a w ρ He hL hf hc hs hi;have h0:(rs.map (·.i)++suf).filter (fun i=>!L.getD i false)=[]:=e0d (by omega);have hall:∀ r∈rs,Ls L r.i:=fun r hr=>by
   have:=List.filter_eq_nil_iff.1 h0 r.i (by simp;exact .inl ⟨r,hr,rfl⟩)
   simpa [Ls] using this
  have hsuf:suf=[]:=by
   apply List.eq_nil_iff_forall_not_mem.2;intro i hi2
   have:=List.filter_eq_nil_iff.1 h0 i (by simp [hi2])
   exact hs i hi2 (by simpa [Ls] using this)
  subst hsuf;refine a5P [] 0 L a w hL (d9y _) (fun i hi2=>⟨fun _=>by simp,fun _=>?_⟩) .nil (fun A i B h=>by cases A<;>simp at h) (by simp) hc (hend L a w ρ He hL hall hi)
  have:=ho.all i hi2
  simp at this;obtain ⟨r,hr,rfl⟩:=this;exact hall r hr
 | succ fuel ih =>
  intro L a w ρ He hL hf hc hs hi
  by_cases hall:∀ r∈rs,Ls L r.i
  ·refine a5P suf (fuel+1) L a w hL ?_ (fun i hi2=>?_) ?_ (fun A i B hAB=>⟨fun j hj=>?_,fun j hj=>ho.suf A i B hAB j (by simp [hj])⟩) (fun i hi2=>ho.lt i (by simp [hi2])) hc (hend L a w ρ He hL hall hi)
   ·refine d9V ?_ hf
    rw [List.filter_append,d9Z];rw [(List.filter_eq_self (l:=suf)).2 fun i hi2=>by have:=hs i hi2;unfold Ls at this;simpa using this];omega
   ·constructor
    ·intro h1 h2;exact hs i h2 h1
    ·intro h1
     have:=ho.all i hi2
     rcases List.mem_append.1 this with h|h
     ·obtain ⟨r,hr,rfl⟩:=List.mem_map.1 h;exact hall r hr
     ·exact d9n h h1
   ·exact (e0z.1 ho.nodup).2.1
   ·have hA:=ho.first (rs.map (·.i)++A) i B (by simp [hAB]) j hj
    refine ⟨ho.lt j (by rw [hAB];rcases List.mem_append.1 hA with h|h<;>simp [h]),fun hB=>?_⟩;have hnd:=ho.nodup;rw [hAB,<- e0J,e0z] at hnd;exact hnd.2.2 j hA j hB rfl
  ·have hnot:∃ r∈rs,¬ Ls L r.i:=by
    apply d9L;intro hn;exact hall fun r hr=>d9L fun h=>hn ⟨r,hr,h⟩
   have hLt:∀ j,j<ops.size->(L.getD j true=true↔Ls L j):=fun j hj=>by
    unfold Ls;rw [d9o,d9o,d9C (by omega)];simp
   have hsome:Region.ready .any ops L≠[]:=by
    obtain ⟨r0,hr0,hn0⟩:=hnot
    have:∀ X:List Rec,∀ Y,rs=X++Y->(∃ r∈Y,¬ Ls L r.i)->(∀ r∈X,Ls L r.i)->∃ A r B,rs=A++r::B/\¬ Ls L r.i/\∀ r∈A,Ls L r.i:=by
     intro X Y
     induction Y generalizing X with
     | nil=>rintro _ ⟨r,hr,_⟩ _;simp at hr
     | cons y Y ihY =>
      intro hXY hex hX
      by_cases hy:Ls L y.i
      ·obtain ⟨r,hr,hrn⟩:=hex
       rcases d9F.1 hr with rfl|hr
       ·exact d9n hy hrn
       ·exact ihY (X++[y]) (by simp [hXY]) ⟨r,hr,hrn⟩ (fun r hr=>by
         rcases List.mem_append.1 hr with h|h
         ·exact hX r h
         ·simp at h;subst h;exact hy)
      ·exact ⟨X,y,Y,hXY,hy,hX⟩
    obtain ⟨A,r,B,h1,h2,h3⟩:=this [] rs rfl ⟨r0,hr0,hn0⟩ (by simp);intro hnil;have hrlt:=ho.lt r.i (by rw [h1];simp)
    have:r.i∈Region.ready .any ops L:=by
     rw [a0P];refine ⟨hrlt,?_,fun j hj=>?_⟩
     ·cases hb:L.getD r.i true with
      | false=>rfl
      | true=>exact d9n ((hLt r.i hrlt).1 hb) h2
     ·have:=ho.first (A.map (·.i)) r.i (B.map (·.i)++suf) (by rw [h1];simp) j hj
      obtain ⟨r',hr',rfl⟩:=List.mem_map.1 this;exact h3 r' hr'
    rw [hnil] at this;simp at this
   refine ⟨fun h0=>d9n h0 hsome,fun i hir=>?_⟩;obtain ⟨hilt,hin,hid⟩:=a0P.1 hir;have hnL:¬ Ls L i:=fun h=>by rw [(hLt i hilt).2 h] at hin;cases hin
   have hpre:i∈rs.map (·.i):=by
    rcases List.mem_append.1 (ho.all i hilt) with h|h
    ·exact h
    ·obtain ⟨A,B,hAB⟩:=e0v h
     obtain ⟨r0,hr0,hn0⟩:=hnot
     have:=a0w hL hc (ho.suf A i B hAB r0.i (e1h _ (List.mem_map.2 ⟨r0,hr0,rfl⟩))) hid
     exact d9n this hn0
   obtain ⟨r,hr,rfl⟩:=List.mem_map.1 hpre;obtain ⟨A,B,hAB⟩:=e0v hr;obtain ⟨hor,hgen2,hsteady⟩:=hst A r B hAB;have hset:∀ j,Ls (L.setIfInBounds r.i true) j↔j=r.i\/Ls L j:=fun j=>Ls.set (by omega)
   have hndr:(rs.map (·.i)).Nodup:=(e0z.1 ho.nodup).1;have hsub:∀ e∈H,e∈He:=fun e he=>hi.perm.mem_iff.2 (by simp [he])
   have hfr:∀ k,ρ k (n+r.i)=none:=fun k=>by
    apply d9L;intro hk;obtain ⟨r',h1,h2,h3⟩:=hi.fresh k (n+r.i) (by omega) hk
    have:r'.i=r.i:=by omega
    rw [this] at h2;exact hnL h2
   have hne:∀ e∈He,e.g≠n+r.i:=fun e he hg=>by
    rcases List.mem_append.1 (hi.perm.mem_iff.1 he) with h|h
    ·obtain ⟨r',h1,h2⟩:=List.mem_filterMap.1 h
     split at h2
     ·rename_i hl
      obtain ⟨A',B',hAB'⟩:=e0v h1
      have:=(hst A' r' B' hAB').2.1 e h2
      have:r'.i=r.i:=by omega
      rw [this] at hl;exact hnL hl
     ·cases h2
    ·have:=hgen e h;omega
   have next:∀ v ρ' w',a9T C F He ρ w (n+r.i) r.d r.ne v ρ' w'->wpAnyIn (fw rd) 0 C.P .any ops Q fuel (L.setIfInBounds r.i true) (a.put r.o.dst v) w':=by
    intro v ρ' w' p;have hi':=hi;rw [hAB] at hi' hndr;have hdst:=ho.dst;rw [hAB] at hdst;have hn':=DI.next hi' (by omega) hnL hndr hdst (hd r hr) p;rw [<- hAB] at hn';refine ih _ _ _ ρ' (a4G r.ne He) (by simp [hL]) ?_ ?_ (fun j hj=>?_) hn'
    ·have:((rs.map (·.i)++suf).filter (fun i=>!(L.setIfInBounds r.i true).getD i false)).length<((rs.map (·.i)++suf).filter (fun i=>!L.getD i false)).length:=by
      have sub:(rs.map (·.i)++suf).filter (fun i=>!(L.setIfInBounds r.i true).getD i false)=((rs.map (·.i)++suf).filter (fun i=>!L.getD i false)).filter (fun i=>!Nat.beq i r.i):=by
       rw [List.filter_filter];apply List.filter_congr;intro x hx;have h1:=hset x;unfold Ls at h1
       by_cases hxr:x=r.i
       ·subst hxr
        have:(L.setIfInBounds r.i true).getD r.i false=true:=h1.2 (.inl rfl)
        simp [this]
       ·have hb:Nat.beq x r.i=false:=by
         cases hb:Nat.beq x r.i with
         | false=>rfl
         | true=>exact d9n (d9v hb) hxr
        rw [hb]
        by_cases hlx:L.getD x false=true
        ·rw [h1.2 (.inr hlx),hlx];rfl
        ·have:¬ (L.setIfInBounds r.i true).getD x false=true:=fun h=>hlx ((h1.1 h).resolve_left hxr)
         simp only [Bool.not_eq_true] at this hlx;rw [this,hlx];rfl
      rw [sub];apply List.length_filter_lt_length_iff_exists.2;exact ⟨r.i,by rw [List.mem_filter];exact ⟨by simp;exact .inl ⟨r,hr,rfl⟩,by unfold Ls at hnL;simpa using hnL⟩,by simp⟩
     omega
    ·intro k hk2 hks x hx
     have hk3:Ls (L.setIfInBounds r.i true) k:=by
      unfold Ls;rw [d9o,d9C (by simp;omega)] at hk2 ⊢;simpa using hk2
     show Ls _ x;rw [hset];rcases (hset k).1 hk3 with rfl|hk3
     ·exact .inr (hid x hx)
     ·exact .inr (hc k ((hLt k hks).2 hk3) hks x hx)
    ·rw [hset]
     rintro (rfl|h)
     ·have hnd:=ho.nodup
      rw [e0z] at hnd;exact hnd.2.2 r.i (List.mem_map.2 ⟨r,hr,rfl⟩) r.i hj rfl
     ·exact hs j hj h
   unfold wpOpIn;simp only [hor];rcases hsteady He ρ a w hi.mem hsub hfr hne (hi.look ho hL hc hAB hir) with ⟨hw,hn0,hrep⟩|⟨hw,hout⟩
   ·rw [d9m (by rw [hw];simp)]
    exact ⟨fun _ _=>trivial,next undef ρ w ⟨by rw [hn0];exact hi.mem,by rw [hn0];exact .refl _ _ _,fun _ _ _=>rfl,by rw [hn0];exact hrep⟩⟩
   ·rw [d9l hw]
    rcases hout with ⟨v,ρ',w',h1,h2⟩|⟨f,vs,h1,h2⟩
    ·exact a5x h1 (next v ρ' w' h2)
    ·refine b7J h1 (h2.mono ?_)
     rintro e w' ⟨v,rfl,ρ',h3⟩;exact ⟨v,rfl,next v ρ' w' h3⟩
theorem c9n {R:Exit->Act->World->Prop}{i:Nat}{s:St}{pre suf:List Nat}{envF:Env}{N:Hp}(hm:C.P.follows .mixedOrders=true)(hc:b2m ops pre suf=true)
  (hpre:DTr C F ops s.H s.n pre s.env [] envF N)
  (h:(∀ j∈suf,j<ops.size)->∀ (ρ:Lk) (a:Act) (w:World),Sat C F ρ ⟨envF,N++s.H,s.n+ops.size⟩ a w->wpOpsIn (fw rd) 0 C.P ops R suf a w) (hd:ops.toList.all (a2m F.nt)=true) (ρ:Lk) (a:Act) (w:World) (hs:Sat C F ρ s a w) :
  (Code.region i ops true).wpIn (fw rd) 0 C.P R a w:=by
 obtain ⟨rs,h1,h2,h3,h4⟩:=hpre.recs;have hor:∀ r∈rs,ops[r.i]? = some r.o:=fun r hr=>by
  obtain ⟨A,B,hAB⟩:=e0v hr;exact (h4 A r B hAB).1
 have ho:=a8f h1 hor hc;have hds:∀ r∈rs,a2m F.nt r.o=true:=fun r hr=>by
  refine d9W.1 hd r.o ?_
  have:=hor r hr
  exact Array.mem_toList_iff.2 (e1u this)
 have hrep:∀ j,(Array.replicate ops.size false).getD j false=false:=fun j=>by
  rw [d9o];rw [e1r];split<;>rfl
 have hnL:∀ j,¬ Ls (Array.replicate ops.size false) j:=fun j hj=>by unfold Ls at hj;rw [hrep] at hj;cases hj
 refine wpIn_region_any hm ?_;have hin:DI C F s.H s.n s.env rs (Array.replicate ops.size false) a w.drew ρ s.H:=by
  refine ⟨hs.mem.drew,?_,fun r _ hl=>d9n hl (hnL _),fun t _=>(hs.env t).mono (.drew _ _ _),fun k g hg hk=>d9n (hs.fresh k g hg) hk,hs.nt,hs.dfr⟩
  have:rs.filterMap (fun r=>if (Array.replicate ops.size false).getD r.i false then r.ne else none)=[]:=by
   rw [e2s];intro r _;rw [hrep];rfl
  rw [this];exact List.Perm.refl _
 refine b3V ho hs.gen hds h4 ?_ ops.size _ a w.drew ρ s.H (by simp) ?_ ?_ (fun j _=>hnL j) hin
 ·intro L a' w' ρ' He hL hall hi
  have hN:He.Perm (N++s.H):=by
   refine hi.perm.trans (List.Perm.append_right _ ?_);have e:rs.filterMap (fun r=>if L.getD r.i false then r.ne else none)=rs.filterMap (·.ne):=a3d fun r hr=>by
    have:=hall r hr;unfold Ls at this;rw [this];rfl
   rw [e,h3]
   have:=a2K rs []
   rw [e0D] at this;exact this.symm
  refine h (fun j hj=>ho.lt j (by simp [hj])) ρ' a' w' ⟨hi.mem.perm hN,?_,?_,fun t=>?_,hi.nt,hi.dfr⟩
  ·intro k g hg
   apply d9L;intro hk;obtain ⟨r,hr,_,he⟩:=hi.fresh k g (by simp at hg;omega) hk
   have:=ho.lt r.i (by simp;exact .inl ⟨r,hr,rfl⟩)
   simp at hg;omega
  ·intro e he
   rcases List.mem_append.1 he with he|he
   ·rw [h3] at he
    have he:=(a2K rs []).mem_iff.1 he;rw [e0D] at he;obtain ⟨r,hr,hre⟩:=List.mem_filterMap.1 he;obtain ⟨A,B,hAB⟩:=e0v hr
    have:=(h4 A r B hAB).2.1 e hre
    have:=ho.lt r.i (by simp;exact .inl ⟨r,hr,rfl⟩)
    show e.g<s.n+ops.size;omega
   ·have:=hs.gen e he
    show e.g<s.n+ops.size;omega
  ·show Rep ρ' (Own F.X ρ' (N++s.H)) w' (envF.get t) _
   rw [<- Own.perm hN,h2]
   by_cases hw:∃ r∈rs,r.o.dst=some t
   ·obtain ⟨r,hr,hrd⟩:=hw
    rw [a4n rs s.env t ho.dst r hr hrd];exact hi.reps r hr (hall r hr) t hrd
   ·rw [a1v rs s.env t fun r hr hrd=>hw ⟨r,hr,hrd⟩]
    exact hi.old t fun r hr _ hrd=>hw ⟨r,hr,hrd⟩
 ·refine d9V (List.length_filter_le _ _) ?_
  have hsub:∀ (l:List Nat) (n:Nat),l.Nodup->(∀ x∈l,x<n)->l.length<=n:=by
   intro l n
   induction n generalizing l with
   | zero=>intro _ h;cases l with
    | nil=>simp
    | cons x l=>exact d9n (h x (by simp)) (by omega)
   | succ n ihn =>
    intro hnd hlt;have h1:=ihn (l.erase n) (hnd.erase n) fun x hx=>by
     have:=hlt x (List.mem_of_mem_erase hx)
     have:x≠n:=fun h=>by subst h;exact (e2v hnd) hx
     omega
    have:=List.length_erase (a:=n) (l:=l)
    split at this<;>omega
  exact hsub _ _ ho.nodup ho.lt
 ·intro k hk
  have:k<ops.size\/¬ k<ops.size:=by omega
  rcases this with hlt|hlt
  ·rw [d9o,e1r,d9l hlt] at hk;cases hk
  ·intro h;exact d9n h hlt
theorem a3k {R Q:Exit->Act->World->Prop}(hR:∀ e a w,R e a w->e=.normal/\Q .normal a w)(hnd:∀ (i:Nat) (o:Oper),ops[i]? = some o->∀ c,o.op≠.defer c) :
  ∀ (fuel:Nat) (L:Array Bool) (a:Act) (w:World),wpAny C.P .any ops R fuel L a w->wpAnyIn (fw rd) 0 C.P .any ops Q fuel L a w
 | 0,L,a,w,h=>⟨h.1,(hR _ _ _ h.2).2⟩
 | fuel+1,L,a,w,h=>⟨fun h0=>(hR _ _ _ (h.1 h0)).2,fun i hi=>by
   have hlet:¬ LetsOut R:=fun ⟨a,w,h⟩=>by have:=(hR _ _ _ h).1;cases this
   have hq:=h.2 i hi;unfold wpOp at hq;unfold wpOpIn;split
   ·rename_i ho;simp only [ho] at hq;exact a3k hR hnd fuel _ a w hq
   ·rename_i o ho
    simp only [ho] at hq;split
    ·rename_i hw
     rw [d9l hw] at hq;rcases hq with hq|⟨_,hq⟩
     ·unfold Oper.wp at hq
      refine ⟨fun _ _=>trivial,?_⟩;rw [Oper.semAt_eq _ _ _ (hnd i o ho)]
      revert hq
      generalize (execOp a.eval o).run C.P w=r;intro hq;unfold Oper.upon at hq;unfold Oper.uponIn;split at hq
      ·exact a3k hR hnd fuel _ _ _ hq
      ·exact a3k hR hnd fuel _ _ _ hq
      ·exact a3k hR hnd fuel _ _ _ hq
      ·refine ⟨a4o,a3G.2 (hq.mono ?_)⟩
       intro e w'' h;cases e with
       | returned v=>exact a3k hR hnd fuel _ _ _ h
       | panicked c=>have:=(hR _ _ _ h).1;cases this
       | outgrown=>exact d9n h hlet
      ·exact ⟨a4o,fun c cs hr=>by
        obtain ⟨v,w',h1,h2⟩:=hq c cs;exact ⟨v,w',a3k hR hnd fuel _ _ _ h1,stepsIn_wide.2 h2⟩⟩
      ·have:=(hR _ _ _ hq).1;cases this
      ·exact hq.elim
     ·exact d9n hq hlet
    ·rename_i hw
     rw [d9m hw] at hq;exact ⟨fun _ _=>trivial,a3k hR hnd fuel _ _ _ hq⟩⟩
end
end Go.Ide
