/- The layer of own lemmas and contracts, part 2. -/
import Derived.Test.YtmpdcldckjeklacGreatDoorAE1
import Derived.Lib.AppendStr
import Derived.Laws.StructEq
import Derived.MapKept
import Derived.Scope
import Derived.Laws.CopyRow
set_option linter.unusedVariables false
set_option linter.unusedSimpArgs false
namespace Go.Ide
open Go.RowKit
def Ct (C:AZ)(f:Nat)(args:List D)(H:Hp)(n:Nat)(Φ:D->Hp->Nat->Prop):Prop:=
 GY C.P f/\∀(F:AI) (ρ:Lk) (w:World) (vs:Array Value),AQ C F ρ H w->Ge ρ n->(∀e∈H,e.g<n)->vs.size=args.length ->
  (∀(i:Nat) (d:D),args[i]?=some d->AG ρ (AF F.X ρ H) w d (vs.getD i undef)) ->
  Calls C.P f vs w (λe w'=>∃v d H' n' ρ',e=.returned v/\Φ d H' n'/\AQ C F ρ' H' w'/\Ao ρ (AF F.X ρ H) w ρ' (AF F.X ρ' H') w'/\Ge ρ' n'/\(∀e∈H',e.g<n') /\
   AG ρ' (AF F.X ρ' H') w' d v)
def AI.sub (F:AI)(ρ:Lk)(H:Hp)(w:World)(nt:Nat):AI:=⟨w,F.X,λb=>∃e∈H,ρ e.k e.g=some b,nt,ρ,[]⟩
section
variable {C:AZ} {F:AI} {ρ:Lk} {H:Hp} {w:World}
theorem AQ.enter (m:AQ C F ρ H w)(nt:Nat):AQ C (F.sub ρ H w nt) ρ H w where
 hok:=⟨m.hok.ent,m.hok.inj,λe he b hb=>⟨(m.hok.own e he b hb).1,.inr ⟨e,he,hb⟩⟩⟩
 os:=rfl
 tape:=rfl
 output:=rfl
 size:=Ad _
 blk:=λ_ _ _=>rfl
 xlt:=λb hb=>CU (m.xlt b hb) m.size
 g0:=m.g
 gn:=Az m.gn m.size
 gw:=λb ⟨e,he,hb⟩=>by
  rcases(m.hok.own e he b hb).2 with h|h
  ·exact Az m.gn h
  ·exact m.gw b h
 lnk:=λ_ _ _ h=>h
 shp:=λ_ cs _ _ h=>⟨cs,_,h,rfl⟩
theorem AQ.leave {nt:Nat}{ρ':Lk}{H':Hp}{w':World}(m:AQ C F ρ H w)(m':AQ C (F.sub ρ H w nt) ρ' H' w'):
  AQ C F ρ' H' w'/\Ao ρ (AF F.X ρ H) w ρ' (AF F.X ρ' H') w':=by
 have hwr:∀b,(∃e∈H,ρ e.k e.g=some b)->¬F.X b/\(F.w0.heap.size<=b\/F.Wr b):=λb ⟨e,he,hb⟩=>m.hok.own e he b hb
 have x:Ao ρ (AF F.X ρ H) w ρ' (AF F.X ρ' H') w':=by
  refine⟨m'.size,m'.lnk,λb hb hO=>⟨?_,m'.blk b hb λh=>hO (.inr h)⟩,m'.shp⟩;rintro(h|⟨e,he,h⟩)
  ·exact hO (.inl h)
  ·rcases(m'.hok.own e he b h).2 with h'|h'
   ·exact AW hb (Nat.not_lt.2 h')
   ·exact hO (.inr h')
 refine⟨⟨⟨m'.hok.ent,m'.hok.inj,λe he b hb=>?_⟩,m'.os.trans m.os,m'.tape.trans m.tape,m'.output.trans m.output,Az m.size m'.size,λb hb hw=>?_,m.xlt,m.g0,m.gn,m.gw,
  λ_ _ _ h=>m'.lnk _ _ _ (m.lnk _ _ _ h),GC m.shp x⟩,x⟩
 ·have h:=m'.hok.own e he b hb
  refine⟨h.1,?_⟩;rcases h.2 with h'|h'
  ·exact .inl (Az m.size h')
  ·exact(hwr b h').2
 ·have h1:=m'.blk b (CU hb m.size) λh=>by
   rcases(hwr b h).2 with h'|h'
   ·omega
   ·exact hw h'
  exact h1.trans (m.blk b hb hw)
end
def dP (tt:Nat->Option AL)(rs:List ResultVar)(Φ:D->Hp->Nat->Prop):Exit->St->Prop:=λe s=>
 (e=.normal\/e=.ret)/\∃d p,FA tt s rs=some (d,p)/\p/\Φ d s.H s.n
section
variable {C:AZ} {F:AI} {s:St} {ops:Array Oper} {o:Oper} {os:List Oper} {K:St->Prop}
theorem MV {ρ:Lk}{O:Nat->Prop}{w:World}{args:List D}{vs:Array Value}{nt:Nat}(hvs:vs.size=args.length)(hr:∀(i:Nat) (d:D),args[i]?=some d->AG ρ O w d (vs.getD i undef))(t:Nat):
  AG ρ O w ((Ck 0 args).get t) ((vs++Array.replicate (nt-vs.size) undef).getD t undef):=by
 rw[Ny,AM (Bu _),Nat.sub_zero];cases ha:args[t]? with
 |none=>exact .any _
 |some d=>
  have ht:t<args.length:=(Ay.1 ha).1
  have:(vs++Array.replicate (nt-vs.size) undef).getD t undef=vs.getD t undef:=by
   simp only[AT];rw[D5 (by omega)]
  rw[this];exact hr t d ha
theorem Ct.intro {f:Nat}{fn:Func}{c:Code}{args:List D}{H:Hp}{n:Nat}{Φ:D->Hp->Nat->Prop}{tt:Nat->Option AL}(htt:A7 C.P tt)(hf:C.P.funcs[f]?=some fn)(hb:fn.body=some c)
  (hn:(fn.name == "runtime.NumGoroutine")=false) (hd:B6 fn.ntmps c=true) (hnt:Nat.ble args.length fn.ntmps=true)
  (h:∀F:AI,F.nt=fn.ntmps->Ok C F c ⟨Ck 0 args,H,n⟩ (dP tt fn.results.toList Φ)):Ct C f args H n Φ:=by
 refine⟨⟨fn,c,hf,hb,hn⟩,λF ρ w vs m hfr hg hvs hr=>?_⟩;have hnt:=BD hnt;refine calls_of_wp hf hb ?_;have sat:Aw C (F.sub ρ H w fn.ntmps) ρ ⟨Ck 0 args,H,n⟩ { tmps:=vs++Array.replicate (fn.ntmps-vs.size) undef,defers:=[] } w:=
  ⟨m.enter _,hfr,hg,MV hvs hr,by simp[AI.sub];omega,rfl⟩
 refine wp_mono (h (F.sub ρ H w fn.ntmps) rfl hd ρ _ w sat) ?_;rintro e a' w' ⟨s',ρ',⟨he,d,p,h1,h2,h3⟩,hs'⟩;obtain⟨v,r1,r2⟩:=Oq htt hs' h1 h2;obtain⟨m',x⟩:=m.leave hs'.mem;rcases he with rfl|rfl
 ·exact⟨hs'.dfr,v,r1,v,d,_,_,ρ',rfl,h3,m',x,hs'.fresh,hs'.gen,r2⟩
 ·exact⟨hs'.dfr,v,r1,v,d,_,_,ρ',rfl,h3,m',x,hs'.fresh,hs'.gen,r2⟩
theorem iM {f:Nat}{first captured ds:List D}{fop:Operand}{args:Array Operand}{tys:Array Nat}{Φ:D->Hp->Nat->Prop}(hw:Am ops s.env o=some true)(ho:o.op=.call ⟨.value fop,args,tys⟩)
  (hf:AV s.env fop=.clo (.func f) first captured) (hds:first++args.toList.map (AV s.env)++captured=ds) (hc:Ct C f ds s.H s.n Φ)
  (h:∀d H' n',Φ d H' n'->AR C F ops os ⟨Ak s.env o.dst d,H',n'⟩ K):AR C F ops (o::os) s K:=by
 intro hd l hl ρ a w hs;cases l with
 |nil=>simp at hl
 |cons i l=>
  simp only[BY,CZ]at hl;simp only[Db,Ag]at hd;obtain⟨vs,h1,h2,h3⟩:=P7 ho hf hc.1 hs;rw[hds]at h2 h3;simp only[wpOps,hl.1];rw[AM (FK hs.env hw)];refine .inl ?_;unfold Oper.wp;rw[h1];refine(hc.2 F ρ w vs hs.mem hs.fresh hs.gen h2 h3).mono ?_;rintro e w' ⟨v,d,H',n',ρ',rfl,hΦ,m,x,fr,g,r⟩;exact h d H' n' hΦ hd.2 l hl.2 ρ' (a.put o.dst v) w' (hs.put m x fr g r hd.1)
end
section
variable {C:AZ} {F:AI} {ρ:Lk} {H:Hp} {w:World}
theorem AQ.rename {H1 H2:Hp}{e:AK}{b k n:Nat}(m:AQ C F ρ (H1++e::H2) w)(hb:ρ e.k e.g=some b)(hn:ρ k n=none)(hne:∀e'∈H1++e::H2,e'.g≠n):
  AQ C F (ρ.put k n b) (⟨k,n,e.T,e.sz,e.es⟩::(H1++H2)) w/\Ao ρ (AF F.X ρ (H1++e::H2)) w (ρ.put k n b) (AF F.X (ρ.put k n b) (⟨k,n,e.T,e.sz,e.es⟩::(H1++H2))) w:=by
 have hold:∀e'∈H1++e::H2,∀b',ρ.put k n b e'.k e'.g=some b'↔ρ e'.k e'.g=some b':=λe' he' b'=>by
  unfold Lk.put;rw[AN λh=>hne e' he' h.2]
 have hmem:∀e',e'∈H1++e::H2↔e'=e\/e'∈H1++H2:=λe'=>by simp;constructor<;>(rintro(h|h|h)<;>simp[h])
 have hO:∀b',AF F.X (ρ.put k n b) (⟨k,n,e.T,e.sz,e.es⟩::(H1++H2)) b'↔AF F.X ρ (H1++e::H2) b':=by
  intro b';unfold AF;refine or_congr Iff.rfl ⟨?_,?_⟩
  ·rintro⟨e',he',h⟩
   rcases Ah.1 he' with rfl|he'
   ·rw[CO]at h;exact⟨e,by simp,by rw[hb];exact h⟩
   ·have hm:=(hmem e').2 (.inr he')
    exact⟨e',hm,(hold e' hm b').1 h⟩
  ·rintro⟨e',he',h⟩
   rcases(hmem e').1 he' with rfl|h2
   ·rw[hb]at h;cases h
    exact⟨_,DF ..,CO _ _ _ _⟩
   ·exact⟨e',Dv _ h2,(hold e' he' b').2 h⟩
 have hOe:AF F.X (ρ.put k n b) (⟨k,n,e.T,e.sz,e.es⟩::(H1++H2))=AF F.X ρ (H1++e::H2):=funext λb=>propext (hO b)
 have x:Ao ρ (AF F.X ρ (H1++e::H2)) w (ρ.put k n b) (AF F.X (ρ.put k n b) (⟨k,n,e.T,e.sz,e.es⟩::(H1++H2))) w:=
  ⟨Ad _,λ_ _ _ h=>Jw hn h,λb' _ h=>⟨by rw[hOe];exact h,rfl⟩,λ_ cs _ _ h=>⟨cs,_,h,rfl⟩⟩
 have hinj:=m.hok.inj;rw[Iy,D3]at hinj;obtain⟨p1,⟨p2,p3⟩,p4⟩:=hinj;refine⟨⟨⟨λe' he'=>?_,?_,λe' he' b' hb'=>?_⟩,m.os,m.tape,m.output,m.size,m.blk,m.xlt,m.g0,m.gn,m.gw,λ_ _ _ h=>x.link _ _ _ (m.lnk _ _ _ h),m.shp⟩,x⟩
 ·rcases Ah.1 he' with rfl|h2
  ·obtain⟨cs,a1,a2⟩:=m.atO (e:=e) (by simp) hb
   exact .inr ⟨b,cs,CO _ _ _ _,a1,(a2.mono x).ren _ _⟩
  ·have hm:=(hmem e').2 (.inr h2)
   rcases m.hok.ent e' hm with⟨a1,a2⟩|⟨b',cs,a1,a2,a3⟩
   ·exact .inl ⟨a1,by unfold Lk.put;rw[AN λh=>hne e' hm h.2];exact a2⟩
   ·exact .inr ⟨b',cs,(hold e' hm b').2 a1,a2,a3.mono x⟩
 ·rw[D3,Iy]
  have tr:∀ {e1 e2:AK},e1∈H1++e::H2->e2∈H1++e::H2->(∀b b',ρ e1.k e1.g=some b->ρ e2.k e2.g=some b'->b≠b')->∀b1 b2,ρ.put k n b e1.k e1.g=some b1->ρ.put k n b e2.k e2.g=some b2->b1≠b2:=
   λh1 h2 h b1 b2 hb1 hb2=>h b1 b2 ((hold _ h1 b1).1 hb1) ((hold _ h2 b2).1 hb2)
  refine⟨λe2 he2 b1 b2 hb1 hb2=>?_,?_,?_,?_⟩
  ·rw[CO]at hb1;cases hb1
   have hm:=(hmem e2).2 (.inr he2);have hb2:=(hold _ hm b2).1 hb2;rcases BR.1 he2 with h|h
   ·exact λhe=>p4 e2 h e (by simp) b2 b hb2 hb he.symm
   ·exact p2 e2 h b b2 hb hb2
  ·exact p1.imp_of_mem λh1 h2 h=>tr (by simp[h1]) (by simp[h2]) h
  ·exact p3.imp_of_mem λh1 h2 h=>tr (by simp[h1]) (by simp[h2]) h
  ·exact λe1 h1 e2 h2=>tr (by simp[h1]) (by simp[h2]) (p4 e1 h1 e2 (by simp[h2]))
 ·rcases Ah.1 he' with rfl|h2
  ·rw[CO]at hb';cases hb'
   exact m.hok.own e (by simp) b hb
  ·have hm:=(hmem e').2 (.inr h2)
   exact m.hok.own e' hm b' ((hold _ hm b').1 hb')
theorem AQ.ghost {k n T sz:Nat}(m:AQ C F ρ H w)(hn:ρ k n=none):AQ C F ρ (⟨k,n,T,sz,[]⟩::H) w/\AF F.X ρ (⟨k,n,T,sz,[]⟩::H)=AF F.X ρ H:=by
 have hO:AF F.X ρ (⟨k,n,T,sz,[]⟩::H)=AF F.X ρ H:=funext λb=>propext (by
  unfold AF;refine or_congr Iff.rfl ⟨?_,λ⟨e,he,h⟩=>⟨e,Dv _ he,h⟩⟩;rintro⟨e,he,h⟩;rcases Ah.1 he with rfl|he
  ·rw[hn]at h;cases h
  ·exact⟨e,he,h⟩)
 refine⟨⟨⟨λe he=>?_,?_,λe he b hb=>?_⟩,m.os,m.tape,m.output,m.size,m.blk,m.xlt,m.g0,m.gn,m.gw,m.lnk,m.shp⟩,hO⟩
 ·rw[hO]
  rcases Ah.1 he with rfl|he
  ·exact .inl ⟨rfl,hn⟩
  ·exact m.hok.ent e he
 ·refine D3.2 ⟨λe he b b' hb _=>?_,m.hok.inj⟩
  rw[hn]at hb;cases hb
 ·rcases Ah.1 he with rfl|he
  ·rw[hn]at hb;cases hb
  ·exact m.hok.own e he b hb
def DC (H:Hp)(esz:Nat):D->Option (List D×Prop)
 | .sl _ sz es=>some (es,sz=esz)
 | .osl k g sz i len=>match Hp.get H k with
  |some e=>some ((e.es.drop i).take len,g=e.g/\sz=e.sz/\sz=esz/\i+len<=e.es.length)
  |none=>none
 | .prim (.slice none 0 0)=>some ([],True)
 |_=>none
structure KI (ρ:Lk)(O:Nat->Prop)(w:World)(esz:Nat)(es:List D)(a:Addr)(f:Nat->Value):Prop where
 cell:∀j,j<es.length*esz->w.cell? (a.add j)=some (f j)
 one:∀j,j<es.length*esz->one (f j)=true
 siz:∀(i:Nat) (e:D),es[i]?=some e->e.cells.length=esz
 rep:∀(i:Nat) (e:D) (j:Nat) (d:D),es[i]?=some e->e.cells[j]?=some d->AG ρ O w d (f (i*esz+j))
structure Il (ρ:Lk)(O:Nat->Prop)(w:World)(esz:Nat)(es:List D)(f:Nat->Value):Prop where
 one:∀j,j<es.length*esz->one (f j)=true
 siz:∀(i:Nat) (e:D),es[i]?=some e->e.cells.length=esz
 rep:∀(i:Nat) (e:D) (j:Nat) (d:D),es[i]?=some e->e.cells[j]?=some d->AG ρ O w d (f (i*esz+j))
theorem KI.srcv {ρ:Lk}{O:Nat->Prop}{w:World}{esz:Nat}{es:List D}{a:Addr}{f:Nat->Value}(h:KI ρ O w esz es a f):Il ρ O w esz es f:=⟨h.one,h.siz,h.rep⟩
theorem IY {esz:Nat}{d:D}{v:Value}{es:List D}{p:Prop}(m:AQ C F ρ H w)(h:DC H esz d=some (es,p))(hp:p)(hr:AG ρ (AF F.X ρ H) w d v):
  (v=.slice none 0 0/\es=[])\/∃a c f,v=.slice (some a) es.length c/\es.length<=c/\KI ρ (AF F.X ρ H) w esz es a f:=by
 unfold DC at h;split at h<;>try(cases h;done)
 ·cases h
  cases hr with
  |nil=>exact .inl ⟨rfl,rfl⟩
  |emp a=>exact .inr ⟨a,0,λ_=>undef,rfl,by simp,λj hj=>by simp at hj,λj hj=>by simp at hj,λi e h=>by simp at h,λi e j d h=>by simp at h⟩
  |sl f hl hc hO hb hz hcell ho hh=>
   subst hp;refine .inr ⟨_,_,f,by rw[hl],by omega,λj hj=>?_,λj hj=>ho j (by rw[<-hl];exact hj),hz,hh⟩;rw[E0];exact hcell j (by rw[<-hl];exact hj)
 ·rename_i k g sz i len
  split at h<;>try(cases h;done)
  rename_i e he;cases h;obtain⟨rfl,rfl,rfl,hle⟩:=hp;obtain⟨hm,hk⟩:=Hp.get_mem he;cases hr with
  |onil=>exact .inl ⟨rfl,by simp⟩
  |osl hr hb hc hs hmx=>
   rename_i cap b T cs fz;rw[<-hk]at hr;obtain⟨cs',h1,h2⟩:=m.atC hm hr hb;rw[hb]at h1;cases h1;have hlen:((e.es.drop i).take len).length=len:=by simp;omega
   have hin:∀j,j<len*e.sz->i*e.sz+j<cs.size:=λj hj=>by
    have:(i+len)*e.sz<=e.es.length*e.sz:=Br _ hle
    rw[Ba]at this;have:=h2.len;omega
   have hget:∀(q:Nat) (d:D),((e.es.drop i).take len)[q]?=some d->e.es[i+q]?=some d:=λq d hq=>by
    rw[Cx]at hq;split at hq
    ·rwa [Es]at hq
    ·cases hq
   refine .inr ⟨_,cap,λj=>cs.getD (i*e.sz+j) undef,by rw[hlen],by omega,λj hj=>?_,λj hj=>?_,λq d hq=>h2.siz _ d (hget q d hq),λq d j c hq hc=>?_⟩
   ·rw[hlen]at hj
    have:=hin j hj
    rw[E0];simp[World.cell?,hb,this]
   ·rw[hlen]at hj
    have h':=hin j hj
    have:=h2.one (i*e.sz+j) (cs[i*e.sz+j]) (BF h')
    simpa[AT,BF h']using this
   ·have:=h2.rep (i+q) d j c (hget q d hq) hc
    rw[Ba,Fw]at this;exact this
 ·cases h
  cases hr;exact .inl ⟨rfl,rfl⟩
def Cf (tt:Nat->Option AL)(H:Hp)(n k:Nat)(g:Operand->D):Op->Option (D×Hp×Prop)
 | .call ⟨.builtin .append,args,tys⟩=>match args.toList with
  | [s,x]=>match tys.toList with
   | [t,t']=>match Nat.beq t t' with
    |true=>match tt t with
     |some i=>match i.ti with
      | .slice e esz eby _=>match DC H esz (g x)with
       |some (news,p)=>match g s with
        | .osl k1 g1 sz 0 len=>match Hp.get H k1 with
         |some e1=>some (.osl k n esz 0 (len+news.length),⟨k,n,e,esz,e1.es.take len++news⟩::Hp.del H k1,
           p/\g1=e1.g/\sz=e1.sz/\sz=esz/\e1.T=e/\len<=e1.es.length/\(len+news.length)*eby<=140737488355328/\1<=eby/\1<=esz)
         |none=>none
        | .prim (.slice none 0 0)=>some (.osl k n esz 0 news.length,⟨k,n,e,esz,news⟩::H,p/\news.length*eby<=140737488355328/\1<=eby/\1<=esz)
        |_=>none
       |none=>none
      |_=>none
     |none=>none
    |false=>none
   |_=>none
  |_=>none
 |_=>none
theorem Np {P:Program}{t e:Nat}{ty:Nat}{i:TypeInfo}(ht:P.underlying t=some (.slice e))(hi:P.info? e=some i){ao:Option Addr}{len cap:Nat}(hlc:len<=cap):
  (Builtin.append_ #[t,t] ty #[.slice ao len cap,.slice none 0 0]).run P w=.ok (.slice ao len cap) w:=by
 cases ao<;>simp[Builtin.append_,BS ht,sizeOf,typeInfo,hi,Builtin.lenOf,hlc,run_firstCells_none,storeCells]
theorem Ow {O:Nat->Prop}{e:AK}{k g T len:Nat}{news:List D}{f:Nat->Value}{cs cs':Array Value}(h:B2 ρ O w e cs)(hl:len<=e.es.length)(hs:Il ρ O w e.sz news f)
  (hlow:∀q,q<len*e.sz->cs'.getD q undef=cs.getD q undef) (hmid:∀j,j<news.length*e.sz->cs'.getD (len*e.sz+j) undef=f j) (hsize:(len+news.length)*e.sz<=cs'.size)
  (hone:∀(q:Nat) (v:Value),cs'[q]?=some v->one v=true):B2 ρ O w ⟨k,g,T,e.sz,e.es.take len++news⟩ cs':=by
 have hlen:(e.es.take len).length=len:=by simp;omega
 have hget:∀(i:Nat) (d:D),(e.es.take len++news)[i]?=some d->(i<len/\e.es[i]?=some d)\/(len<=i/\news[i-len]?=some d):=λi d hd=>by
  rcases Aq i len with hi|hi
  ·rw[CT (by omega),Cx,AM hi]at hd;exact .inl ⟨hi,hd⟩
  ·rw[B8 (by omega),hlen]at hd;exact .inr ⟨hi,hd⟩
 refine⟨by dsimp only;rw[B9,hlen];exact hsize,λi d hd=>?_,hone,λi d j c hd hc=>?_⟩
 ·rcases hget i d hd with⟨_,h1⟩|⟨_,h1⟩
  ·exact h.siz i d h1
  ·exact hs.siz _ d h1
 ·dsimp only at hd⊢
  rcases hget i d hd with⟨hi,h1⟩|⟨hi,h1⟩
  ·have hj:j<e.sz:=by rw[<-h.siz i d h1];exact(Ay.1 hc).1
   rw[hlow]
   ·exact h.rep i d j c h1 hc
   ·have:(i+1)*e.sz<=len*e.sz:=Br _ hi
    rw[Ba]at this;omega
  ·have hj:j<e.sz:=by rw[<-hs.siz _ d h1];exact(Ay.1 hc).1
   have hil:i-len<news.length:=(Ay.1 h1).1;have e1:i*e.sz+j=len*e.sz+((i-len)*e.sz+j):=by
    have:i=len+(i-len):=by omega
    conv=>lhs;rw[this,Ba]
    omega
   rw[e1,hmid]
   ·exact hs.rep _ d j c h1 hc
   ·have:(i-len+1)*e.sz<=news.length*e.sz:=Br _ hil
    rw[Ba]at this;omega
structure GI (P:Program)(t e esz eby:Nat)(ez:Value):Prop where
 under:P.underlying t=some (.slice e)
 inf:∃i:TypeInfo,P.info? e=some i/\i.size=esz/\i.bytes=eby/\i.zero=some ez
 zs:ez.cells.size=esz
 zo:∀(j:Nat) (x:Value),ez.cells[j]?=some x->one x=true
theorem KL {z:Array Value}(hz:∀(j:Nat) (x:Value),z[j]?=some x->one x=true)(n:Nat):∀(q:Nat) (v:Value),(Builtin.zeroCells z n)[q]?=some v->one v=true:=λq v hv=>by
 unfold Builtin.zeroCells at hv;rw[Array.getElem?_map]at hv;cases hr:(Array.range (n*z.size))[q]? with
 |none=>rw[hr]at hv;cases hv
 |some i=>
  rw[hr]at hv;simp only[Fu,Af]at hv;have hi:i<n*z.size:=by
   obtain⟨h1,h2⟩:=Bo.1 hr;simp at h2 h1;omega
  have hpos:0<z.size:=by
   rcases LU z.size with h|h
   ·rw[h]at hi;simp at hi
   ·exact h
  have hlt:=Gn i hpos;rw[<-hv,getElem!_pos z (i%z.size) hlt];exact hz (i%z.size) _ (BF hlt)
theorem Ul {P:Program}{t e esz eby ty:Nat}{ez:Value}(T:GI P t e esz eby ez){b len cap c:Nat}{cs:Array Value}(hb:w.heap[b]?=some (.cells cs e (0,0)))(hlc:len*esz<=cs.size){news:List D}{a:Addr}{f:Nat->Value}{O:Nat->Prop}
  (hs:KI ρ O w esz news a f) (hg:cap<len+news.length) (hby:(len+news.length)*eby<=140737488355328) (h1:1<=eby):
  (Builtin.append_ #[t,t] ty #[.slice (some ⟨b,0,none⟩) len cap,.slice (some a) news.length c]).run P w =
   .ok (.slice (some ⟨w.heap.size,0,none⟩) (len+news.length) (grownCap w (len+news.length) cap e))
    (w.drew.alloc (.cells ((cs.toList.take (len*esz)).toArray++((List.range (news.length*esz)).map f).toArray++Builtin.zeroCells ez.cells (grownCap w (len+news.length) cap e-(len+news.length))) e)):=by
 obtain⟨i,i1,rfl,rfl,i4⟩:=T.inf;have hmx:len+news.length<=140737488355328:=Az (by have:=J5 (len+news.length) h1;omega) hby;exact run_append_grow (P:=P) w t ty e i ez T.under i1 i4 ⟨b,0,none⟩ len cap (cs.toList.take (len*i.size)) (by simp;omega) (λj v hv=>by
   rw[Cx]at hv;split at hv
   ·rw[E0]
    simp only[FC]at hv;simp[World.cell?,hb,hv]
   ·cases hv) a news.length c ((List.range (news.length*i.size)).map f) (by simp) (λj v hv=>by
   rw[Bf]at hv
   by_cases hj:j<news.length*i.size
   ·rw[FZ hj]at hv;cases hv;exact hs.cell j hj
   ·rw[Du (by simp;omega)]at hv;cases hv) hg (by omega) (growslice_fits hg hby)
structure LF (P:Program)(w:World)(t u ty e esz eby:Nat)(ez sv:Value)(n:Nat)(f:Nat->Value):Prop where
 room:∀(b len cap:Nat) (cs:Array Value),w.heap[b]?=some (.cells cs e (0,0))->len+n<=cap->len*esz+n*esz<=cs.size ->
  (Builtin.append_ #[t,u] ty #[.slice (some ⟨b,0,none⟩) len cap,sv]).run P w=.ok (.slice (some ⟨b,0,none⟩) (len+n) cap) (w.setRow b (cs.toList.take (len*esz)++(List.range (n*esz)).map f++cs.toList.drop (len*esz+((List.range (n*esz)).map f).length)).toArray)
 grow:∀(b len cap:Nat) (cs:Array Value),w.heap[b]?=some (.cells cs e (0,0))->len*esz<=cs.size->cap<len+n->(len+n)*eby<=140737488355328 ->
  (Builtin.append_ #[t,u] ty #[.slice (some ⟨b,0,none⟩) len cap,sv]).run P w=.ok (.slice (some ⟨w.heap.size,0,none⟩) (len+n) (grownCap w (len+n) cap e))
   (w.drew.alloc (.cells ((cs.toList.take (len*esz)).toArray++((List.range (n*esz)).map f).toArray++Builtin.zeroCells ez.cells (grownCap w (len+n) cap e-(len+n))) e))
 none_:0<n->n*eby<=140737488355328->(Builtin.append_ #[t,u] ty #[.slice none 0 0,sv]).run P w=.ok (.slice (some ⟨w.heap.size,0,none⟩) n (grownCap w n 0 e))
   (w.drew.alloc (.cells (((List.range (n*esz)).map f).toArray++Builtin.zeroCells ez.cells (grownCap w n 0 e-n)) e))
 zero_:n=0->(Builtin.append_ #[t,u] ty #[.slice none 0 0,sv]).run P w=.ok (.slice none 0 0) w
theorem LP {O:Nat->Prop}{k g sz len cap b T:Nat}{cs:Array Value}{fz:Nat×Nat}(hr:ρ k g=some b)(hb:w.heap[b]?=some (.cells cs T fz))(hc:len<=cap)(hs:cap*sz=cs.size)(hm:cap<=maxLen):
  AG ρ O w (.osl k g sz 0 len) (.slice (some ⟨b,0,none⟩) len cap):=by
 have:=AG.osl (O:=O) (ρ:=ρ) (k:=k) (g:=g) (i:=0) (sz:=sz) (len:=len) hr hb hc (by rw[B5];exact hs) (by rw[B5];exact hm)
 rwa [GQ]at this
theorem iU {O:Nat->Prop}{k g sz len cap b T:Nat}{cs:Array Value}{fz:Nat×Nat}(hr:ρ k g=some b)(hb:w.heap[b]?=some (.cells cs T fz))(hc:len<=cap)(hs:cap*sz=cs.size)(hm:cap<=maxLen):
  AG ρ O w (.oxl k g sz 0 len cap) (.slice (some ⟨b,0,none⟩) len cap):=by
 have:=AG.oxl (O:=O) (ρ:=ρ) (k:=k) (g:=g) (i:=0) (sz:=sz) (len:=len) hr hb hc (by rw[B5];exact hs) (by rw[B5];exact hm)
 rwa [GQ]at this
structure EW (C:AZ)(F:AI)(H:Hp)(ρ:Lk)(w:World)(n:Nat)(d:D)(H':Hp)(v:Value)(ρ':Lk)(w':World):Prop where
 mem:AQ C F ρ' H' w'
 ext:Ao ρ (AF F.X ρ H) w ρ' (AF F.X ρ' H') w'
 far:∀k g',g'≠n->ρ' k g'=ρ k g'
 rep:AG ρ' (AF F.X ρ' H') w' d v
theorem GV {xs ys:Array Value}{q:Nat}(h:q<xs.size):(xs++ys).getD q undef=xs.getD q undef:=by
 simp only[AT];rw[D5 h]
theorem Nr {xs ys:Array Value}{q:Nat}(h:xs.size<=q):(xs++ys).getD q undef=ys.getD (q-xs.size) undef:=by
 simp only[AT];rw[D4 h]
theorem P6 {t e0 esz eby ty n k:Nat}{ez:Value}(T:GI C.P t e0 esz eby ez){H1 H2:Hp}{e:AK}{b len cap:Nat}(m:AQ C F ρ (H1++e::H2) w)(hr:ρ e.k e.g=some b)(hT:e.T=e0)(hsz:esz=e.sz)(hle:len<=e.es.length)
  {cs:Array Value} (hbk:w.heap[b]?=some (.cells cs e.T (0,0))) (hcs:cap*esz=cs.size) (hcap:cap<=maxLen) (fr:∀k,ρ k n=none) (hlt:∀e'∈H1++e::H2,e'.g≠n) {news:List D} {f:Nat->Value} {u:Nat} {sv:Value}
  (S:LF C.P w t u ty e0 esz eby ez sv news.length f) (hs:Il ρ (AF F.X ρ (H1++e::H2)) w esz news f) (hby:(len+news.length)*eby<=140737488355328) (h1:1<=eby):
  ∃v ρ' w',(Builtin.append_ #[t,u] ty #[.slice (some ⟨b,0,none⟩) len cap,sv]).run C.P w=.ok v w' /\
   EW C F (H1++e::H2) ρ w n (.osl k n esz 0 (len+news.length)) (⟨k,n,e0,esz,e.es.take len++news⟩::(H1++H2)) v ρ' w':=by
 subst hT hsz;obtain⟨cs0,q1,q2⟩:=m.atC (e:=e) (by simp) hr hbk;have hz0:e.sz≠0:=m.szC (e:=e) (by simp) hr hbk;rw[hbk]at q1;cases q1;have hlc:len*e.sz<=cs.size:=Az (Br _ hle) q2.len;have hmx:len+news.length<=maxLen:=by
  have:=J5 (len+news.length) h1
  simp only[maxLen];omega
 have hlim:∀q,q<len*e.sz->q<cs.size:=λq hq=>by omega
 by_cases hroom:len+news.length<=cap
 ·have hfit:len*e.sz+news.length*e.sz<=cs.size:=by rw[<-hcs,<-Ba];exact Br _ hroom
  have run:=S.room b len cap cs hbk hroom hfit;generalize hcs':(cs.toList.take (len*e.sz)++(List.range (news.length*e.sz)).map f++cs.toList.drop (len*e.sz+((List.range (news.length*e.sz)).map f).length)).toArray=cs' at run;have hsz':cs'.size=cs.size:=by rw[<-hcs'];simp;omega
  have get:∀q,cs'[q]?=if q<len*e.sz then cs[q]? else if q<len*e.sz+news.length*e.sz then some (f (q-len*e.sz))else cs[q]?:=λq=>by
   rw[<-hcs'];simp only[EI];rw[Cr];have hl1:(cs.toList.take (len*e.sz)).length=len*e.sz:=by simp;omega
   rcases Aq q (len*e.sz)with hq|hq
   ·rw[CT (by omega),AM hq,Cx,AM hq];simp
   ·rw[B8 (by omega),BU,hl1]
    rcases Aq (q-len*e.sz) (news.length*e.sz)with hq2|hq2
    ·rw[CT (by simp;omega),DK,Bf,FZ hq2];rfl
    ·rw[B8 (by simp;omega),BU,Es]
     simp only[BP,List.length_range];rw[show len*e.sz+news.length*e.sz+(q-len*e.sz-news.length*e.sz)=q from by omega];simp
  have ho:B2 ρ (AF F.X ρ (H1++e::H2)) w ⟨e.k,e.g,e.T,e.sz,e.es.take len++news⟩ cs':=Ow q2 hle hs
   (λq hq=>by rw[AT,get,AM hq,<-AT])
   (λj hj=>by rw[AT,get,BU,DK,show len*e.sz+j-len*e.sz=j from by omega];rfl)
   (by rw[hsz',Ba];exact hfit) (λq v hv=>by
    rw[get]at hv;split at hv
    ·exact q2.one _ _ hv
    ·split at hv
     ·cases hv;exact hs.one _ (by omega)
     ·exact q2.one _ _ hv)
  obtain⟨m1,x1⟩:=m.write (e':=⟨e.k,e.g,e.T,e.sz,e.es.take len++news⟩) hr hbk rfl rfl rfl rfl hsz' ho;obtain⟨m2,x2⟩:=m1.rename (e:=⟨e.k,e.g,e.T,e.sz,e.es.take len++news⟩) (k:=k) (n:=n) hr (fr k) (λe' he'=>by
   rcases BR.1 he' with h|h
   ·exact hlt e' (by simp[h])
   ·rcases Ah.1 h with rfl|h
    ·exact hlt e (by simp)
    ·exact hlt e' (by simp[h]))
  rw[Lx hbk]at run;refine⟨_,ρ.put k n b,_,run,?_⟩;refine⟨m2,x1.trans x2,λk' g' hg=>by unfold Lk.put;rw[AN λh=>hg h.2],?_⟩;have hlt:b<w.heap.size:=(Bo.1 hbk).1;exact LP (b:=b) (T:=e.T) (cs:=cs') (fz:=(0,0)) (CO _ _ _ _) (by rw[Ur _ _ _ _ _ hlt,AM rfl]) hroom (by rw[hsz',<-hcs]) hcap
 ·have run:=S.grow b len cap cs hbk hlc (Nat.lt_of_not_le hroom) hby
  generalize hcap':grownCap w (len+news.length) cap e.T=cap' at run;have hge:len+news.length<=cap':=by rw[<-hcap'];exact grownCap_ge ..
  have hmx':cap'<=maxLen:=by rw[<-hcap'];exact grownCap_le_maxLen _ _ _ _ hmx
  generalize hcs':(cs.toList.take (len*e.sz)).toArray++((List.range (news.length*e.sz)).map f).toArray++Builtin.zeroCells ez.cells (cap'-(len+news.length))=cs' at run;have s1:(cs.toList.take (len*e.sz)).toArray.size=len*e.sz:=by simp;omega
  have s2:((List.range (news.length*e.sz)).map f).toArray.size=news.length*e.sz:=by simp
  have hsz':cs'.size=cap'*e.sz:=by
   rw[<-hcs',DP,DP,s1,s2,size_zeroCells,T.zs,<-Ba,<-Ba]
   congr 1;omega
  obtain⟨m0,hO0⟩:=m.sub (H':=H1++H2) (NI (H7 _) (NH _ _));have x0:Ao ρ (AF F.X ρ (H1++e::H2)) w ρ (AF F.X ρ (H1++H2)) w.drew:=
   ⟨Ad _,λ_ _ _ h=>h,λb' _ h=>⟨λh'=>h (hO0 b' h'),rfl⟩,λ_ cs _ _ h=>⟨cs,_,h,rfl⟩⟩
  have ho:B2 ρ (AF F.X ρ (H1++H2)) w.drew ⟨k,n,e.T,e.sz,e.es.take len++news⟩ cs':=by
   have hlow:∀q,q<len*e.sz->cs'.getD q undef=cs.getD q undef:=λq hq=>by
    rw[<-hcs',GV (by rw[DP];omega),GV (by omega)];simp only[AT,EI,Cx,AM hq];simp
   have hmid:∀j,j<news.length*e.sz->cs'.getD (len*e.sz+j) undef=f j:=λj hj=>by
    rw[<-hcs',GV (by rw[DP];omega),Nr (by omega),s1,show len*e.sz+j-len*e.sz=j from by omega];simp[AT,hj]
   refine(Ow q2 hle hs hlow hmid (by rw[hsz'];exact Br _ hge) λq v hv=>?_).mono x0;rw[<-hcs']at hv;rcases Aq q (len*e.sz+news.length*e.sz)with hq|hq
   ·rw[D5 (by rw[DP];omega)]at hv
    rcases Aq q (len*e.sz)with hq2|hq2
    ·rw[D5 (by omega)]at hv
     simp only[EI,Cx,AM hq2]at hv;exact q2.one q v (by simpa using hv)
    ·rw[D4 (by omega),s1]at hv
     simp only[EI,Bf]at hv;rw[FZ (by omega)]at hv;cases hv;exact hs.one _ (by omega)
   ·rw[D4 (by rw[DP];omega)]at hv
    exact KL T.zo _ _ v hv
  obtain⟨m1,x1⟩:=m0.drew.alloc ⟨k,n,e.T,e.sz,e.es.take len++news⟩ cs' (fr k) (λe' he' h=>hlt e' (by rcases BR.1 he' with h|h<;>simp[h]) h.2) hz0 ho;refine⟨_,_,_,run,m1,x0.trans x1,λk' g' hg=>by unfold Lk.put;rw[AN λh=>hg h.2],?_⟩;exact LP (b:=w.heap.size) (T:=e.T) (cs:=cs') (fz:=(0,0)) (CO _ _ _ _) (by rw[Cc];exact AM rfl) hge hsz'.symm hmx'
theorem Ll {t e0 esz eby ty:Nat}{P:Program}{O:Nat->Prop}{ez:Value}(T:GI P t e0 esz eby ez)(h1:1<=eby){news:List D}{a:Addr}{c:Nat}{f:Nat->Value}(hs:KI ρ O w esz news a f):
  LF P w t t ty e0 esz eby ez (.slice (some a) news.length c) news.length f where
 room b len cap cs hbk hroom hfit:=by
  obtain⟨i,i1,rfl,i3,i4⟩:=T.inf;exact run_append_room (P:=P) w t ty e0 i T.under i1 b len cap cs hbk a news.length c ((List.range (news.length*i.size)).map f) (by simp) (λj v hv=>by
   rw[Bf]at hv
   by_cases hj:j<news.length*i.size
   ·rw[FZ hj]at hv;cases hv;exact hs.cell j hj
   ·rw[Du (by simp;omega)]at hv;cases hv) (λu hu=>by
    rw[Mb];obtain⟨j,hj,rfl⟩:=Bw.1 hu;exact hs.one j (by simpa using hj)) hroom (by simp;exact hfit)
 grow b len cap cs hb hlc hg hby:=Ul (P:=P) (ty:=ty) (c:=c) T hb hlc hs hg hby h1
 none_ h0 hby:=by
  obtain⟨i,i1,rfl,rfl,i4⟩:=T.inf;have hmx:news.length<=maxLen:=by
   have:=J5 news.length h1
   simp only[maxLen];omega
  exact run_append_nil (P:=P) w t ty e0 i ez T.under i1 i4 a news.length c ((List.range (news.length*i.size)).map f) (by simp) (λj v hv=>by
   rw[Bf]at hv
   by_cases hj:j<news.length*i.size
   ·rw[FZ hj]at hv;cases hv;exact hs.cell j hj
   ·rw[Du (by simp;omega)]at hv;cases hv) h0 (by simp only[maxLen]at hmx;omega) (by omega)
 zero_ h0:=by
  obtain⟨i,i1,rfl,rfl,i4⟩:=T.inf;simp[Builtin.append_,BS T.under,sizeOf,typeInfo,i1,Builtin.lenOf,Builtin.firstCells,loadCells,loadCellsFrom,h0]
theorem append_nil {t e0 esz eby ty n k:Nat}{ez:Value}(T:GI C.P t e0 esz eby ez)(m:AQ C F ρ H w)(fr:∀k,ρ k n=none)(hlt:∀e'∈H,e'.g≠n){news:List D}{f:Nat->Value}{u:Nat}{sv:Value}
  (S:LF C.P w t u ty e0 esz eby ez sv news.length f) (hs:Il ρ (AF F.X ρ H) w esz news f) (hby:news.length*eby<=140737488355328) (h1:1<=eby) (hz1:1<=esz):
  ∃v ρ' w',(Builtin.append_ #[t,u] ty #[.slice none 0 0,sv]).run C.P w=.ok v w' /\
   EW C F H ρ w n (.osl k n esz 0 news.length) (⟨k,n,e0,esz,news⟩::H) v ρ' w':=by
 rcases LU news.length with h0|h0
 ·have hn:=Hz h0
  subst hn;obtain⟨m1,hO⟩:=m.ghost (k:=k) (n:=n) (T:=e0) (sz:=esz) (fr k);exact⟨.slice none 0 0,ρ,w,S.zero_ rfl,m1,by rw[hO];exact .refl _ _ _,λ_ _ _=>rfl,.onil _ _ _⟩
 ·have hmx:news.length<=maxLen:=by
   have:=J5 news.length h1
   simp only[maxLen];omega
  have run:=S.none_ h0 hby;generalize hcap':grownCap w news.length 0 e0=cap' at run;have hge:news.length<=cap':=by rw[<-hcap'];exact grownCap_ge ..
  have hmx':cap'<=maxLen:=by rw[<-hcap'];exact grownCap_le_maxLen _ _ _ _ hmx
  generalize hcs':((List.range (news.length*esz)).map f).toArray++Builtin.zeroCells ez.cells (cap'-news.length)=cs' at run;have s2:((List.range (news.length*esz)).map f).toArray.size=news.length*esz:=by simp
  have hsz':cs'.size=cap'*esz:=by
   rw[<-hcs',DP,s2,size_zeroCells,T.zs,<-Ba]
   congr 1;omega
  have hmid:∀j,j<news.length*esz->cs'.getD j undef=f j:=λj hj=>by
   rw[<-hcs',GV (by omega)];simp[AT,hj]
  have ho:B2 ρ (AF F.X ρ H) w.drew ⟨k,n,e0,esz,news⟩ cs':=by
   refine B2.mono ⟨?_,hs.siz,λq v hv=>?_,λq d j c hd hc=>?_⟩ (Ao.drew ρ (AF F.X ρ H) w)
   ·dsimp only;rw[hsz'];exact Br _ hge
   ·rw[<-hcs']at hv
    rcases Aq q (news.length*esz)with hq|hq
    ·rw[D5 (by omega)]at hv
     simp only[EI,Bf]at hv;rw[FZ hq]at hv;cases hv;exact hs.one _ hq
    ·rw[D4 (by omega)]at hv
     exact KL T.zo _ _ v hv
   ·dsimp only at hd⊢
    have hj:j<esz:=by rw[<-hs.siz q d hd];exact(Ay.1 hc).1
    have hq:q<news.length:=(Ay.1 hd).1;rw[hmid]
    ·exact hs.rep q d j c hd hc
    ·have:(q+1)*esz<=news.length*esz:=Br _ hq
     rw[Ba]at this;omega
  obtain⟨m1,x1⟩:=m.drew.alloc ⟨k,n,e0,esz,news⟩ cs' (fr k) (λe' he' h=>hlt e' he' h.2) (show esz≠0 by omega) ho;refine⟨_,_,_,run,m1,(Ao.drew _ _ _).trans x1,λk' g' hg=>by unfold Lk.put;rw[AN λh=>hg h.2],?_⟩;exact LP (b:=w.heap.size) (T:=e0) (cs:=cs') (fz:=(0,0)) (CO _ _ _ _) (by rw[Cc];exact AM rfl) hge hsz'.symm hmx'
theorem L3 {tt:Nat->Option AL}{o:Oper}{g:Operand->D}{ev:Operand->Value}{n k:Nat}{d:D}{H':Hp}{p:Prop}(htt:A7 C.P tt)(m:AQ C F ρ H w)(fr:∀k,ρ k n=none)(hlt:∀e∈H,e.g≠n)
  (hg:∀x,AG ρ (AF F.X ρ H) w (g x) (ev x)) (h:Cf tt H n k g o.op=some (d,H',p)) (hp:p):
  ∃v ρ' w',(execOp ev o).run C.P w=.ok (.value v) w'/\EW C F H ρ w n d H' v ρ' w':=by
 unfold Cf at h;split at h<;>try(cases h;done)
 rename_i args tys ho;split at h<;>try(cases h;done)
 rename_i s x hargs;split at h<;>try(cases h;done)
 rename_i t t' htys;split at h<;>try(cases h;done)
 rename_i htt';obtain rfl:=Ae htt';split at h<;>try(cases h;done)
 rename_i i hi;split at h<;>try(cases h;done)
 rename_i e esz eby ez hk;split at h<;>try(cases h;done)
 rename_i news q hsrc;obtain⟨k1,⟨inf,k2,k3,k4,k5⟩,k6,k7⟩:=CM (htt _ _ hi) hk;have T:GI C.P t e esz eby ez:=⟨k1,⟨inf,k2,k3,k4,k5⟩,k6,k7⟩
 have hargs':args = #[s,x]:=by rw[<-D6 (xs:=args),hargs]
 have htys':tys = #[t,t]:=by rw[<-D6 (xs:=tys),htys]
 subst hargs' htys';have fin:∀v1 v2,ev s=v1->ev x=v2->(∃v ρ' w',(Builtin.append_ #[t,t] o.type #[v1,v2]).run C.P w=.ok v w'/\EW C F H ρ w n d H' v ρ' w') ->
   ∃v ρ' w',(execOp ev o).run C.P w=.ok (.value v) w'/\EW C F H ρ w n d H' v ρ' w':=by
  rintro v1 v2 h1 h2 ⟨v,ρ',w',h3,h4⟩;refine⟨v,ρ',w',?_,h4⟩;unfold execOp;simp only[ho,resolve,invoke,builtin,Sem.run_bind,Sem.run_pure,Result.andThen_ok,List.map_toArray,BY,List.map_nil,h1,h2,h3]
 have hx:=hg x;have hsr:=hg s;generalize hvx:ev x=vx at hx;generalize hvs:ev s=vs at hsr;refine fin vs vx hvs hvx ?_;split at h<;>try(cases h;done)
 ·rename_i k0 g1 sz len hgs
  split at h<;>try(cases h;done)
  rename_i e1 he1;simp only[Af,Au]at h;obtain⟨rfl,rfl,rfl⟩:=h;obtain⟨hq,rfl,rfl,rfl,rfl,hle,hby,hb1,hs1⟩:=hp;obtain⟨hm,hke⟩:=Hp.get_mem he1;obtain⟨H1,H2,a1,_,a3⟩:=GM e1 he1;rw[hgs]at hsr;rw[a3];rcases IY m hsrc hq hx with⟨rfl,rfl⟩|⟨a,c,f,rfl,hc,hs⟩
  ·
   simp only[Gl,Fc,Dd];cases hsr with
   |onil=>
    obtain⟨m0,hO0⟩:=m.sub (H':=H1++H2) (by rw[a1];exact NI (H7 _) (NH _ _));obtain⟨m1,hO⟩:=m0.ghost (k:=k) (n:=n) (T:=e1.T) (sz:=e1.sz) (fr k);refine⟨_,ρ,w,Np k1 k2 (Ad _),by simpa using m1,?_,λ_ _ _=>rfl,.onil _ _ _⟩;simp only[Jz];rw[hO];exact⟨Ad _,λ_ _ _ h=>h,λb' _ h=>⟨λh'=>h (hO0 b' h'),rfl⟩,λ_ cs _ _ h=>⟨cs,_,h,rfl⟩⟩
   |osl hr hb hc hs hmx=>
    rename_i cap b T' cs fz;rw[<-hke]at hr;obtain⟨cs0,q1,q2⟩:=m.atC hm hr hb;rw[hb]at q1;cases q1;rw[a1]at m;have q3:B2 ρ (AF F.X ρ (H1++e1::H2)) w ⟨e1.k,e1.g,e1.T,e1.sz,e1.es.take len⟩ cs:=by
     rw[<-a1];refine⟨by dsimp only;simp only[Ds];exact Az (Br _ (Nat.min_le_right _ _)) q2.len,λi d hd=>?_,q2.one,λi d j c hd hc=>?_⟩
     ·dsimp only at hd;rw[Cx]at hd;split at hd
      ·exact q2.siz i d hd
      ·cases hd
     ·dsimp only at hd⊢;rw[Cx]at hd;split at hd
      ·exact q2.rep i d j c hd hc
      ·cases hd
    obtain⟨m1,x1⟩:=m.write (e':=⟨e1.k,e1.g,e1.T,e1.sz,e1.es.take len⟩) hr hb rfl rfl rfl rfl rfl q3;have hsame:World.setBlk w b cs e1.T=w:=by
     unfold World.setBlk
     have:w.heap.setIfInBounds b (.cells cs e1.T (0,0))=w.heap:=by
      apply Array.ext_getElem?;intro q;rw[DE]
      by_cases hq:b=q
      ·subst hq;rw[AM rfl,AM (Bo.1 hb).1,hb]
      ·rw[AN hq]
     rw[this]
    rw[hsame]at m1 x1;obtain⟨m2,x2⟩:=m1.rename (e:=⟨e1.k,e1.g,e1.T,e1.sz,e1.es.take len⟩) (k:=k) (n:=n) hr (fr k) (λe' he'=>by
     rcases BR.1 he' with h|h
     ·exact hlt e' (by rw[a1];simp[h])
     ·rcases Ah.1 h with rfl|h
      ·exact hlt e1 hm
      ·exact hlt e' (by rw[a1];simp[h]))
    refine⟨_,_,w,Np k1 k2 hc,m2,by rw[a1];exact x1.trans x2,λk' g' hg=>by unfold Lk.put;rw[AN λh=>hg h.2],?_⟩;have fin:=AG.osl (ρ:=ρ.put k n b) (O:=AF F.X (ρ.put k n b) (⟨k,n,e1.T,e1.sz,e1.es.take len⟩::(H1++H2))) (k:=k) (g:=n) (i:=0) (CO _ _ _ _) hb hc hs hmx;exact fin
  ·cases hsr with
   |onil=>
    obtain⟨m0,hO0⟩:=m.sub (H':=H1++H2) (by rw[a1];exact NI (H7 _) (NH _ _));have x0:Ao ρ (AF F.X ρ H) w ρ (AF F.X ρ (H1++H2)) w:=⟨Ad _,λ_ _ _ h=>h,λb' _ h=>⟨λh'=>h (hO0 b' h'),rfl⟩,λ_ cs _ _ h=>⟨cs,_,h,rfl⟩⟩
    have hs':Il ρ (AF F.X ρ (H1++H2)) w e1.sz news f:=⟨hs.one,hs.siz,λi e j d h1 h2=>(hs.rep i e j d h1 h2).mono x0⟩
    obtain⟨v,ρ',w',r1,r2⟩:=append_nil (ty:=o.type) (k:=k) T m0 fr (λe' he'=>hlt e' (by rw[a1];rcases BR.1 he' with h|h<;>simp[h])) (Ll (c:=c) T hb1 hs) hs' (by simpa using hby) hb1 hs1;refine⟨v,ρ',w',r1,?_⟩;simp only[B5,Jz,GP];exact⟨r2.mem,x0.trans r2.ext,r2.far,r2.rep⟩
   |osl hr hb hc' hcs hmx=>
    rename_i cap b T' cs fz;rw[<-hke]at hr;obtain⟨cs0,q1,q2⟩:=m.atC hm hr hb;rw[hb]at q1;cases q1;rw[a1]at m hlt hs;obtain⟨v,ρ',w',r1,r2⟩:=P6 (ty:=o.type) (k:=k) T m hr rfl rfl hle hb (by simpa using hcs) (by simpa using hmx) fr hlt (Ll (c:=c) T hb1 hs) hs.srcv hby hb1;rw[a1];refine⟨v,ρ',w',?_,r2⟩;simpa using r1
 ·rename_i hgs
  simp only[Af,Au]at h;obtain⟨rfl,rfl,rfl⟩:=h;obtain⟨hq,hby,hb1,hs1⟩:=hp;rw[hgs]at hsr;cases hsr;rcases IY m hsrc hq hx with⟨rfl,rfl⟩|⟨a,c,f,rfl,hc,hs⟩
  ·obtain⟨m1,hO⟩:=m.ghost (k:=k) (n:=n) (T:=e) (sz:=esz) (fr k)
   exact⟨_,ρ,w,Np k1 k2 (Ad _),m1,by rw[hO];exact .refl _ _ _,λ_ _ _=>rfl,.onil _ _ _⟩
  ·exact append_nil (ty:=o.type) (k:=k) T m fr hlt (Ll (c:=c) T hb1 hs) hs.srcv hby hb1 hs1
end
section
variable {C:AZ} {F:AI} {s:St} {ops:Array Oper} {o:Oper} {os:List Oper} {K:St->Prop}
theorem Pg:∀ {H:Hp} {k:Nat} {e:AK},e∈Hp.del H k->e∈H
 |e0::r,k,e,h=>by
  simp only[Hp.del]at h;split at h
  ·exact Dv _ h
  ·rcases Ah.1 h with rfl|h
   ·exact DF ..
   ·exact Dv _ (Pg h)
theorem Rg {tt:Nat->Option AL}{H:Hp}{n k:Nat}{g:Operand->D}{op:Op}{d:D}{H':Hp}{p:Prop}(h:Cf tt H n k g op=some (d,H',p))(hl:∀e∈H,e.g<n):∀e∈H',e.g<n+1:=by
 unfold Cf at h
 (repeat' split at h)<;>try(cases h;done)
 ·cases h
  intro e he;rcases Ah.1 he with rfl|he
  ·exact Ft _
  ·exact BK (hl e (Pg he))
 ·cases h
  intro e he;rcases Ah.1 he with rfl|he
  ·exact Ft _
  ·exact BK (hl e he)
theorem UJ {tt:Nat->Option AL}(k:Nat)(htt:A7 C.P tt){d:D}{H':Hp}{p:Prop}(hw:Am ops s.env o=some true)(he:Cf tt s.H s.n k (AV s.env) o.op=some (d,H',p))(hp:p)
  (h:AR C F ops os ⟨Ak s.env o.dst d,H',s.n+1⟩ K):AR C F ops (o::os) s K:=
 AR.step hw (λρ a w hs=>by
  obtain⟨v,ρ',w',h1,h2⟩:=L3 htt hs.mem (λk=>hs.fresh k _ (Ad _)) (λe he=>Nat.ne_of_lt (hs.gen e he)) (BN hs.env) he hp;exact⟨v,ρ',w',.inl h1,⟨h2.mem,h2.ext,λk g hg=>by rw[h2.far k g (by omega)];exact hs.fresh k g (by omega),h2.rep⟩,Rg he hs.gen⟩) h
end
def Ga (s:ByteArray):List D:=s.data.toList.map λb=>.prim (.int .u8 (b.toNat:Int))
theorem Gx (s:ByteArray):(Ga s).length=s.size:=by
 unfold Ga;rw[BP,GO];rfl
def G4 (s:ByteArray)(j:Nat):Value:=.int .u8 ((s.data.toList.getD j 0).toNat:Int)
theorem Nu (s:ByteArray):(List.range (s.size*1)).map (G4 s)=Lib.strCells s:=by
 refine List.ext_getElem? λj=>?_
 have hs:s.data.toList.length=s.size:=by rw[GO];rfl
 rw[Nat.mul_one,Bf,Lib.strCells,Bf];rcases Aq j s.size with h|h
 ·rw[FZ h,B3]
  simp[G4,GN,BI (show j<s.data.toList.length by omega)]
 ·rw[Du (by simp;omega),Du (by omega)];rfl
section
variable {C:AZ} {F:AI} {ρ:Lk} {H:Hp} {w:World}
theorem Nz {O:Nat->Prop}(s:ByteArray):Il ρ O w 1 (Ga s) (G4 s) where
 one _ _:=rfl
 siz i e h:=by
  unfold Ga at h;rw[Bf]at h;obtain⟨b,_,rfl⟩:=Gm.1 h;rfl
 rep i e j d h1 h2:=by
  unfold Ga at h1;rw[Bf]at h1;obtain⟨b,hb,rfl⟩:=Gm.1 h1;rcases j with _|j
  ·cases h2
   have:G4 s (i*1+0)=.int .u8 (b.toNat:Int):=by
    unfold G4;rw[Nat.mul_one,Fc,GN,hb];rfl
   rw[this];exact .prim _
  ·simp[D.cells]at h2
theorem P5 {P:Program}{t u ty e0:Nat}(T:GI P t e0 1 1 (.int .u8 0))(hu:P.underlying u=some .string)(s:ByteArray):
  LF P w t u ty e0 1 1 (.int .u8 0) (.string s) s.size (G4 s) where
 room b len cap cs hbk hroom hfit:=by
  obtain⟨i,i1,i2,i3,i4⟩:=T.inf;rw[Nu,Lib.strCells_length,Nat.mul_one];exact Lib.run_append_room_string w t u ty e0 i T.under hu i1 i2 b len cap cs hbk s hroom (by omega)
 grow b len cap cs hb hlc hg hby:=by
  obtain⟨i,i1,i2,i3,i4⟩:=T.inf;rw[Nu];rw[Nat.mul_one]at hlc⊢;exact Lib.run_append_grow_string w t u ty e0 i (.int .u8 0) T.under hu i1 i4 ⟨b,0,none⟩ len cap (cs.toList.take len) (by rw[i2];simp;omega) (λj v hv=>by
   rw[Cx]at hv;split at hv
   ·rw[E0]
    simp only[FC]at hv;simp[World.cell?,hb,hv]
   ·cases hv) s hg (by omega) (by rw[i3];exact growslice_fits hg (by omega))
 none_ h0 hby:=by
  obtain⟨i,i1,i2,i3,i4⟩:=T.inf;have hr:=run_append_nil_string (P:=P) w t u ty e0 i (.int .u8 0) T.under hu i1 i4 s (by omega) (by omega) (by rw[i3];omega);have e1:(s.data.map λb=>Value.int .u8 b.toNat)=(Lib.strCells s).toArray:=by
   apply Array.ext';simp[Lib.strCells]
  rw[Nu,<-e1];exact hr
 zero_ h0:=by
  obtain⟨i,i1,i2,i3,i4⟩:=T.inf;have hf:=Lib.run_firstCells_string (P:=P) w 1 s;rw[h0]at hf;simp[Builtin.append_,BS T.under,BS hu,sizeOf,typeInfo,i1,i2,Builtin.lenOf,h0,hf]
def Jn (tt:Nat->Option AL)(H:Hp)(n k:Nat)(g:Operand->D):Op->Option (D×Hp×Prop)
 | .call ⟨.builtin .append,args,tys⟩=>match args.toList with
  | [s,x]=>match tys.toList with
   | [t,t']=>match tt t' with
    |some i'=>match i'.ti with
     | .string=>match tt t with
      |some i=>match i.ti with
       | .slice e esz eby ez=>match g x with
        | .prim (.string str)=>match g s with
         | .osl k1 g1 sz 0 len=>match Hp.get H k1 with
          |some e1=>some (.osl k n 1 0 (len+str.size),⟨k,n,e,1,e1.es.take len++Ga str⟩::Hp.del H k1,
            esz=1/\eby=1/\ez=.int .u8 0/\g1=e1.g/\sz=e1.sz/\sz=1/\e1.T=e/\len<=e1.es.length/\len+str.size<=140737488355328)
          |none=>none
         | .prim (.slice none 0 0)=>some (.osl k n 1 0 str.size,⟨k,n,e,1,Ga str⟩::H,esz=1/\eby=1/\ez=.int .u8 0/\str.size<=140737488355328)
         |_=>none
        |_=>none
       |_=>none
      |none=>none
     |_=>none
    |none=>none
   |_=>none
  |_=>none
 |_=>none
theorem VT {tt:Nat->Option AL}{o:Oper}{g:Operand->D}{ev:Operand->Value}{n k:Nat}{d:D}{H':Hp}{p:Prop}(htt:A7 C.P tt)(m:AQ C F ρ H w)(fr:∀k,ρ k n=none)(hlt:∀e∈H,e.g≠n)
  (hg:∀x,AG ρ (AF F.X ρ H) w (g x) (ev x)) (h:Jn tt H n k g o.op=some (d,H',p)) (hp:p):
  ∃v ρ' w',(execOp ev o).run C.P w=.ok (.value v) w'/\EW C F H ρ w n d H' v ρ' w':=by
 unfold Jn at h;split at h<;>try(cases h;done)
 rename_i args tys ho;split at h<;>try(cases h;done)
 rename_i s x hargs;split at h<;>try(cases h;done)
 rename_i t t' htys;split at h<;>try(cases h;done)
 rename_i i' hi';split at h<;>try(cases h;done)
 rename_i hk';split at h<;>try(cases h;done)
 rename_i i hi;split at h<;>try(cases h;done)
 rename_i e esz eby ez hk;split at h<;>try(cases h;done)
 rename_i str hgx;have hu:=IF (htt _ _ hi') hk';obtain⟨k1,⟨inf,k2,k3,k4,k5⟩,k6,k7⟩:=CM (htt _ _ hi) hk;have T0:GI C.P t e esz eby ez:=⟨k1,⟨inf,k2,k3,k4,k5⟩,k6,k7⟩
 have hargs':args = #[s,x]:=by rw[<-D6 (xs:=args),hargs]
 have htys':tys = #[t,t']:=by rw[<-D6 (xs:=tys),htys]
 subst hargs' htys';have fin:∀v1 v2,ev s=v1->ev x=v2->(∃v ρ' w',(Builtin.append_ #[t,t'] o.type #[v1,v2]).run C.P w=.ok v w'/\EW C F H ρ w n d H' v ρ' w') ->
   ∃v ρ' w',(execOp ev o).run C.P w=.ok (.value v) w'/\EW C F H ρ w n d H' v ρ' w':=by
  rintro v1 v2 h1 h2 ⟨v,ρ',w',h3,h4⟩;refine⟨v,ρ',w',?_,h4⟩;unfold execOp;simp only[ho,resolve,invoke,builtin,Sem.run_bind,Sem.run_pure,Result.andThen_ok,List.map_toArray,BY,List.map_nil,h1,h2,h3]
 have hx:=hg x;have hsr:=hg s;generalize hvx:ev x=vx at hx;generalize hvs:ev s=vs at hsr;refine fin vs vx hvs hvx ?_;rw[hgx]at hx;cases hx;split at h<;>try(cases h;done)
 ·rename_i k0 g1 sz len hgs
  split at h<;>try(cases h;done)
  rename_i e1 he1;simp only[Af,Au]at h;obtain⟨rfl,rfl,rfl⟩:=h;obtain⟨rfl,rfl,rfl,rfl,q1,rfl,rfl,hle,hby⟩:=hp;have T:=T0;obtain⟨hm,hke⟩:=Hp.get_mem he1;obtain⟨H1,H2,a1,_,a3⟩:=GM e1 he1;rw[hgs]at hsr;rw[a3];have S:=P5 (w:=w) (ty:=o.type) T hu str;cases hsr with
  |onil=>
   obtain⟨m0,hO0⟩:=m.sub (H':=H1++H2) (by rw[a1];exact NI (H7 _) (NH _ _));have x0:Ao ρ (AF F.X ρ H) w ρ (AF F.X ρ (H1++H2)) w:=⟨Ad _,λ_ _ _ h=>h,λb' _ h=>⟨λh'=>h (hO0 b' h'),rfl⟩,λ_ cs _ _ h=>⟨cs,_,h,rfl⟩⟩
   obtain⟨v,ρ',w',r1,r2⟩:=append_nil (ty:=o.type) (k:=k) (news:=Ga str) (f:=G4 str) T m0 fr (λe' he'=>hlt e' (by rw[a1];rcases BR.1 he' with h|h<;>simp[h])) (by rw[Gx];exact S) (Nz str) (by rw[Gx];omega) (Ad _) (Ad _);refine⟨v,ρ',w',r1,?_⟩;simp only[B5,Jz,GP];rw[Gx]at r2;exact⟨r2.mem,x0.trans r2.ext,r2.far,r2.rep⟩
  |osl hr hb hc' hcs hmx=>
   rename_i cap b T' cs fz;rw[<-hke]at hr;obtain⟨cs0,q2,q3⟩:=m.atC hm hr hb;rw[hb]at q2;cases q2;rw[a1]at m hlt;obtain⟨v,ρ',w',r1,r2⟩:=P6 (ty:=o.type) (k:=k) (news:=Ga str) (f:=G4 str) T m hr rfl q1 hle hb (by simpa using hcs) (by simpa using hmx) fr hlt (by rw[Gx];exact S) (Nz str) (by rw[Gx];omega) (Ad _);rw[a1];refine⟨v,ρ',w',?_,?_⟩
   ·simpa using r1
   ·rw[Gx]at r2;exact r2
 ·rename_i hgs
  simp only[Af,Au]at h;obtain⟨rfl,rfl,rfl⟩:=h;obtain⟨rfl,rfl,rfl,hby⟩:=hp;have T:=T0;rw[hgs]at hsr;cases hsr;have S:=P5 (w:=w) (ty:=o.type) T hu str;obtain⟨v,ρ',w',r1,r2⟩:=append_nil (ty:=o.type) (k:=k) (news:=Ga str) (f:=G4 str) T m fr hlt (by rw[Gx];exact S) (Nz str) (by rw[Gx];omega) (Ad _) (Ad _);rw[Gx]at r2;exact⟨v,ρ',w',r1,r2⟩
end
section
variable {C:AZ} {F:AI} {s:St} {ops:Array Oper} {o:Oper} {os:List Oper} {K:St->Prop}
theorem WT {tt:Nat->Option AL}{H:Hp}{n k:Nat}{g:Operand->D}{op:Op}{d:D}{H':Hp}{p:Prop}(h:Jn tt H n k g op=some (d,H',p))(hl:∀e∈H,e.g<n):∀e∈H',e.g<n+1:=by
 unfold Jn at h
 (repeat' split at h)<;>try(cases h;done)
 ·cases h
  intro e he;rcases Ah.1 he with rfl|he
  ·exact Ft _
  ·exact BK (hl e (Pg he))
 ·cases h
  intro e he;rcases Ah.1 he with rfl|he
  ·exact Ft _
  ·exact BK (hl e he)
theorem iK {tt:Nat->Option AL}(k:Nat)(htt:A7 C.P tt){d:D}{H':Hp}{p:Prop}(hw:Am ops s.env o=some true)(he:Jn tt s.H s.n k (AV s.env) o.op=some (d,H',p))(hp:p)
  (h:AR C F ops os ⟨Ak s.env o.dst d,H',s.n+1⟩ K):AR C F ops (o::os) s K:=
 AR.step hw (λρ a w hs=>by
  obtain⟨v,ρ',w',h1,h2⟩:=VT htt hs.mem (λk=>hs.fresh k _ (Ad _)) (λe he=>Nat.ne_of_lt (hs.gen e he)) (BN hs.env) he hp;exact⟨v,ρ',w',.inl h1,⟨h2.mem,h2.ext,λk g hg=>by rw[h2.far k g (by omega)];exact hs.fresh k g (by omega),h2.rep⟩,WT he hs.gen⟩) h
end
inductive XI where
 |map (key elem:Nat) (zero:Value)
 |strs (n:Nat)
 |ifc
def KT (P:Program):Nat->List Field->Bool
 |_,[]=>true
 |i,f::fs=>(f.name != "_")&&Nat.beq f.offset i&&(match P.underlying f.type with|some .string=>true|_=>false)&&KT P (i+1) fs
def HD (P:Program)(t:Nat):Option XI:=match P.underlying t with
 |some (.map k e)=>match P.underlying k with
  |some .string=>match P.info? e with
   |some i=>match i.zero with
    |some z=>match Hh z i.size with
     |true=>some (.map k e z)
     |false=>none
    |none=>none
   |none=>none
  |_=>none
 |some (.struct fs)=>match P.stoodInHeld t||P.eqGuardType P.depth t with
  |false=>match KT P 0 fs.toList with
   |true=>some (.strs fs.size)
   |false=>none
  |true=>none
 |some (.interface _)=>some .ifc
 |_=>none
def Er (P:Program)(xt:Nat->Option XI):Prop:=∀t i,xt t=some i->HD P t=some i
def EX (s:ByteArray):List D->List D->Option (Option D)
 | [],[]=>some none
 | .prim (.string k)::ks,d::vs=>match BL s k with
  |true=>some (some d)
  |false=>EX s ks vs
 |_,_=>none
def E1:List D->List D->Option Bool
 | [],[]=>some true
 | .prim (.string a)::l,.prim (.string b)::l'=>match E1 l l' with
  |some r=>some (BL a b&&r)
  |none=>none
 |_,_=>none
def Dh (ok:Bool)(d:D)(b:Bool):D:=match ok with
 |true=>.tup [d,.prim (.bool b)]
 |false=>d
def S0:TI->Bool
 | .other | .ptr | .fn=>false
 |_=>true
def Dw (tt:Nat->Option AL)(xt:Nat->Option XI)(g:Operand->D):Op->Option (D×Prop)
 | .makeInterface t x=>match tt t with
  |some i=>match S0 i.ti with
   |true=>some (.ifc t (g x),True)
   |false=>none
  |none=>none
 | .lookup t x ix ok=>match xt t with
  |some (.map _ _ z)=>match g x with
   | .mp ks vs=>match g ix with
    | .prim (.string s)=>match EX s ks vs with
     |some (some d)=>some (Dh ok d true,True)
     |some none=>some (Dh ok (ofV z) false,True)
     |none=>none
    |_=>none
   |_=>none
  |_=>none
 | .binOp op t x y _=>match xt t with
  |some (.strs n)=>match g x with
   | .agg l=>match g y with
    | .agg l'=>match E1 l l' with
     |some b=>match Gj op b with
      |some c=>some (.prim (.bool c),Nat.beq l.length n=true)
      |none=>none
     |none=>none
    |_=>none
   |_=>none
  |some .ifc=>match y with
   | .const _=>match g x with
    | .prim .nilIface=>match g y with
     | .prim .nilIface=>match Gj op true with
      |some c=>some (.prim (.bool c),True)
      |none=>none
     |_=>none
    |_=>none
   |_=>none
  |_=>none
 |_=>none
section
variable {P:Program} {ρ:Lk} {O:Nat->Prop} {w:World}
theorem OD (a b:ByteArray):(a==b)=BL a b:=beq_toListBytes a b
theorem N7 {s:ByteArray}:∀ {ks vs:List D} {es:List MapEntry} {r:Option D} (i:Nat),EX s ks vs=some r->es.length=ks.length->es.length=vs.length ->
  (∀(j:Nat) (d:D),ks[j]?=some d->AG ρ O w d (es.getD j default).key)->(∀(j:Nat) (d:D),vs[j]?=some d->AG ρ O w d (es.getD j default).val) ->
  (match r with
   |none=>Instr.findNow .string (.string s) es i=some none
   |some d=>∃j v,Instr.findNow .string (.string s) es i=some (some (j,v))/\AG ρ O w d v)
 | [],[],[],r,i,h,_,_,_,_=>by simp only[EX,Af]at h;subst h;rfl
 |k::ks,v::vs,e::es,r,i,h,h1,h2,hk,hv=>by
  obtain⟨kb,rfl⟩:∃a,k=.prim (.string a):=by
   unfold EX at h;split at h<;>try(cases h;done)
   ·simp at*
   ·rename_i h1 _;cases h1;exact⟨_,rfl⟩
  simp only[EX]at h;have h0:e.key=.string kb:=by
   have:=hk 0 _ rfl
   simp at this;generalize e.key=q at this;cases this;rfl
  have h3:Instr.findNow .string (.string s) (e::es) i=(match Instr.sameNow .string (.string s) e.key with
    |some true=>some (some (i,e.val))|some false=>Instr.findNow .string (.string s) es (i+1)|none=>none):=rfl
  rw[h0]at h3;have h4:Instr.sameNow .string (.string s) (.string kb)=some (BL s kb):=by
   show some (s==kb)=_;rw[OD]
  rw[h4]at h3;cases hb:BL s kb with
  |true=>
   rw[hb]at h h3;simp only[Af]at h;subst h;exact⟨i,e.val,h3,by simpa using hv 0 v rfl⟩
  |false=>
   rw[hb]at h h3;dsimp only at h h3;rw[h3];exact N7 (i+1) h (by simpa using h1) (by simpa using h2) (λj d hd=>by simpa using hk (j+1) d (by simpa using hd)) (λj d hd=>by simpa using hv (j+1) d (by simpa using hd))
 | [],_::_,_,_,_,h,_,_,_,_=>by simp[EX]at h
 | [],[],_::_,_,_,_,h1,_,_,_=>by simp at h1
 |_::_,[],[],_,_,_,h1,_,_,_=>by simp at h1
 |_::_,[],_::_,_,_,_,_,h2,_,_=>by simp at h2
 |_::_,_::_,[],_,_,_,h1,_,_,_=>by simp at h1
theorem Gz {t k e:Nat}{z:Value}(h:HD P t=some (.map k e z)):P.underlying t=some (.map k e)/\P.underlying k=some .string/\(∃i,P.info? e=some i/\i.zero=some z) /\
  ∀(j:Nat) (x:Value),z.cells[j]?=some x->one x=true:=by
 unfold HD at h;split at h<;>try(cases h;done)
 ·rename_i k' e' h1
  split at h<;>try(cases h;done)
  rename_i h2;split at h<;>try(cases h;done)
  rename_i i h3;split at h<;>try(cases h;done)
  rename_i z' h4;split at h<;>try(cases h;done)
  rename_i h5;cases h;exact⟨h1,h2,⟨i,h3,h4⟩,(KX h5).2⟩
 ·(repeat' split at h)<;>cases h
theorem Vk {t n:Nat}(h:HD P t=some (.strs n)):∃fs:Array Field,P.underlying t=some (.struct fs)/\P.stoodInHeld t=false/\P.eqGuardType P.depth t=false/\KT P 0 fs.toList=true/\fs.size=n:=by
 unfold HD at h;split at h<;>try(cases h;done)
 ·(repeat' split at h)<;>cases h
 ·rename_i fs h1
  split at h<;>try(cases h;done)
  rename_i h2;split at h<;>try(cases h;done)
  rename_i h3;cases h;simp only[LY]at h2;exact⟨fs,h1,h2.1,h2.2,h3,rfl⟩
theorem Wj {t:Nat}(h:HD P t=some .ifc):∃ms,P.underlying t=some (.interface ms):=by
 unfold HD at h;split at h<;>try(cases h;done)
 ·(repeat' split at h)<;>cases h
 ·(repeat' split at h)<;>cases h
 ·rename_i ms h1
  exact⟨ms,h1⟩
theorem QC:∀ {l l':List D} {b:Bool},E1 l l'=some b->l.length=l'.length
 | [],[],_,_=>rfl
 | [],_::_,_,h=>by simp[E1]at h
 |c::l,[],_,h=>by
  unfold E1 at h;split at h
  ·simp at*
  ·simp at*
  ·cases h
 |c::l,c'::l',b,h=>by
  unfold E1 at h;split at h
  ·simp at*
  ·rename_i h1 h2
   cases h1;cases h2;split at h
   ·rename_i hr;simp[QC hr]
   ·cases h
  ·cases h
theorem P0 (d:Nat){xs ys:Array Value}:∀(fs:List Field) (i:Nat) (l l':List D) (b:Bool),KT P i fs=true->E1 l l'=some b->l.length=fs.length ->
  (∀(j:Nat) (c:D),l[j]?=some c->AG ρ O w c (xs.getD (i+j) undef))->(∀(j:Nat) (c:D),l'[j]?=some c->AG ρ O w c (ys.getD (i+j) undef)) ->
  (∀j,j<fs.length->i+j<xs.size/\i+j<ys.size)->(Op.eqFields (d+1) xs ys fs).run P w=.ok b w
 | [],i,[],l',b,_,h,_,_,_,_=>by
  cases l' with
  |nil=>simp only[E1,Af]at h;subst h;rfl
  |cons=>simp[E1]at h
 |f::fs,i,c::l,l',b,hf,h,hl,hx,hy,hin=>by
  cases l' with
  |nil=>simp[E1]at h
  |cons c' l'=>
   obtain⟨a,rfl⟩:∃a,c=.prim (.string a):=by
    unfold E1 at h;split at h<;>try(cases h;done)
    ·simp at*
    ·rename_i h1 _;cases h1;exact⟨_,rfl⟩
   obtain⟨a',rfl⟩:∃a,c'=.prim (.string a):=by
    unfold E1 at h;split at h<;>try(cases h;done)
    ·simp at*
    ·rename_i _ h1;cases h1;exact⟨_,rfl⟩
   simp only[E1]at h;cases hr:E1 l l' with
   |none=>simp[hr]at h
   |some r=>
    simp only[hr,Af]at h;simp only[KT,Ag]at hf;obtain⟨⟨⟨f1,f2⟩,f3⟩,f4⟩:=hf;have f2:=Ae f2;have f3:P.underlying f.type=some .string:=by split at f3<;>first|assumption|cases f3
    have hxa:xs[i]?=some (.string a):=by
     have:=hx 0 _ rfl
     rw[Fc]at this;have hlt:=(hin 0 (by simp)).1;rw[Fc]at hlt;rw[AT,BF hlt,Gp]at this;rw[BF hlt];generalize xs[i]=q at this;cases this;rfl
    have hya:ys[i]?=some (.string a'):=by
     have:=hy 0 _ rfl
     rw[Fc]at this;have hlt:=(hin 0 (by simp)).2;rw[Fc]at hlt;rw[AT,BF hlt,Gp]at this;rw[BF hlt];generalize ys[i]=q at this;cases this;rfl
    have ag:(isAgg f.type).run P w=.ok false w:=by
     unfold isAgg;rw[run_bind,BS f3];rfl
    have part1:(part f.type xs f.offset).run P w=.ok (.string a) w:=by
     unfold part;rw[run_bind,ag];dsimp only;rw[AN (by simp),f2];simp only[hxa];rfl
    have part2:(part f.type ys f.offset).run P w=.ok (.string a') w:=by
     unfold part;rw[run_bind,ag];dsimp only;rw[AN (by simp),f2];simp only[hya];rfl
    have hne:f.name ≠ "_":=by simpa using f1
    simp only[Op.eqFields];rw[AM hne,run_bind,part1];dsimp only;rw[run_bind,part2];dsimp only;rw[run_bind,run_equalIn_string w d f.type a a' f3];dsimp only;have ih:=P0 d fs (i+1) l l' r f4 hr (by simpa using hl) (λj c hc=>by have:=hx (j+1) c (by simpa using hc);rwa [show i+(j+1)=i+1+j from by omega]at this)
     (λj c hc=>by have:=hy (j+1) c (by simpa using hc);rwa [show i+(j+1)=i+1+j from by omega]at this) (λj hj=>by have:=hin (j+1) (by simp;omega);omega)
    subst h;cases hb:BL a a' with
    |true=>
     unfold BL at hb;rw[hb];simpa using ih
    |false=>
     unfold BL at hb;rw[hb];rfl
 | [],_,_::_,_,_,_,_,h,_,_,_=>by simp at h
 |_::_,_,[],_,_,_,_,h,_,_,_=>by simp at h
theorem WF {t:Nat}{i:AL}(h:Cm P t=some i)(hc:S0 i.ti=true):∃u,P.underlying t=some u/\∀ms,u≠.interface ms:=by
 cases hk:i.ti with
 |int k=>exact⟨_,OF h hk,by simp⟩
 |bool=>exact⟨_,QW h hk,by simp⟩
 |string=>exact⟨_,IF h hk,by simp⟩
 |struct fs=>obtain⟨a,h1,_⟩:=Nt h hk;exact⟨_,h1,by simp⟩
 |slice e a b c=>exact⟨_,(CM h hk).1,by simp⟩
 |arr n e a=>obtain⟨a,h1,_⟩:=OE h hk;exact⟨_,h1,by simp⟩
 |ptr=>rw[hk]at hc;cases hc
 |other=>rw[hk]at hc;cases hc
 |fn=>rw[hk]at hc;cases hc
theorem SM {tt:Nat->Option AL}{xt:Nat->Option XI}{o:Oper}{g:Operand->D}{ev:Operand->Value}{d:D}{p:Prop}(htt:A7 P tt)(hxt:Er P xt)(hg:∀x,AG ρ O w (g x) (ev x))
  (h:Dw tt xt g o.op=some (d,p)) (hp:p):∃v,(execOp ev o).run P w=.ok (.value v) w/\AG ρ O w d v:=by
 unfold execOp;unfold Dw at h;split at h<;>try(cases h;done)
 ·rename_i t x ho
  simp only[ho];split at h<;>try(cases h;done)
  rename_i i hi;split at h<;>try(cases h;done)
  rename_i hc;cases h;obtain⟨u,h1,h2⟩:=WF (htt _ _ hi) hc;refine⟨.iface t (ev x),?_,.ifc (hg x)⟩;rw[run_bind]
  have:(Instr.makeInterface t (ev x)).run P w=.ok (.iface t (ev x)) w:=by
   unfold Instr.makeInterface;rw[run_bind,BS h1];dsimp only;split
   ·rename_i ms;exact AW rfl (h2 ms)
   ·rfl
  rw[this];rfl
 ·rename_i t x ix ok ho
  simp only[ho];split at h<;>try(cases h;done)
  rename_i k e z hi;split at h<;>try(cases h;done)
  rename_i ks vs hgx;split at h<;>try(cases h;done)
  rename_i s hgi;obtain⟨a1,a2,⟨inf,a3,a4⟩,a5⟩:=Gz (hxt _ _ hi);have hx:=hg x;have hy:=hg ix;rw[hgx]at hx;rw[hgi]at hy;generalize ev x=vx at hx;generalize ev ix=vi at hy;cases hy;cases hx with
  |mp hO hr hb h1 h2 hB hk hv=>
   rename_i r clock es;have hc:(Instr.checkKey es.isEmpty 10000 k (.string s)).run P w=.ok () w:=MapKept.run_checkKey (k:=.string s) a2 (by simp[MapKept.IsKey]) _ 9999;have hz:(zeroValue e).run P w=.ok z w:=KJ a3 a4 w;have find:∀q,EX s ks vs=some q->_:=λq hq=>N7 (ρ:=ρ) (O:=O) (w:=w) (es:=es.toList) 0 hq (by simpa using h1) (by simpa using h2) (λj d hd=>by simpa[AT]using hk j d hd) (λj d hd=>by simpa[AT]using hv j d hd)
   have okR:∀(d:D) (v:Value) (b:Bool),AG ρ O w d v->AG ρ O w (Dh ok d b) (if ok then .tuple #[v,.bool b]else v):=by
    intro d v b hr;cases ok with
    |false=>exact hr
    |true=>
     refine .tup rfl λi d' hd=>?_
     match i with
     | 0=>simp at hd;subst hd;exact hr
     | 1=>simp at hd;subst hd;exact .prim _
     |n+2=>simp at hd
   split at h<;>try(cases h;done)
   ·rename_i d' hq
    cases h;obtain⟨j,v,hf,hr'⟩:=find _ hq;refine⟨_,?_,okR _ v true hr'⟩;rw[run_bind]
    have:(Instr.lookup t (.map (some r)) (.string s) ok).run P w=.ok (if ok then .tuple #[v,.bool true]else v) w:=by
     simp[Instr.lookup,BS a1,MapKept.run_getObj_map hb,hc,MapKept.run_findKey a2 hf,Result.andThen]
    rw[this];rfl
   ·rename_i hq
    cases h;have hf:=find _ hq;refine⟨_,?_,okR _ z false (.ofV λi x hx=>.inl (a5 i x hx))⟩;rw[run_bind]
    have:(Instr.lookup t (.map (some r)) (.string s) ok).run P w=.ok (if ok then .tuple #[z,.bool false]else z) w:=by
     simp[Instr.lookup,BS a1,MapKept.run_getObj_map hb,hc,MapKept.run_findKey a2 hf,hz,Result.andThen]
    rw[this];rfl
 ·rename_i op t x y yt ho
  simp only[ho];split at h<;>try(cases h;done)
  ·rename_i n hi
   split at h<;>try(cases h;done)
   rename_i l hgx;split at h<;>try(cases h;done)
   rename_i l' hgy;split at h<;>try(cases h;done)
   rename_i b hb;split at h<;>try(cases h;done)
   rename_i c hn;cases h;obtain⟨fs,a1,a2,a3,a4,a5⟩:=Vk (hxt _ _ hi);have hx:=hg x;have hy:=hg y;rw[hgx]at hx;rw[hgy]at hy;generalize ev x=vx at hx;generalize ev y=vy at hy;have hp:=Ae hp;have hl':=QC hb;cases hx with
   |agg n1 o1 r1=>
    cases hy with
    |agg n2 o2 r2=>
     rename_i xs ys;have eqf:P.fieldsOf t=fs:=by unfold Program.fieldsOf;rw[a1]
     have run:(Op.equalIn 10000 t (.agg xs) (.agg ys)).run P w=.ok b w:=by
      rw[show(10000:Nat)=9998+1+1 from rfl,run_equalIn_struct w _ t xs ys (by rw[eqf];exact a1) a2,eqf];exact P0 (ρ:=ρ) (O:=O) 9998 fs.toList 0 l l' b a4 hb (by simp;omega) (λj c hc=>by rw[B5];exact r1 j c hc) (λj c hc=>by rw[B5];exact r2 j c hc)
       (λj hj=>by simp at hj;omega)
     refine⟨.bool c,?_,.prim _⟩;have r3:(do eqGuard op t x y (.agg xs) (.agg ys);binOp op t (.agg xs) (.agg ys):Sem Value).run P w=.ok (.bool c) w:=by
      rw[run_bind,run_eqGuard_agg w op t x y xs ys a3];dsimp only;unfold Gj at hn;cases op<;>simp only[Af,reduceCtorEq]at hn
      ·subst hn;rw[run_eql_struct,run];rfl
      ·subst hn;rw[run_neq_struct,run];rfl
     rw[run_bind,r3];rfl
  ·rename_i hi
   obtain⟨ms,hu⟩:=Wj (hxt _ _ hi);split at h<;>try(cases h;done)
   rename_i cv;split at h<;>try(cases h;done)
   rename_i hgx;split at h<;>try(cases h;done)
   rename_i hgy;split at h<;>try(cases h;done)
   rename_i c hn;cases h;have hx:=hg x;have hy:=hg (.const cv);rw[hgx]at hx;rw[hgy]at hy;generalize ev x=vx at hx;generalize ev (.const cv)=vy at hy;cases hx;cases hy;refine⟨.bool c,?_,.prim _⟩;have hq:(Op.equal t .nilIface .nilIface).run P w=.ok true w:=by
    show(Op.equalIn (9999+1) t .nilIface .nilIface).run P w=_;rw[Op.equalIn,run_bind,BS hu];rfl
   have r2:=Ol (op:=op) hn hq ⟨by simp,by simp,by simp,by simp⟩;have r3:(do eqGuard op t x (.const cv) .nilIface .nilIface;binOp op t .nilIface .nilIface:Sem Value).run P w=.ok (.bool c) w:=by
    rw[eqGuard_nil_constR];exact r2
   rw[run_bind,r3];rfl
end
def EJ (tt:Nat->Option AL)(n k:Nat)(g:Operand->D):Op->Option (D×AK×Prop)
 | .makeSlice t l c=>match tt t with
  |some i=>match i.ti with
   | .slice e esz eby ez=>match g l with
    | .prim (.int _ a)=>match g c with
     | .prim (.int _ b)=>some (.osl k n esz 0 a.toNat,⟨k,n,e,esz,List.replicate a.toNat (ofV ez)⟩,0<=a/\a<=b/\(eby:Int)*b<=281474976710656/\b<=9223372036854775807/\Nat.ble 1 esz=true)
     |_=>none
    |_=>none
   |_=>none
  |none=>none
 |_=>none
section
variable {C:AZ} {F:AI} {s:St} {ops:Array Oper} {o:Oper} {os:List Oper} {K:St->Prop} {ρ:Lk} {H:Hp} {w:World}
theorem Kf {α:Type}{n i:Nat}{x d:α}(h:(List.replicate n x)[i]?=some d):i<n/\x=d:=by
 rw[List.getElem?_replicate]at h;split at h
 ·rename_i hi;exact⟨hi,H9 h⟩
 ·cases h
def J9 (g:Operand->D)(op:Op)(d:D):D:=match op with
 | .makeSlice _ _ c=>match g c with
  | .prim (.int _ b)=>match d with
   | .osl k n sz i len=>.oxl k n sz i len b.toNat
   |d=>d
  |_=>d
 |_=>d
theorem Xl {g:Operand->D}{op:Op}{d:D}{O:Nat->Prop}{v:Value}(h:AG ρ O w (J9 g op d) v):AG ρ O w d v:=by
 unfold J9 at h
 (repeat' split at h)<;>first|exact h|exact h.wk
theorem RF {tt:Nat->Option AL}{g:Operand->D}{ev:Operand->Value}{n k:Nat}{d:D}{e':AK}{p:Prop}(htt:A7 C.P tt)(m:AQ C F ρ H w)(fr:∀k,ρ k n=none)(hlt:∀e∈H,e.g≠n)
  (hg:∀x,AG ρ (AF F.X ρ H) w (g x) (ev x)) (h:EJ tt n k g o.op=some (d,e',p)) (hp:p):
  ∃v ρ' w',(execOp ev o).run C.P w=.ok (.value v) w'/\E5 C F H ρ w n (J9 g o.op d) (some e') v ρ' w':=by
 unfold EJ at h;split at h<;>try(cases h;done)
 rename_i t l c ho;split at h<;>try(cases h;done)
 rename_i i hi;split at h<;>try(cases h;done)
 rename_i e esz eby ez hk;split at h<;>try(cases h;done)
 rename_i kl a hl;split at h<;>try(cases h;done)
 rename_i kc b hc;cases h;obtain⟨h0,hab,hby,hmx,hz1⟩:=hp;obtain⟨k1,⟨inf,k2,rfl,rfl,k5⟩,k6,k7⟩:=CM (htt _ _ hi) hk;have h1:=hg l;have h2:=hg c;rw[hl]at h1;rw[hc]at h2;generalize hvl:ev l=vl at h1;generalize hvc:ev c=vc at h2;cases h1;cases h2;have run:=run_make (P:=C.P) w t e inf ez k1 k2 k5 kl kc a b h0 hab hby hmx;have hcell:∀q,q<b.toNat*inf.size->(madeCells ez.cells (b.toNat*inf.size)).getD q undef=ez.cells.getD (q%inf.size) undef/\q%inf.size<ez.cells.size:=λq hq=>by
  have hpos:0<inf.size:=by
   rcases LU inf.size with h|h
   ·rw[h]at hq;simp at hq
   ·exact h
  have hm:q%ez.cells.size<ez.cells.size:=Gn _ (by omega);rw[k6]at hm;refine⟨?_,by omega⟩;unfold madeCells;simp only[AT,Array.getElem?_map];rw[BF (by simpa using hq)];simp only[Array.getElem_range,Fu,Gp];rw[k6,getElem!_pos ez.cells (q%inf.size) (by omega),D8];rfl
 have hec:(ofV ez).cells.length=inf.size/\∀(j:Nat) (c:D),(ofV ez).cells[j]?=some c->c=.prim (ez.cells.getD j undef):=by
  cases ez
  case tuple vs=>
   have:=k7 0 (.tuple vs) rfl
   simp[Ide.one]at this
  case agg vs=>
   refine⟨by simp only[ofV,D.cells,BP,GO];exact k6,λj c hc=>?_⟩;simp only[ofV,D.cells,Bf,FC,Gm]at hc;obtain⟨x,hx,rfl⟩:=hc;show D.prim x=.prim (vs.getD j undef);rw[AT,hx];rfl
  all_goals
   refine⟨k6,λj c hc=>?_⟩
   match j with
   | 0=>simp only[ofV,D.cells,NN,Af]at hc;subst hc;rfl
   |j+1=>simp[ofV,D.cells]at hc
 have hle:a.toNat<=b.toNat:=by omega
 have ho':B2 ρ (AF F.X ρ H) w ⟨k,n,e,inf.size,List.replicate a.toNat (ofV ez)⟩ (madeCells ez.cells (b.toNat*inf.size)):=by
  refine⟨by simp only[List.length_replicate,size_madeCells];exact Br _ hle,λq d hd=>?_,λq v hv=>?_,λq d j c hd hcj=>?_⟩
  ·obtain⟨_,rfl⟩:=Kf hd
   exact hec.1
  ·have hq:q<b.toNat*inf.size:=by have:=(Bo.1 hv).1;rw[size_madeCells]at this;exact this
   obtain⟨c1,c2⟩:=hcell q hq;rw[AT,hv,Gp,AT,BF c2,Gp]at c1;rw[c1];exact k7 _ _ (BF c2)
  ·obtain⟨hq,rfl⟩:=Kf hd
   have hj:j<inf.size:=by rw[<-hec.1];exact(Ay.1 hcj).1
   rw[hec.2 j c hcj];dsimp only;have hlt2:q*inf.size+j<b.toNat*inf.size:=by
    have:(q+1)*inf.size<=b.toNat*inf.size:=Br _ (by omega)
    rw[Ba]at this;omega
   rw[(hcell _ hlt2).1,J0,Nat.mul_add_mod,NM hj];exact .prim _
 obtain⟨m1,x1⟩:=m.alloc ⟨k,n,e,inf.size,List.replicate a.toNat (ofV ez)⟩ _ (fr k) (λe' he' h=>hlt e' he' h.2) (Gi hz1) ho';refine⟨.slice (some ⟨w.heap.size,0,none⟩) a.toNat b.toNat,ρ.put k n w.heap.size,_,?_,m1,x1,λk' g' hg=>by unfold Lk.put;rw[AN λh=>hg h.2],?_⟩
 ·unfold execOp
  simp only[ho,hvl,hvc];rw[run_bind,run];rfl
 ·simp only[J9,ho,hc]
  exact iU (b:=w.heap.size) (T:=e) (fz:=(0,0)) (CO _ _ _ _) (by rw[Cc];exact AM rfl) hle (by rw[size_madeCells]) (by simp only[maxLen];omega)
theorem Xk {tt:Nat->Option AL}{g:Operand->D}{ev:Operand->Value}{n k:Nat}{d:D}{e':AK}{p:Prop}(htt:A7 C.P tt)(m:AQ C F ρ H w)(fr:∀k,ρ k n=none)(hlt:∀e∈H,e.g≠n)
  (hg:∀x,AG ρ (AF F.X ρ H) w (g x) (ev x)) (h:EJ tt n k g o.op=some (d,e',p)) (hp:p):
  ∃v ρ' w',(execOp ev o).run C.P w=.ok (.value v) w'/\E5 C F H ρ w n d (some e') v ρ' w':=by
 obtain⟨v,ρ',w',h1,h2⟩:=RF htt m fr hlt hg h hp;exact⟨v,ρ',w',h1,h2.mem,h2.ext,h2.far,Xl h2.rep⟩
theorem Rl {tt:Nat->Option AL}{n k:Nat}{g:Operand->D}{op:Op}{d:D}{e:AK}{p:Prop}(h:EJ tt n k g op=some (d,e,p)):e.g=n:=by
 unfold EJ at h
 (repeat' split at h)<;>first|(cases h;done)|(cases h;rfl)
theorem UC {tt:Nat->Option AL}(k:Nat)(htt:A7 C.P tt){d:D}{e':AK}{p:Prop}(hw:Am ops s.env o=some true)(he:EJ tt s.n k (AV s.env) o.op=some (d,e',p))(hp:p)
  (h:AR C F ops os ⟨Ak s.env o.dst d,e'::s.H,s.n+1⟩ K):AR C F ops (o::os) s K:=
 AR.step hw (λρ a w hs=>by
  obtain⟨v,ρ',w',h1,h2⟩:=Xk htt hs.mem (λk=>hs.fresh k _ (Ad _)) (λe he=>Nat.ne_of_lt (hs.gen e he)) (BN hs.env) he hp;refine⟨v,ρ',w',.inl h1,⟨h2.mem,h2.ext,λk g hg=>by rw[h2.far k g (by omega)];exact hs.fresh k g (by omega),h2.rep⟩,λe he2=>?_⟩;rcases Ah.1 he2 with rfl|he2
  ·have:=Rl he;omega
  ·exact BK (hs.gen e he2)) h
theorem gr {tt:Nat->Option AL}(k:Nat)(htt:A7 C.P tt){d:D}{e':AK}{p:Prop}(hw:Am ops s.env o=some true)(he:EJ tt s.n k (AV s.env) o.op=some (d,e',p))(hp:p)
  (h:AR C F ops os ⟨Ak s.env o.dst (J9 (AV s.env) o.op d),e'::s.H,s.n+1⟩ K):AR C F ops (o::os) s K:=
 AR.step hw (λρ a w hs=>by
  obtain⟨v,ρ',w',h1,h2⟩:=RF htt hs.mem (λk=>hs.fresh k _ (Ad _)) (λe he=>Nat.ne_of_lt (hs.gen e he)) (BN hs.env) he hp;refine⟨v,ρ',w',.inl h1,⟨h2.mem,h2.ext,λk g hg=>by rw[h2.far k g (by omega)];exact hs.fresh k g (by omega),h2.rep⟩,λe he2=>?_⟩;rcases Ah.1 he2 with rfl|he2
  ·have:=Rl he;omega
  ·exact BK (hs.gen e he2)) h
theorem AR.l' {tt:Nat->Option AL}(k:Nat)(htt:A7 C.P tt){d:D}{ne:Option AK}{p:Prop}(hw:Am ops s.env o=some true)(he:Cg tt s.H s.n k (AV s.env) o.op=some (d,ne,p))(hp:p)
  (h:AR C F ops os ⟨Ak s.env o.dst d,Bk ne s.H,s.n+1⟩ K):AR C F ops (o::os) s K:=
 AR.step hw (λρ a w hs=>by
  obtain⟨v,ρ',w',h1,h2⟩:=SL (λ_ h=>h) htt hs.mem (λk=>hs.fresh k _ (Ad _)) (λe he=>Nat.ne_of_lt (hs.gen e he)) (BN hs.env) he hp;refine⟨v,ρ',w',.inl h1,⟨h2.mem,h2.ext,λk g hg=>by rw[h2.far k g (by omega)];exact hs.fresh k g (by omega),h2.rep⟩,λe he'=>?_⟩;cases ne with
  |none=>exact BK (hs.gen e he')
  |some e'=>
   rcases Ah.1 he' with rfl|he'
   ·have:=Ri he
    omega
   ·exact BK (hs.gen e he')) h
theorem AR.q {tt:Nat->Option AL}{xt:Nat->Option XI}(htt:A7 C.P tt)(hxt:Er C.P xt){d:D}{p:Prop}(hw:Am ops s.env o=some true)(he:Dw tt xt (AV s.env) o.op=some (d,p))(hp:p)
  (h:AR C F ops os ⟨Ak s.env o.dst d,s.H,s.n+1⟩ K):AR C F ops (o::os) s K:=
 AR.step hw (λρ a w hs=>by
  obtain⟨v,h1,h2⟩:=SM htt hxt (BN hs.env) he hp;exact⟨v,ρ,w,.inl h1,.pure hs h2,λe he=>BK (hs.gen e he)⟩) h
theorem QH {f t:Nat}{name:String}{d0:D}{r:Operand}{args:Array Operand}{tys:Array Nat}{a:Act}(ho:o.op=.call ⟨.invoke r name,args,tys⟩)(hr:AV s.env r=.ifc t d0)
  (hm:∀v w,(method (C.P.types.size+Made.depth) t v name).run C.P w=.ok (f,v) w) (hcall:GY C.P f) (hs:Aw C F ρ s a w):
  ∃vs,(execOp a.eval o).run C.P w=.ok (.enter f vs) w/\vs.size=(d0::args.toList.map (AV s.env)).length /\
   ∀(i:Nat) (d:D),(d0::args.toList.map (AV s.env))[i]?=some d->AG ρ (AF F.X ρ s.H) w d (vs.getD i undef):=by
 have hrr:=BN hs.env r;rw[hr]at hrr;generalize hv:a.eval r=v at hrr;cases hrr with
 |ifc h0=>
  rename_i v0;refine⟨#[v0]++args.map a.eval,?_,by simp;omega,λi d hd=>?_⟩
  ·unfold execOp
   simp only[ho];rw[run_bind]
   have:(resolve a.eval ⟨.invoke r name,args,tys⟩ o.type).run C.P w=.ok { target:=.fn (.method name) #[],args:=#[.iface t v0]++args.map a.eval } w:=by
    unfold resolve;simp only[hv];rfl
   rw[this];dsimp only;unfold invoke;have g0:(#[Value.iface t v0]++args.map a.eval)[0]?=some (.iface t v0):=by rw[D5 (by simp)];rfl
   have g1:(#[Value.iface t v0]++args.map a.eval).extract 1 (#[Value.iface t v0]++args.map a.eval).size=args.map a.eval:=by
    apply Array.ext_getElem?;intro q;rw[Array.getElem?_extract];simp only[DP,Pn,CD,Gl,Array.size_map];rw[D4 (by simp)];simp only[Pn,CD,Gl];split
    ·congr 1;omega
    ·rw[Ix (by simp;omega)]
   simp only[g0,g1];unfold callMethod;simp only[];rw[run_bind,Li];dsimp only;rw[run_bind,hm];dsimp only;exact Ns hcall _ w
  ·cases i with
   |zero=>
    simp at hd;subst hd
    have:(#[v0]++args.map a.eval).getD 0 undef=v0:=by rw[AT,D5 (by simp)];rfl
    rw[this];exact h0
   |succ i=>
    simp only[LW,Bf,FC,Gm]at hd;obtain⟨x,hx,rfl⟩:=hd
    have:(#[v0]++args.map a.eval).getD (i+1) undef=a.eval x:=by
     simp only[AT];rw[D4 (by simp)];simp[hx]
    rw[this];exact BN hs.env x
theorem gm {f t:Nat}{name:String}{d0:D}{ds:List D}{r:Operand}{args:Array Operand}{tys:Array Nat}{Φ:D->Hp->Nat->Prop}(hw:Am ops s.env o=some true)(ho:o.op=.call ⟨.invoke r name,args,tys⟩)(hr:AV s.env r=.ifc t d0)
  (hm:∀v w,(method (C.P.types.size+Made.depth) t v name).run C.P w=.ok (f,v) w) (hds:d0::args.toList.map (AV s.env)=ds) (hc:Ct C f ds s.H s.n Φ)
  (h:∀d H' n',Φ d H' n'->AR C F ops os ⟨Ak s.env o.dst d,H',n'⟩ K):AR C F ops (o::os) s K:=by
 intro hd l hl ρ a w hs;cases l with
 |nil=>simp at hl
 |cons i l=>
  simp only[BY,CZ]at hl;simp only[Db,Ag]at hd;obtain⟨vs,h1,h2,h3⟩:=QH ho hr hm hc.1 hs;rw[hds]at h2 h3;simp only[wpOps,hl.1];rw[AM (FK hs.env hw)];refine .inl ?_;unfold Oper.wp;rw[h1];refine(hc.2 F ρ w vs hs.mem hs.fresh hs.gen h2 h3).mono ?_;rintro e w' ⟨v,d,H',n',ρ',rfl,hΦ,m,x,fr,g,r⟩;exact h d H' n' hΦ hd.2 l hl.2 ρ' (a.put o.dst v) w' (hs.put m x fr g r hd.1)
structure YK (es:Array MapEntry)(clock:Nat)(ks vs:List D):Prop where
 hB:EQ es clock
 h1:es.size=ks.length
 h2:es.size=vs.length
 hk:∀(i:Nat) (d:D),ks[i]?=some d->∀ρ O w,AG ρ O w d (es.getD i default).key
 hv:∀(i:Nat) (d:D),vs[i]?=some d->∀ρ O w,AG ρ O w d (es.getD i default).val
theorem EQ.push {es:Array MapEntry}{clock:Nat}(h:EQ es clock)(k v:Value):EQ (es.push { key:=k,val:=v,born:=clock }) (clock+1):=by
 refine⟨λi e he=>?_,λi j e e' he he' hb=>?_⟩
 ·rw[FY]at he
  split at he
  ·cases he;exact Ft _
  ·exact BK (h.1 i e he)
 ·rw[FY]at he he'
  split at he<;>split at he'
  ·omega
  ·cases he
   have:=h.1 j e' he'
   simp only at hb;omega
  ·cases he'
   have:=h.1 i e he
   simp only at hb;omega
  ·exact h.2 i j e e' he he' hb
def EM (C:AZ)(F:AI)(ops:Array Oper)(os:List Oper)(m:Nat)(ks vs:List D)(s:St)(K:St->Prop):Prop:=
 os.all (CB F.nt)=true->∀(l:List Nat),l.map (ops[·]?)=os.map some->∀ρ a w es clock,Aw C F ρ s a w->a.tmps.getD m undef=.map (some w.heap.size)->m<a.tmps.size->YK es clock ks vs ->
  wpOps C.P ops (Gt C F K) l a (w.alloc (.map es clock))
theorem EM.start {m T:Nat}(hgd:o.guard=none)(ho:o.op=.makeMap T none)(hd:o.dst=some m)(h:EM C F ops os m [] [] ⟨Ak s.env (some m) .any,s.H,s.n+1⟩ K):AR C F ops (o::os) s K:=by
 intro hds l hl ρ a w hs;cases l with
 |nil=>simp at hl
 |cons i l=>
  simp only[BY,CZ]at hl;simp only[Db,Ag]at hds;simp only[wpOps,hl.1];rw[AM (FK hs.env (by unfold Am;rw[hgd]))];refine .inl ?_;have hrun:(execOp a.eval o).run C.P w=.ok (.value (.map (some w.heap.size))) (w.alloc (.map #[] 0)):=by
   unfold execOp;simp only[ho];rw[run_bind];rfl
  unfold Oper.wp;rw[hrun];have hm:m<a.tmps.size:=by
   have h1:=hds.1;rw[hs.nt];unfold CB at h1;rw[hd]at h1;exact Nat.blt_eq.mp h1
  have sat:=hs.put (o:=o) (d:=.any) (v:=.map (some w.heap.size)) hs.mem (.refl _ _ _) (λk g hg=>hs.fresh k g (by omega:s.n<=g)) (λe he=>BK (hs.gen e he)) (.any _) hds.1;show wpOps C.P ops (Gt C F K) l (a.put o.dst (.map (some w.heap.size))) (w.alloc (.map #[] 0));rw[hd]at sat⊢;refine h hds.2 l hl.2 ρ (a.put (some m) (.map (some w.heap.size))) w #[] 0 sat ?_ (by simp[Act.put,hm]) ⟨⟨by simp,by simp⟩,rfl,rfl,by simp,by simp⟩;show(a.tmps.setIfInBounds m (.map (some w.heap.size))).getD m undef=_;rw[AT,DE,AM rfl,AM hm];rfl
theorem Cw.agg {l:List D}(h:∀d∈l,Cw d):Cw (.agg l):=λ_ _ _ _ _ _ _ hr=>by
 cases hr with|agg hn ho hh=>exact .agg hn ho λi d hd=>h d (Bh hd) _ _ _ _ _ _ _ (hh i d hd)
theorem EM.p {tt:Nat->Option AL}(htt:A7 C.P tt){m t:Nat}{ks vs:List D}{d:D}{p:Prop}(hw:Am ops s.env o=some true)(he:CG tt (AV s.env) o.op=some (d,p))(hp:p)(hflat:Cw d)(hd:o.dst=some t)(hne:t≠m)
  (h:EM C F ops os m ks vs ⟨Ak s.env (some t) d,s.H,s.n+1⟩ K):EM C F ops (o::os) m ks vs s K:=by
 intro hds l hl ρ a w es clock hs hm hlt hr;cases l with
 |nil=>simp at hl
 |cons i l=>
  simp only[BY,CZ]at hl;simp only[Db,Ag]at hds;simp only[wpOps,hl.1];rw[AM (FK hs.env hw)];refine .inl ?_;have x:=Ao.allocPure (ρ:=ρ) (F:=F) (H:=s.H) (w:=w) (.map es clock);obtain⟨v,h1,h2⟩:=Ky (ρ:=ρ) (O:=AF F.X ρ s.H) (w:=w.alloc (.map es clock)) htt (λy=>(BN hs.env y).mono x) he hp;unfold Oper.wp;rw[h1];have sat:=hs.put (o:=o) (d:=d) (v:=v) hs.mem (.refl _ _ _) (λk g hg=>hs.fresh k g (by omega:s.n<=g)) (λe he=>BK (hs.gen e he)) (hflat _ _ _ _ _ _ _ h2) hds.1;show wpOps C.P ops (Gt C F K) l (a.put o.dst v) (w.alloc (.map es clock));rw[hd]at sat⊢;refine h hds.2 l hl.2 ρ (a.put (some t) v) w es clock sat ?_ (by simp[Act.put,hlt]) hr;show(a.tmps.setIfInBounds t v).getD m undef=_;rw[AT,DE,AN hne,<-AT];exact hm
theorem D2 {m t T k e:Nat}{z:Value}{key:ByteArray}{d:D}{ks vs:List D}{xt:Nat->Option XI}(hxt:Er C.P xt)(hT:xt T=some (.map k e z))(hgd:o.guard=none)(ho:o.op=.insert T (.tmp m) (.const (.string key)) (.tmp t))(hd:o.dst=none)
  (hnew:EX key ks vs=some none) (hv:s.env.get t=d) (hflat:∀ρ O w v,AG ρ O w d v->∀ρ' O' w',AG ρ' O' w' d v)
  (h:EM C F ops os m (ks++[.prim (.string key)]) (vs++[d]) ⟨s.env,s.H,s.n+1⟩ K):EM C F ops (o::os) m ks vs s K:=by
 intro hds l hl ρ a w es clock hs hm hlt hr;cases l with
 |nil=>simp at hl
 |cons i l=>
  simp only[BY,CZ]at hl;simp only[Db,Ag]at hds;simp only[wpOps,hl.1];rw[AM (FK hs.env (by unfold Am;rw[hgd]))];refine .inl ?_;obtain⟨a1,a2,_,_⟩:=Gz (hxt _ _ hT);have hb:(w.alloc (.map es clock)).heap[w.heap.size]?=some (.map es clock):=by rw[Cc,AM rfl]
  have hc:(Instr.checkKey false 10000 k (.string key)).run C.P (w.alloc (.map es clock))=.ok () (w.alloc (.map es clock)):=MapKept.run_checkKey (k:=.string key) a2 (by simp[MapKept.IsKey]) false 9999;have hf:Instr.findNow .string (.string key) es.toList 0=some none:=
   N7 (ρ:=ρ) (O:=λ_=>False) (w:=w) (es:=es.toList) 0 hnew (by simpa using hr.h1) (by simpa using hr.h2) (λj d hd=>by simpa[AT]using hr.hk j d hd ρ (λ_=>False) w)
    (λj d hd=>by simpa[AT]using hr.hv j d hd ρ (λ_=>False) w)
  generalize hvt:a.tmps.getD t undef=vt;have hset:{ (w.alloc (.map es clock))with heap:=(w.alloc (.map es clock)).heap.setIfInBounds w.heap.size (.map (es.push { key:=.string key,val:=vt,born:=clock }) (clock+1)) } =
    w.alloc (.map (es.push { key:=.string key,val:=vt,born:=clock }) (clock+1)):=by
   show({ w with heap:=(w.heap.push (.map es clock)).setIfInBounds w.heap.size _ }:World)={ w with heap:=w.heap.push _ }
   congr 1
   apply Array.ext_getElem?;intro q;rw[DE,FY,FY]
   by_cases hq:w.heap.size=q
   ·subst hq;simp
   ·rw[AN hq,AN (Ne.symm hq),AN (Ne.symm hq)]
  have hrun:(execOp a.eval o).run C.P (w.alloc (.map es clock))=.ok .skip (w.alloc (.map (es.push { key:=.string key,val:=vt,born:=clock }) (clock+1))):=by
   unfold execOp;simp only[ho];rw[run_bind]
   have:(Instr.mapUpdate T (a.eval (.tmp m)) (a.eval (.const (.string key))) (a.eval (.tmp t))).run C.P (w.alloc (.map es clock))=.ok () (w.alloc (.map (es.push { key:=.string key,val:=vt,born:=clock }) (clock+1))):=by
    have e1:a.eval (.tmp m)=.map (some w.heap.size):=hm;have e2:a.eval (.const (.string key))=.string key:=rfl;have e3:a.eval (.tmp t)=vt:=hvt;rw[e1,e2,e3,<-hset];simp[Instr.mapUpdate,BS a1,MapKept.run_getObj_map hb,hc,MapKept.run_findKey a2 hf,MapKept.run_setObj_map _ hb,Result.andThen]
   rw[this];rfl
  unfold Oper.wp;rw[hrun];show wpOps C.P ops (Gt C F K) l (a.put o.dst undef) (w.alloc (.map (es.push { key:=.string key,val:=vt,born:=clock }) (clock+1)));rw[hd];have hrv:=hs.env t;rw[hv,hvt]at hrv;refine h hds.2 l hl.2 ρ _ w _ _ ⟨hs.mem,λk g hg=>hs.fresh k g (by have:s.n+1<=g:=hg;omega),λe he=>BK (hs.gen e he),hs.env,hs.nt,hs.dfr⟩ hm hlt ⟨hr.hB.push _ _,by simp[hr.h1],by simp[hr.h2],λi d' hd'=>?_,λi d' hd'=>?_⟩
  ·rcases Aq i ks.length with hi|hi
   ·rw[CT hi]at hd'
    have:=hr.hk i d' hd'
    rw[AT,FY,AN (by rw[hr.h1];omega),<-AT];exact this
   ·rw[B8 hi]at hd'
    have hz:i=ks.length:=by
     have:=(Ay.1 hd').1
     simp at this;omega
    subst hz;simp at hd';subst hd';rw[AT,FY,AM hr.h1.symm];exact λ_ _ _=>.prim _
  ·rcases Aq i vs.length with hi|hi
   ·rw[CT hi]at hd'
    have:=hr.hv i d' hd'
    rw[AT,FY,AN (by rw[hr.h2];omega),<-AT];exact this
   ·rw[B8 hi]at hd'
    have hz:i=vs.length:=by
     have:=(Ay.1 hd').1
     simp at this;omega
    subst hz;simp at hd';subst hd';rw[AT,FY,AM hr.h2.symm];exact λρ' O' w'=>hflat _ _ _ _ hrv ρ' O' w'
theorem EM.done {m:Nat}{ks vs:List D}(h:AR C F ops os ⟨Ak s.env (some m) (.mp ks vs),s.H,s.n⟩ K):EM C F ops os m ks vs s K:=by
 intro hds l hl ρ a w es clock hs hm hlt hr;have hO:¬AF F.X ρ s.H w.heap.size:=λh'=>AW (hs.mem.own_lt h') (Nat.lt_irrefl _)
 have x:=Ao.allocPure (ρ:=ρ) (F:=F) (H:=s.H) (w:=w) (.map es clock);refine h hds l hl ρ a _ ⟨hs.mem.allocPure _,hs.fresh,hs.gen,λt=>?_,hs.nt,hs.dfr⟩;show AG _ _ _ (Ab.get ((m,.mp ks vs)::s.env) t) _;rw[Gk]
 by_cases ht:m=t
 ·subst ht
  rw[AM rfl,hm];exact .mp hO (by simp) (by rw[Cc,AM rfl]) hr.h1 hr.h2 hr.hB (λi d hd=>hr.hk i d hd _ _ _) (λi d hd=>hr.hv i d hd _ _ _)
 ·rw[AN ht];exact(hs.env t).mono x
def WC (C:AZ)(f:Nat)(ds:List D)(d:D):Prop:=∀(ρ:Lk) (O:Nat->Prop) (w:World) (vs:Array Value),vs.size=ds.length->(∀(i:Nat) (x:D),ds[i]?=some x->AG ρ O w x (vs.getD i undef)) ->
 ∃v,(callFunc f vs).run C.P w=.ok (.value v) w/\AG ρ O w d v
def Eo (d0:D):Nat->D->D
 | 0,t=>t
 |n+1,t=>match t with
  | .any=>d0
  | .agg l=>.agg (l.map (Eo d0 n))
  | .mp ks vs=>.mp ks (vs.map (Eo d0 n))
  | .clo fn a b=>.clo fn (a.map (Eo d0 n)) b
  |t=>t
theorem MB {ρ:Lk}{O:Nat->Prop}{w:World}{d0:D}{v0:Value}(h0:AG ρ O w d0 v0):∀(n:Nat) (t:D) (x:Value),AG nol O w (Eo (.prim v0) n t) x->AG ρ O w (Eo d0 n t) x
 | 0,t,x,h=>h.nol
 |n+1,t,x,h=>by
  have get:∀(l:List D) (i:Nat) (d:D),(l.map (Eo d0 n))[i]?=some d->∃y,l[i]?=some y/\d=Eo d0 n y:=λl i d hd=>by
   simp only[Bf,Gm]at hd;obtain⟨y,h1,h2⟩:=hd;exact⟨y,h1,h2.symm⟩
  have put:∀(l:List D) (i:Nat) (y:D),l[i]?=some y->(l.map (Eo (.prim v0) n))[i]?=some (Eo (.prim v0) n y):=λl i y hy=>by simp[hy]
  cases t with
  |any=>
   simp only[Eo]at h⊢;cases h;exact h0
  |agg l=>
   simp only[Eo]at h⊢;cases h with
   |agg hn ho hh=>
    exact .agg (by simpa using hn) ho λi d hd=>by
     obtain⟨y,h1,rfl⟩:=get l i d hd;exact MB h0 n y _ (hh i _ (put l i y h1))
  |mp ks vs=>
   simp only[Eo]at h⊢;cases h with
   |mp hO hr hb h1 h2 hB hk hv=>
    exact .mp hO hr hb h1 (by simpa using h2) hB (λi d hd=>(hk i d hd).nol) λi d hd=>by
     obtain⟨y,h1,rfl⟩:=get vs i d hd;exact MB h0 n y _ (hv i _ (put vs i y h1))
  |clo fn a b=>
   simp only[Eo]at h⊢;cases h with
   |clo hf hc h1 h2=>
    exact .clo (by simpa using hf) hc (λi d hd=>by
     obtain⟨y,q1,rfl⟩:=get a i d hd;exact MB h0 n y _ (h1 i _ (put a i y q1))) λi d hd=>(h2 i d hd).nol
  |_=>exact AG.nol h
def Td (d:D):Prop:=∀(ρ:Lk) (O:Nat->Prop) (w:World) (v:Value),AG ρ O w d v->∃a,v=.pointer a
def Jt:D->Bool
 | .optr ..=>true
 | .pptr _=>true
 | .prim (.pointer _)=>true
 |_=>false
theorem Rv {d:D}(h:Jt d=true):Td d:=λρ O w v hr=>by
 unfold Jt at h;split at h<;>first|(cases h;done)|(cases hr;exact⟨_,rfl⟩)
def Kk (C:AZ)(f:Nat)(ds:List D)(d:D):Prop:=∃(d0 t:D) (n:Nat),ds=[d0]/\d=Eo d0 n t/\Td d0/\∀a,Aa C f [.prim (.pointer a)] (Eo (.prim (.pointer a)) n t)/\GY C.P f
def GX (C:AZ)(f:Nat)(ds:List D)(d:D):Prop:=WC C f ds d\/Kk C f ds d
theorem Kk.run {C:AZ}{f:Nat}{ds:List D}{d:D}(h:Kk C f ds d):GY C.P f/\∀(ρ:Lk) (X:Nat->Prop) (w:World) (vs:Array Value),C.G w->C.nG<=w.heap.size->(∀b,X b->b<w.heap.size)->vs.size=ds.length ->
  (∀(i:Nat) (x:D),ds[i]?=some x->AG ρ X w x (vs.getD i undef))->Calls C.P f vs w (λe w'=>∃v,e=.returned v/\Below w.heap.size w w'/\AG ρ X w' d v):=by
 obtain⟨d0,t,n,rfl,rfl,hp,hc⟩:=h;refine⟨(hc none).2,λρ X w vs a1 a2 a3 a4 a5=>?_⟩;have h0:=a5 0 d0 rfl;obtain⟨a,ha⟩:=hp _ _ _ _ h0;refine((hc a).1.2 X w vs a1 a2 a3 a4 λi x hx=>?_).mono ?_
 ·cases i with
  |zero=>simp at hx;subst hx;rw[ha];exact .prim _
  |succ i=>simp at hx
 ·rintro e w' ⟨v,d',rfl,hb,rfl,hr⟩
  refine⟨v,rfl,hb,MB ?_ n t v hr⟩;rw[ha]at h0;exact h0.mono ⟨hb.size,λ_ _ _ h=>h,λb hb' hO=>⟨hO,hb.block b hb'⟩,λb cs T fz hh=>⟨cs,_,by rw[hb.block b (Bo.1 hh).1];exact hh,rfl⟩⟩
theorem QD {f:Nat}{g:Operand->D}{O:Nat->Prop}{first captured:List D}{fop:Operand}{args:Array Operand}{tys:Array Nat}{ρ:Lk}{a:Act}{w:World}(ho:o.op=.call ⟨.value fop,args,tys⟩)
  (hf:g fop=.clo (.func f) first captured) (hg:∀x,AG ρ O w (g x) (a.eval x)):
  ∃vs,(execOp a.eval o).run C.P w=(callFunc f vs).run C.P w/\vs.size=(first++args.toList.map g++captured).length /\
   ∀(i:Nat) (d:D),(first++args.toList.map g++captured)[i]?=some d->AG ρ O w d (vs.getD i undef):=by
 have hfr:=hg fop;rw[hf]at hfr;generalize hv:a.eval fop=v at hfr;cases hfr with
 |clo hn hc h1 h2=>
  rename_i fs cs;refine⟨fs++args.map a.eval++cs,?_,by simp[hn,hc],λi d hd=>?_⟩
  ·unfold execOp
   simp only[ho];rw[run_bind]
   have:(resolve a.eval ⟨.value fop,args,tys⟩ o.type).run C.P w=.ok { target:=.fn (.func f) cs,args:=fs++args.map a.eval } w:=by
    unfold resolve;simp only[hv];rfl
   rw[this];dsimp only;unfold invoke;rfl
  ·rw[Cr]at hd
   rcases Aq i first.length with hi|hi
   ·rw[CT hi]at hd
    have:(fs++args.map a.eval++cs).getD i undef=fs.getD i undef:=by
     simp only[AT];rw[Iz,D5 (by omega)]
    rw[this];exact h1 i d hd
   ·rw[B8 hi]at hd
    rcases Aq (i-first.length) args.size with hj|hj
    ·rw[CT (by simpa using hj)]at hd
     simp at hd;obtain⟨x,hx,rfl⟩:=hd
     have:(fs++args.map a.eval++cs).getD i undef=a.eval x:=by
      simp only[AT];rw[Iz,D4 (by omega),D5 (by simp;omega),hn];simp[hx]
     rw[this];exact hg x
    ·rw[B8 (by simpa using hj)]at hd
     have:(fs++args.map a.eval++cs).getD i undef=cs.getD (i-first.length-args.size) undef:=by
      simp only[AT];rw[Iz,D4 (by omega),D4 (by simp;omega),hn];simp
     rw[this];exact h2 _ d (by simpa using hd)
theorem AR.nat {f:Nat}{first captured ds:List D}{fop:Operand}{args:Array Operand}{tys:Array Nat}{d:D}(hw:Am ops s.env o=some true)(ho:o.op=.call ⟨.value fop,args,tys⟩)
  (hf:AV s.env fop=.clo (.func f) first captured) (hds:first++args.toList.map (AV s.env)++captured=ds) (hc:GX C f ds d)
  (h:AR C F ops os ⟨Ak s.env o.dst d,s.H,s.n+1⟩ K):AR C F ops (o::os) s K:=
by
 rcases hc with hc|hc
 ·exact AR.step hw (λρ a w hs=>by
   obtain⟨vs,h1,h2,h3⟩:=QD (C:=C) (a:=a) ho hf (BN hs.env);rw[hds]at h2 h3;obtain⟨v,h4,h5⟩:=hc _ _ _ vs h2 h3;exact⟨v,ρ,w,.inl (h1.trans h4),.pure hs h5,λe he=>BK (hs.gen e he)⟩) h
 ·obtain⟨hcb,hrun⟩:=hc.run
  exact Ph (f:=f) (Φ:=(· = d)) hw (λρ a w hs=>by
   obtain⟨vs,q1,q2,q3⟩:=IH (C:=C) (a:=a) ho hf hcb (BN hs.env);rw[hds]at q2 q3;have m:=hs.mem;refine⟨vs,q1,(hrun ρ _ w vs m.g (Az m.gn m.size) (λb hb=>m.own_lt hb) q2 q3).mono ?_⟩;rintro e w' ⟨v,h1,h2,h3⟩;exact⟨v,d,h1,h2,rfl,h3⟩) λd' hd=>by subst hd;exact h
theorem A0.nat {H:Hp}{g f:Nat}{env:Ab}{first captured ds:List D}{fop:Operand}{args:Array Operand}{tys:Array Nat}{d:D}(hw:Am ops env o=some true)(ho:o.op=.call ⟨.value fop,args,tys⟩)
  (hf:AV env fop=.clo (.func f) first captured) (hds:first++args.toList.map (AV env)++captured=ds) (hc:GX C f ds d):A0 C F ops H g env o d none:=by
 refine⟨by simp,λHe ρ a w m hsub fr hne hr=>.inr ⟨Dx hr hw,?_⟩⟩;obtain⟨g',h1,h2⟩:=EA hr;have hfop:fop∈o.op.operands:=by rw[ho];simp[Op.operands,Call.operands]
 have harg:∀x∈args.toList,AV env x=g' x:=λx hx=>h1 x (by rw[ho];simp[Op.operands,Call.operands];right;simpa using hx)
 rw[h1 fop hfop]at hf;rw[HO harg]at hds;rcases hc with hc|hc
 ·left
  obtain⟨vs,q1,q2,q3⟩:=QD (C:=C) (g:=g') ho hf h2;rw[hds]at q2 q3;obtain⟨v,h4,h5⟩:=hc _ _ _ vs q2 q3;exact⟨v,ρ,w,q1.trans h4,m,.refl _ _ _,λ_ _ _=>rfl,h5⟩
 ·right
  obtain⟨hcb,hrun⟩:=hc.run;obtain⟨vs,q1,q2,q3⟩:=IH (g:=g') ho hf hcb h2;rw[hds]at q2 q3;refine⟨f,vs,q1,(hrun ρ _ w vs m.g (Az m.gn m.size) (λb hb=>m.own_lt hb) q2 q3).mono ?_⟩;rintro e w' ⟨v,rfl,hb,hrep⟩;have x:Ao ρ (AF F.X ρ He) w ρ (AF F.X ρ He) w':=⟨hb.size,λ_ _ _ h=>h,λb hb' hO=>⟨hO,hb.block b hb'⟩,λb cs T fz hh=>⟨cs,_,by
   rw[hb.block b (Bo.1 hh).1];exact hh,rfl⟩⟩
  exact⟨v,rfl,ρ,m.same x hb.os hb.tape hb.output hb.block,x,λ_ _ _=>rfl,hrep⟩
end
def TE (op:BinOp)(k k':IntKind)(b:Int):Bool:=match op with
 | .quo | .rem=>decide (k=k') && !(decide (b=0))
 | .shl | .shr=>decide (0<=b)
 |_=>decide (k=k')
def Na (op:BinOp)(x y:Value):Bool:=match x,y with
 | .int k _,.int k' b=>TE op k k' b
 | .string a,.string b=>match op with
  | .add=>Nat.ble (a.size+b.size) 9223372036854775807
  |_=>true
 |_,_=>true
theorem ST {op:BinOp}{x y v:Value}{p:Prop}(h:Ip op x y=some (v,p))(hk:Na op x y=true):p:=by
 unfold Ip at h;unfold Na at hk;split at h
 ·dsimp only at hk
  unfold TE at hk;cases op<;>simp only[Af,Au]at h<;>obtain⟨_,rfl⟩:=h<;>simpa using hk
 ·cases op<;>simp only[Af,Au,reduceCtorEq]at h<;>obtain⟨_,rfl⟩:=h<;>first|trivial|(dsimp only at hk;exact BD hk)
 ·cases h
def Px (ti:TI)(x y:D):Bool:=match ti,x,y with
 | .slice ..,.sl false _ es,.prim (.slice none _ _)=>!es.isEmpty
 |_,_,_=>true
theorem cr {ti:TI}{x y:D}{b:Bool}{p:Prop}(h:I2 ti x y=some (b,p))(hk:Px ti x y=true):p:=by
 unfold I2 at h;split at h<;>try(cases h;done)
 all_goals(simp only[Af,Au]at h;obtain⟨_,rfl⟩:=h)
 all_goals first
  |trivial
  |(simp only[Px]at hk;intro he;subst he;simp at hk)
def Mw (tt:Nat->Option AL)(op:BinOp)(t:Nat)(x y:D):Bool:=match x,y with
 | .prim (.int k a),.prim (.int k' b)=>Na op (.int k a) (.int k' b)
 | .prim (.string a),.prim (.string b)=>Na op (.string a) (.string b)
 |x,y=>match tt t with
  |some i=>Px i.ti x y
  |none=>true
theorem W2 {tt:Nat->Option AL}{op:BinOp}{t:Nat}{x y d:D}{p:Prop}(h:Io tt op t x y=some (d,p))(hk:Mw tt op t x y=true):p:=by
 unfold Io at h;unfold Mw at hk;split at h
 ·dsimp only at hk
  split at h<;>try(cases h;done)
  rename_i hb;cases h;exact ST hb hk
 ·dsimp only at hk
  split at h<;>try(cases h;done)
  rename_i hb;cases h;exact ST hb hk
 ·rename_i h1 h2
  split at hk
  ·exact AW rfl (h1 _ _ _ _ rfl)
  ·exact AW rfl (h2 _ _ rfl)
  ·split at h<;>try(cases h;done)
   rename_i i hi;split at h<;>try(cases h;done)
   rename_i b q hb;split at h<;>try(cases h;done)
   cases h;rw[hi]at hk;exact cr hb hk
def Hg (ag:Bool)(sz:Nat)(d:D):Bool:=match ag with
 |true=>match d with
  | .agg ds=>Nat.beq ds.length sz
  |_=>false
 |false=>Nat.beq sz 1&&d.one
theorem Kc {ag:Bool}{sz:Nat}{d:D}(h:Hg ag sz d=true):Cv ag sz d:=by
 unfold Hg at h;split at h
 ·split at h
  ·rw[<-Ae h];exact Cv.agg
  ·cases h
 ·simp only[Ag]at h
  rw[Ae h.1];exact NF h.2
def MZ (fs:List (Nat×Nat×Bool))(g:Operand->D):List (Nat×Operand)->List D->Bool
 | [],_=>true
 |(i,x)::r,cs=>match fs[i]? with
  |some (o,sz,ag)=>Hg ag sz (g x)&&Nat.ble (o+sz) cs.length&&MZ fs g r (Do cs o (Di ag (g x)))
  |none=>true
theorem Qd {fs:List (Nat×Nat×Bool)}{g:Operand->D}:∀ {ps:List (Nat×Operand)} {cs cs':List D} {p:Prop},FP fs g ps cs=some (cs',p)->MZ fs g ps cs=true->p
 | [],cs,cs',p,h,_=>by simp only[FP,Af,Au]at h;obtain⟨_,rfl⟩:=h;trivial
 |(i,x)::r,cs,cs',p,h,hk=>by
  simp only[FP]at h;simp only[MZ]at hk;cases hf:fs[i]? with
  |none=>simp[hf]at h
  |some q=>
   obtain⟨o,sz,ag⟩:=q;simp only[hf]at h hk;cases hr:FP fs g r (Do cs o (Di ag (g x)))with
   |none=>simp[hr]at h
   |some q=>
    obtain⟨c2,p2⟩:=q;simp only[hr,Af,Au]at h;obtain⟨_,rfl⟩:=h;simp only[Ag]at hk;exact⟨⟨Kc hk.1.1,BD hk.1.2⟩,Qd hr hk.2⟩
def LM (n:Nat):D->Bool
 | .prim (.int _ x)=>decide (0<=x)&&decide (x<=n)
 |_=>true
theorem MM {n m:Nat}{d:D}{p:Prop}(h:Hm n d=some (m,p))(hk:LM n d=true):p:=by
 unfold Hm at h;split at h
 ·simp only[Af,Au]at h;obtain⟨_,rfl⟩:=h
  simpa[LM]using hk
 ·cases h
def Ij (n:Nat)(lo hi:Option D):Bool:=match hi with
 |none=>match lo with
  |none=>true
  |some l=>LM n l
 |some h=>LM n h&&(match Hm n h with
  |some (m,_)=>match lo with
   |none=>true
   |some l=>LM m l
  |none=>true)
theorem Kd {n a b:Nat}{lo hi:Option D}{p:Prop}(h:FN n lo hi=some (a,b,p))(hk:Ij n lo hi=true):p:=by
 unfold FN at h;unfold Ij at hk;cases hi with
 |none=>
  cases lo with
  |none=>simp only[Af,Au]at h;obtain⟨_,_,rfl⟩:=h;trivial
  |some l=>
   dsimp only at h hk;split at h<;>try(cases h;done)
   rename_i hb;cases h;exact MM hb hk
 |some hh=>
  dsimp only at h hk;simp only[Ag]at hk;split at h<;>try(cases h;done)
  rename_i m q hb;rw[hb]at hk;cases lo with
  |none=>cases h;exact MM hb hk.1
  |some l=>
   dsimp only at h hk;split at h<;>try(cases h;done)
   rename_i hb2;cases h;exact⟨MM hb hk.1,MM hb2 hk.2⟩
def Om (tt:Nat->Option AL)(t:Nat)(x:D)(lo hi:Option D):Bool:=match tt t with
 |some i=>match i.ti,x with
  | .string,.prim (.string s)=>Ij s.size lo hi
  | .slice _ esz _ _,.sl _ sz es=>Ij es.length lo hi&&Nat.beq esz sz
  | .slice _ esz _ _,.osl _ _ sz _ len=>Ij len lo hi&&Nat.beq esz sz&&(match FN len lo hi with
   |some (l,h,_)=>Nat.blt l h||Nat.beq l 0
   |none=>true)
  |_,_=>true
 |none=>true
theorem VI {tt:Nat->Option AL}{t:Nat}{x d:D}{lo hi:Option D}{p:Prop}(h:K0 tt t x lo hi=some (d,p))(hk:Om tt t x lo hi=true):p:=by
 unfold K0 at h;unfold Om at hk;cases hi':tt t with
 |none=>simp[hi']at h
 |some i=>
  simp only[hi']at h hk;split at h<;>try(cases h;done)
  ·rename_i hti
   simp only[hti]at hk;split at h<;>try(cases h;done)
   rename_i hb;cases h;exact Kd hb hk
  ·rename_i hti
   simp only[hti,Ag]at hk;split at h<;>try(cases h;done)
   rename_i hb;cases h;exact⟨Kd hb hk.1,Ae hk.2⟩
  ·rename_i hti
   simp only[hti,Ag]at hk;split at h<;>try(cases h;done)
   rename_i l hh q hb;cases h;simp only[hb]at hk;refine⟨Kd hb hk.1.1,Ae hk.1.2,?_⟩
   have:=hk.2
   simp only[LV]at this;exact this.imp Nat.blt_eq.mp Ae
theorem QY {k:IntKind}:∀ {r:List D} {a:Int} {d:D} {p:Prop},HW k a r=some (d,p)->p
 | [],a,d,p,h=>by simp only[HW,Af,Au]at h;obtain⟨_,rfl⟩:=h;trivial
 |x::r,a,d,p,h=>by
  unfold HW at h;split at h
  ·rename_i h1;cases h1
  ·rename_i h1;cases h1;exact QY h
  ·cases h
theorem QX {k:IntKind}:∀ {r:List D} {a:Int} {d:D} {p:Prop},HV k a r=some (d,p)->p
 | [],a,d,p,h=>by simp only[HV,Af,Au]at h;obtain⟨_,rfl⟩:=h;trivial
 |x::r,a,d,p,h=>by
  unfold HV at h;split at h
  ·rename_i h1;cases h1
  ·rename_i h1;cases h1;exact QX h
  ·cases h
theorem VV {tt:Nat->Option AL}{b:Builtin}{tys:List Nat}{args:List D}{d:D}{p:Prop}(h:Kj tt b tys args=some (d,p)):p:=by
 unfold Kj at h
 (repeat' split at h)<;>first|(cases h;done)|(cases h;trivial)|exact QY h|exact QX h
def Ed (tt:Nat->Option AL)(g:Operand->D):Op->Bool
 | .pick c a b=>match g c with
  | .prim (.bool true)=>(FR (g a)).2
  | .prim (.bool false)=>(FR (g b)).2
  |_=>true
 | .build t ps=>match tt t with
  |some i=>match MN i.ti with
   |some fs=>MZ fs g ps.toList (i.zero.cells.toList.map .prim)
   |none=>true
  |none=>true
 | .binOp op t x y _=>Mw tt op t (g x) (g y)
 | .slice t x lo hi none=>Om tt t (g x) (lo.map g) (hi.map g)
 | .indexAddr t x ix=>match tt t with
  |some i=>match i.ti,g ix with
   | .arr n _ _,.prim (.int _ j)=>decide (0<=j)&&decide (j<n)
   | .slice _ esz _ _,.prim (.int _ j)=>match g x with
    | .osl _ _ sz _ len=>decide (0<=j)&&decide (j<len)&&Nat.beq esz sz
    |_=>true
   |_,_=>true
  |none=>true
 | .index t x ix=>match tt t with
  |some i=>match i.ti,g x,g ix with
   | .string,.prim (.string s),.prim (.int _ j)=>decide (0<=j)&&decide (j<s.size)
   |_,_,_=>true
  |none=>true
 |_=>true
theorem Kt {tt:Nat->Option AL}{g:Operand->D}{op:Op}{d:D}{p:Prop}(h:CG tt g op=some (d,p))(hk:Ed tt g op=true):p:=by
 unfold CG at h;split at h<;>try(cases h;done)
 ·cases h;trivial
 ·cases h;trivial
 ·rename_i c a b
  simp only[Ed]at hk;split at h<;>try(cases h;done)
  rename_i t hc;rw[hc]at hk;cases h;cases t
  ·exact⟨λh=>(by cases h),λ_=>hk⟩
  ·exact⟨λ_=>hk,λh=>(by cases h)⟩
 ·rename_i t ps
  simp only[Ed]at hk;unfold Kv at h;split at h<;>try(cases h;done)
  rename_i i hi;simp only[hi]at hk;split at h<;>try(cases h;done)
  rename_i fs hf;simp only[hf]at hk;split at h<;>try(cases h;done)
  rename_i hfl;cases h;exact Qd hfl hk
 ·split at h<;>first|(cases h;done)|(cases h;trivial)
 ·exact W2 h hk
 ·split at h<;>first|(cases h;done)|(cases h;trivial)
 ·split at h<;>try(cases h;done)
  split at h<;>first|(cases h;done)|(cases h;trivial)
 ·cases h;trivial
 ·exact VI h hk
 ·(repeat' split at h)<;>first|(cases h;done)|(cases h;trivial)
 ·(repeat' split at h)<;>first|(cases h;done)|(cases h;trivial)
 ·rename_i t x ix
  simp only[Ed]at hk;split at h<;>try(cases h;done)
  rename_i i hi;simp only[hi]at hk;split at h<;>try(cases h;done)
  ·rename_i h1 h2
   simp only[h1,h2]at hk;split at h<;>try(cases h;done)
   cases h;simpa using hk
  ·rename_i h1 h2
   simp only[h1,h2]at hk;split at h<;>try(cases h;done)
   rename_i h3;cases h;simp only[h3,Ag,FE]at hk;exact⟨hk.1.1,hk.1.2,Ae hk.2⟩
 ·rename_i t x ix
  simp only[Ed]at hk;split at h<;>try(cases h;done)
  rename_i i hi;simp only[hi]at hk;split at h<;>try(cases h;done)
  rename_i h1 h2 h3;simp only[h1,h2,h3]at hk;cases h;simpa using hk
 ·(repeat' split at h)<;>first|(cases h;done)|(cases h;trivial)
 ·exact VV h
def Ii (ag:Bool)(sz:Nat):List D->Bool
 | []=>true
 |d::l=>Hg ag sz d&&Ii ag sz l
theorem OT {ag:Bool}{sz:Nat}:∀ {l:List D},Ii ag sz l=true->Hb ag sz l
 | [],_=>trivial
 | [d],h=>by simp only[Ii,Ag]at h;exact Kc h.1
 |d::d'::l,h=>by simp only[Ii,Ag]at h;exact⟨Kc h.1,OT (by simp only[Ii,Ag];exact h.2)⟩
def Fg (tt:Nat->Option AL)(H:Hp)(g:Operand->D):Op->Bool
 | .load t x=>match tt t with
  |some i=>match g x with
   | .optr k gg sz j off=>match Hp.get H k with
    |some e=>match e.es[j]? with
     |some d=>Nat.beq gg e.g&&Nat.beq sz e.sz&&(bif Nat.ble 1 e.sz then bif i.ag then Nat.ble (off+i.sz) d.cells.length else true else false)
     |none=>true
    |none=>true
   | .pptr d=>match i.ag with
    |true=>match d with
     | .agg ds=>Nat.beq ds.length i.sz
     |_=>true
    |false=>Ie d
   |_=>true
  |none=>true
 | .alloc t=>match tt t with
  |some i=>Nat.ble 1 i.sz
  |none=>true
 | .box t x=>match tt t with
  |some i=>Hg i.ag i.sz (g x)&&Nat.ble 1 i.sz
  |none=>true
 | .buildSlice t len ps=>match tt t with
  |some i=>match i.ti with
   | .slice e esz _ _=>match len with
    | 0=>Nat.ble 1 esz
    |len+1=>match tt e with
     |some ie=>match EO g 0 ps.toList with
      |some es=>Ii ie.ag esz es&&Nat.beq es.length (len+1)&&Nat.ble ((len+1)*esz) 16777216&&Nat.ble 1 esz
      |none=>true
     |none=>true
   |_=>true
  |none=>true
 |_=>true
theorem O8 {tt:Nat->Option AL}{H:Hp}{n k:Nat}{g:Operand->D}{op:Op}{d:D}{ne:Option AK}{p:Prop}(h:Cg tt H n k g op=some (d,ne,p))(hk:Fg tt H g op=true):p:=by
 unfold Cg at h;split at h<;>try(cases h;done)
 ·simp only[Fg]at hk
  split at h<;>try(cases h;done)
  rename_i i hi;simp only[hi]at hk;split at h<;>try(cases h;done)
  ·rename_i h1
   simp only[h1]at hk;split at h<;>try(cases h;done)
   rename_i e he;simp only[he]at hk;split at h<;>try(cases h;done)
   rename_i d1 hd;simp only[hd]at hk;split at h<;>try(cases h;done)
   cases h;simp only[Ag]at hk;exact⟨Ae hk.1.1,Ae hk.1.2,hk.2⟩
  ·rename_i h1
   simp only[h1]at hk;split at h
   ·rename_i ha
    simp only[ha]at hk;split at h<;>try(cases h;done)
    cases h;exact hk
   ·rename_i ha
    simp only[ha]at hk;cases h;exact hk
 ·simp only[Fg]at hk
  split at h<;>try(cases h;done)
  rename_i i hi;simp only[hi]at hk;cases h;exact hk
 ·simp only[Fg]at hk
  split at h<;>try(cases h;done)
  rename_i i hi;simp only[hi]at hk;cases h;simp only[Ag]at hk;exact⟨Kc hk.1,hk.2⟩
 ·simp only[Fg]at hk
  split at h<;>try(cases h;done)
  rename_i i hi;simp only[hi]at hk;split at h<;>try(cases h;done)
  rename_i h1;simp only[h1]at hk;split at h
  ·dsimp only at hk
   split at h<;>first|(cases h;done)|(cases h;exact hk)
  ·dsimp only at hk
   split at h<;>try(cases h;done)
   rename_i h2;simp only[h2]at hk;split at h<;>try(cases h;done)
   rename_i h3;simp only[h3,Ag]at hk;cases h;exact⟨OT hk.1.1.1,Ae hk.1.1.2,hk.1.2,hk.2⟩
def KC (tt:Nat->Option AL)(H:Hp)(g:Operand->D):Op->Bool
 | .store t x y=>match tt t with
  |some i=>match g x with
   | .optr k gg sz _ off=>match Hp.get H k with
    |some e=>Hg i.ag i.sz (g y)&&Nat.beq gg e.g&&Nat.beq sz e.sz&&(bif Nat.ble 1 e.sz then Nat.ble (off+i.sz) e.sz else false)
    |none=>true
   |_=>true
  |none=>true
 |_=>true
theorem Sy {tt:Nat->Option AL}{H:Hp}{g:Operand->D}{op:Op}{k:Nat}{e':AK}{p:Prop}(h:DH tt H g op=some (k,e',p))(hk:KC tt H g op=true):p:=by
 unfold DH at h;split at h<;>try(cases h;done)
 simp only[KC]at hk;split at h<;>try(cases h;done)
 rename_i i hi;simp only[hi]at hk;split at h<;>try(cases h;done)
 rename_i h1;simp only[h1]at hk;split at h<;>try(cases h;done)
 rename_i h2;simp only[h2,Ag]at hk;split at h<;>try(cases h;done)
 cases h;exact⟨Kc hk.1.1.1,Ae hk.1.1.2,Ae hk.1.2,hk.2⟩
def Hk (H:Hp)(esz:Nat):D->Bool
 | .sl _ sz _=>Nat.beq sz esz
 | .osl k g sz i len=>match Hp.get H k with
  |some e=>Nat.beq g e.g&&Nat.beq sz e.sz&&Nat.beq sz esz&&Nat.ble (i+len) e.es.length
  |none=>true
 |_=>true
theorem IU {H:Hp}{esz:Nat}{d:D}{es:List D}{p:Prop}(h:DC H esz d=some (es,p))(hk:Hk H esz d=true):p:=by
 unfold DC at h;split at h<;>try(cases h;done)
 ·cases h;exact Ae hk
 ·simp only[Hk]at hk
  split at h<;>try(cases h;done)
  rename_i h1;simp only[h1,Ag]at hk;cases h;exact⟨Ae hk.1.1.1,Ae hk.1.1.2,Ae hk.1.2,BD hk.2⟩
 ·cases h;trivial
def KA (tt:Nat->Option AL)(H:Hp)(g:Operand->D):Op->Bool
 | .call ⟨.builtin .append,args,tys⟩=>match args.toList with
  | [s,x]=>match tys.toList with
   | [t,_]=>match tt t with
    |some i=>match i.ti with
     | .slice e esz eby _=>Hk H esz (g x)&&Nat.ble 1 eby&&Nat.ble 1 esz&&(match DC H esz (g x)with
      |some (news,_)=>match g s with
       | .osl k1 g1 sz _ len=>match Hp.get H k1 with
        |some e1=>Nat.beq g1 e1.g&&Nat.beq sz e1.sz&&Nat.beq sz esz&&Nat.beq e1.T e&&Nat.ble len e1.es.length&&Nat.ble ((len+news.length)*eby) 140737488355328
        |none=>true
       |_=>Nat.ble (news.length*eby) 140737488355328
      |none=>true)
     |_=>true
    |none=>true
   |_=>true
  |_=>true
 |_=>true
theorem MY {tt:Nat->Option AL}{H:Hp}{n k:Nat}{g:Operand->D}{op:Op}{d:D}{H':Hp}{p:Prop}(h:Cf tt H n k g op=some (d,H',p))(hk:KA tt H g op=true):p:=by
 unfold Cf at h;split at h<;>try(cases h;done)
 simp only[KA]at hk;split at h<;>try(cases h;done)
 rename_i h1;simp only[h1]at hk;split at h<;>try(cases h;done)
 rename_i h2;simp only[h2]at hk;split at h<;>try(cases h;done)
 split at h<;>try(cases h;done)
 rename_i h3;simp only[h3]at hk;split at h<;>try(cases h;done)
 rename_i h4;simp only[h4]at hk;split at h<;>try(cases h;done)
 rename_i h5;simp only[h5,Ag]at hk;obtain⟨⟨⟨k1,k2⟩,k3⟩,k4⟩:=hk;split at h<;>try(cases h;done)
 ·rename_i h6
  simp only[h6]at k4;split at h<;>try(cases h;done)
  rename_i h7;simp only[h7,Ag]at k4;cases h;exact⟨IU h5 k1,Ae k4.1.1.1.1.1,Ae k4.1.1.1.1.2,Ae k4.1.1.1.2,Ae k4.1.1.2,BD k4.1.2,BD k4.2,
   BD k2,BD k3⟩
 ·rename_i h6
  simp only[h6]at k4;cases h;exact⟨IU h5 k1,BD k4,BD k2,BD k3⟩
def IB (tt:Nat->Option AL)(g:Operand->D):Op->Bool
 | .makeSlice t l c=>match tt t with
  |some i=>match i.ti with
   | .slice _ esz eby _=>match g l with
    | .prim (.int _ a)=>match g c with
     | .prim (.int _ b)=>decide (0<=a)&&decide (a<=b)&&decide ((eby:Int)*b<=281474976710656)&&decide (b<=9223372036854775807)&&Nat.ble 1 esz
     |_=>true
    |_=>true
   |_=>true
  |none=>true
 |_=>true
theorem O9 {tt:Nat->Option AL}{n k:Nat}{g:Operand->D}{op:Op}{d:D}{e:AK}{p:Prop}(h:EJ tt n k g op=some (d,e,p))(hk:IB tt g op=true):p:=by
 unfold EJ at h;split at h<;>try(cases h;done)
 simp only[IB]at hk;split at h<;>try(cases h;done)
 rename_i h1;simp only[h1]at hk;split at h<;>try(cases h;done)
 rename_i h2;simp only[h2]at hk;split at h<;>try(cases h;done)
 rename_i h3;simp only[h3]at hk;split at h<;>try(cases h;done)
 rename_i h4;simp only[h4,Ag,FE]at hk;cases h;exact⟨hk.1.1.1.1,hk.1.1.1.2,hk.1.1.2,hk.1.2,hk.2⟩
def NZ (xt:Nat->Option XI)(g:Operand->D):Op->Bool
 | .binOp _ t x _ _=>match xt t with
  |some (.strs n)=>match g x with
   | .agg l=>Nat.beq l.length n
   |_=>true
  |_=>true
 |_=>true
theorem Sx {tt:Nat->Option AL}{xt:Nat->Option XI}{g:Operand->D}{op:Op}{d:D}{p:Prop}(h:Dw tt xt g op=some (d,p))(hk:NZ xt g op=true):p:=by
 unfold Dw at h;split at h<;>try(cases h;done)
 ·(repeat' split at h)<;>first|(cases h;done)|(cases h;trivial)
 ·(repeat' split at h)<;>first|(cases h;done)|(cases h;trivial)
 ·simp only[NZ]at hk
  split at h<;>try(cases h;done)
  ·rename_i h1
   simp only[h1]at hk;split at h<;>try(cases h;done)
   rename_i h2;simp only[h2]at hk;split at h<;>try(cases h;done)
   split at h<;>try(cases h;done)
   split at h<;>try(cases h;done)
   cases h;exact hk
  ·(repeat' split at h)<;>first|(cases h;done)|(cases h;trivial)
noncomputable section
noncomputable def BZ {α:Type}(n:Nat)(k:Nat->α):α:=Nat.rec (motive:=λ_=>α) (k n) (λm _=>k m) (Nat.succ n)
noncomputable def UR {α:Type}(z:Int)(k:Int->α):α:=Int.rec (motive:=λ_=>α) (λn=>BZ n λn=>k (.ofNat n)) (λn=>BZ n λn=>k (.negSucc n)) z
def NQ {α:Type}:List UInt8->(List UInt8->α)->α
 | [],k=>k []
 |b::l,k=>BZ b.toNat λn=>NQ l λl'=>k (UInt8.ofNat n::l')
noncomputable def Pr {α:Type}(v:Value):(D->α)->α:=Value.rec (motive_1:=λ_=>(D->α)->α) (motive_2:=λ_=>Unit) (motive_3:=λ_=>Unit) (λb k=>Bool.rec (motive:=λ_=>α) (k (.prim (.bool false))) (k (.prim (.bool true))) b) (λkd z k=>UR z λz=>k (.prim (.int kd z))) (λa b k=>k (.prim (.float a b))) (λa b c k=>k (.prim (.complex a b c))) (λs k=>NQ s.data.toList λl=>k (.prim (.string ⟨l.toArray⟩))) (λa k=>k (.prim (.pointer a))) (λa b c k=>k (.prim (.slice a b c))) (λa k=>k (.prim (.map a))) (λa k=>k (.prim (.chan a))) (λa b c _ _ k=>k (.prim (.func a b c))) (λk=>k (.prim .nilFunc)) (λa b _ k=>k (.prim (.iface a b))) (λk=>k (.prim .nilIface)) (λa _ k=>k (.prim (.agg a))) (λa _ k=>k (.prim (.tuple a))) (λ_ _=>()) () (λ_ _ _ _=>()) v
noncomputable def I3 {α:Type}(d:D):(D->α)->α:=D.rec (motive_1:=λ_=>(D->α)->α) (motive_2:=λ_=>Unit) (λk=>k .any) (λv k=>Pr v k) (λl _ k=>k (.agg l)) (λl _ k=>k (.tup l)) (λa b l _ k=>k (.sl a b l)) (λd _ k=>k (.pptr d)) (λa g sz i len k=>BZ a λa=>BZ g λg=>BZ i λi=>BZ len λlen=>k (.osl a g sz i len)) (λa g sz i off k=>BZ a λa=>BZ g λg=>BZ i λi=>BZ off λoff=>k (.optr a g sz i off)) (λa b c _ _ k=>k (.clo a b c)) (λa d _ k=>k (.gd a d)) (λa b _ _ k=>k (.mp a b)) (λa d _ k=>k (.ifc a d)) (λa g k=>BZ a λa=>BZ g λg=>k (.omp a g)) (λa g sz i len cap k=>BZ a λa=>BZ g λg=>BZ i λi=>BZ len λlen=>BZ cap λcap=>k (.oxl a g sz i len cap)) (λa g k=>BZ a λa=>BZ g λg=>k (.oyl a g)) () (λ_ _ _ _=>()) d
noncomputable def I4 {α:Type}(l:List D):(List D->α)->α:=List.rec (motive:=λ_=>(List D->α)->α) (λk=>k []) (λd _ ih k=>I3 d λd'=>ih λl'=>k (d'::l')) l
noncomputable def GS {α:Type}(d:D):(D->α)->α:=D.rec (motive_1:=λ_=>(D->α)->α) (motive_2:=λ_=>Unit) (λk=>k .any) (λv k=>Pr v k) (λl _ k=>I4 l λl=>k (.agg l)) (λl _ k=>I4 l λl=>k (.tup l)) (λnn sz es _ k=>I4 es λes=>k (.sl nn sz es)) (λd _ k=>k (.pptr d)) (λa g sz i len k=>BZ a λa=>BZ g λg=>BZ i λi=>BZ len λlen=>k (.osl a g sz i len)) (λa g sz i off k=>BZ a λa=>BZ g λg=>BZ i λi=>BZ off λoff=>k (.optr a g sz i off)) (λfn a b _ _ k=>I4 a λa=>I4 b λb=>k (.clo fn a b)) (λa d _ k=>k (.gd a d)) (λa b _ _ k=>k (.mp a b)) (λa d _ k=>k (.ifc a d)) (λa g k=>BZ a λa=>BZ g λg=>k (.omp a g)) (λa g sz i len cap k=>BZ a λa=>BZ g λg=>BZ i λi=>BZ len λlen=>BZ cap λcap=>k (.oxl a g sz i len cap)) (λa g k=>BZ a λa=>BZ g λg=>k (.oyl a g)) () (λ_ _ _ _=>()) d
theorem Ks {α:Type}(n:Nat)(k:Nat->α):BZ n k=k n:=rfl
theorem dO {α:Type}(z:Int)(k:Int->α):UR z k=k z:=by cases z<;>rfl
theorem Sk {α:Type}:∀(l:List UInt8) (k:List UInt8->α),NQ l k=k l
 | [],_=>rfl
 |b::l,k=>by simp only[NQ,Ks,Sk l];congr 2;exact UInt8.ofNat_toNat
theorem Sl {α:Type}(v:Value)(k:D->α):Pr v k=k (.prim v):=by
 cases v<;>first|rfl|exact dO _ _|(rename_i b;cases b<;>rfl)|exact Sk _ _
theorem dM {α:Type}(d:D)(k:D->α):I3 d k=k d:=by
 cases d<;>first|rfl|exact Sl _ _
theorem MX {α:Type}:∀(l:List D) (k:List D->α),I4 l k=k l
 | [],_=>rfl
 |d::l,k=>by
  show I3 d (λd'=>I4 l λl'=>k (d'::l'))=_;rw[dM,MX l]
theorem Hc {α:Type}(d:D)(k:D->α):GS d k=k d:=by
 cases d<;>first|rfl|exact Sl _ _|exact MX _ _|skip
 exact(MX _ _).trans (MX _ _)
def D0 (f:D->Bool):List D->Bool
 | []=>true
 |d::l=>f d&&D0 f l
def Kw (f:D->Bool):D->Bool
 | .agg l=>D0 f l
 |d=>f d
def Dn:Nat->D->Bool
 | 0,_=>false
 |n+1,d=>match d with
  | .any=>true
  | .prim _=>true
  | .agg l=>D0 (Dn n) l
  | .tup l=>D0 (Dn n) l
  | .sl _ _ es=>D0 (Kw (Dn n)) es
  | .pptr e=>Kw (Dn n) e
  | .clo _ a b=>D0 (Dn n) a&&D0 (Dn n) b
  | .mp a b=>D0 (Dn n) a&&D0 (Dn n) b
  | .ifc _ d=>Dn n d
  |_=>false
theorem Dy {f:D->Bool}:∀ {l:List D},D0 f l=true->∀d∈l,f d=true
 | [],_,_,h=>by simp at h
 |x::l,h,d,hd=>by
  simp only[D0,Ag]at h;rcases Ah.1 hd with rfl|hd
  ·exact h.1
  ·exact Dy h.2 d hd
theorem OK {f:D->Bool}{d:D}(h:Kw f d=true):∀c∈d.cells,f c=true:=by
 unfold Kw at h;split at h
 ·exact Dy h
 ·rename_i hne
  intro c hc;cases d<;>simp only[D.cells,Eb]at hc<;>first|(subst hc;exact h)|exact AW rfl (hne _)
theorem DL:∀ {n:Nat} {d:D},Dn n d=true->BX d
 | 0,_,h=>by cases h
 |n+1,d,h=>by
  simp only[Dn]at h;split at h
  ·exact .any
  ·exact .prim _
  ·exact .agg λd hd=>DL (Dy h d hd)
  ·exact .tup λd hd=>DL (Dy h d hd)
  ·exact .sl λe he c hc=>DL (OK (Dy h e he) c hc)
  ·exact .pptr λc hc=>DL (OK h c hc)
  ·simp only[Ag]at h
   exact .clo (λd hd=>DL (Dy h.1 d hd)) (λd hd=>DL (Dy h.2 d hd))
  ·simp only[Ag]at h
   exact .mp (λd hd=>DL (Dy h.1 d hd)) (λd hd=>DL (Dy h.2 d hd))
  ·exact .ifc (DL h)
  ·cases h
def Ep {α β:Type}(f:α->Option β):List α->Option (List β)
 | []=>some []
 |x::l=>match f x with
  |some y=>match Ep f l with
   |some r=>some (y::r)
   |none=>none
  |none=>none
theorem FL {α β:Type}{f:α->Option β}:∀ {l:List α} {r:List β},Ep f l=some r->l.length=r.length/\∀(i:Nat) (x:α) (y:β),l[i]?=some x->r[i]?=some y->f x=some y
 | [],r,h=>by simp only[Ep,Af]at h;subst h;simp
 |x::l,r,h=>by
  simp only[Ep]at h;split at h<;>try(cases h;done)
  rename_i y hy;split at h<;>try(cases h;done)
  rename_i r' hr;cases h;obtain⟨h1,h2⟩:=FL hr;refine⟨by simp[h1],λi a b ha hb=>?_⟩;cases i with
  |zero=>simp at ha hb;subst ha hb;exact hy
  |succ i=>exact h2 i a b (by simpa using ha) (by simpa using hb)
theorem G1 {α β:Type}{f:α->Option β}{l:List α}{r:List β}(h:Ep f l=some r):∀y∈r,∃x∈l,f x=some y:=λy hy=>by
 obtain⟨h1,h2⟩:=FL h;obtain⟨i,hi,rfl⟩:=J4 hy;exact⟨l[i]'(by omega),List.getElem_mem _,h2 i _ _ (B3) (BI hi)⟩
def HZ (f:D->Option D)(d:D):Option D:=match d with
 | .agg cs=>match Ep f cs with
  |some cs'=>some (.agg cs')
  |none=>none
 |d=>match f d with
  |some d'=>match Ie d' with
   |true=>some d'
   |false=>none
  |none=>none
def JT (f:D->Option D):List D->Option (List D×List D)
 | []=>some ([],[])
 | .agg [kd,vd]::l=>match f kd with
  |some k'=>match f vd with
   |some v'=>match JT f l with
    |some (ks,vs)=>some (k'::ks,v'::vs)
    |none=>none
   |none=>none
  |none=>none
 |_=>none
theorem OL {f:D->Option D}:∀ {l ks vs:List D},JT f l=some (ks,vs)->ks.length=l.length/\vs.length=l.length /\
  ∀(i:Nat) (d:D),l[i]?=some d->∃kd vd k' v',d=.agg [kd,vd]/\ks[i]?=some k'/\vs[i]?=some v'/\f kd=some k'/\f vd=some v'
 | [],ks,vs,h=>by
  simp only[JT,Af,Au]at h;obtain⟨rfl,rfl⟩:=h;simp
 |x::l,ks,vs,h=>by
  unfold JT at h;split at h<;>try(cases h;done)
  ·rename_i heq;cases heq
  ·rename_i kd vd l' heq
   cases heq;split at h<;>try(cases h;done)
   rename_i k' hk;split at h<;>try(cases h;done)
   rename_i v' hv;split at h<;>try(cases h;done)
   rename_i ks1 vs1 hl;cases h;obtain⟨h1,h2,h3⟩:=OL hl;refine⟨by simp[h1],by simp[h2],λi d hd=>?_⟩;cases i with
   |zero=>simp at hd;subst hd;exact⟨kd,vd,k',v',rfl,rfl,rfl,hk,hv⟩
   |succ i=>simpa using h3 i d (by simpa using hd)
def Gr:Nat->Hp->D->Option D
 | 0,_,_=>none
 |n+1,H,d=>match d with
  | .agg l=>match Ep (Gr n H) l with
   |some l'=>some (.agg l')
   |none=>none
  | .tup l=>match Ep (Gr n H) l with
   |some l'=>some (.tup l')
   |none=>none
  | .osl k g sz i len=>match Hp.get H k with
   |some e=>match Nat.beq g e.g&&Nat.beq sz e.sz&&Nat.ble (i+len) e.es.length with
    |true=>match Ep (HZ (Gr n H)) ((e.es.drop i).take len)with
     |some es'=>some (.sl false sz es')
     |none=>none
    |false=>none
   |none=>none
  | .optr k g sz i 0=>match Hp.get H k with
   |some e=>match Nat.beq g e.g&&Nat.beq sz e.sz&&Nat.ble 1 e.sz with
    |true=>match e.es[i]? with
     |some x=>match HZ (Gr n H) x with
      |some x'=>some (.pptr x')
      |none=>none
     |none=>none
    |false=>none
   |none=>none
  | .omp k g=>match Hp.get H k with
   |some e=>match Nat.beq g e.g&&Nat.beq e.sz 0&&Nat.beq e.T 0 with
    |true=>match JT (Gr n H) e.es with
     |some (ks,vs)=>some (.mp ks vs)
     |none=>none
    |false=>none
   |none=>none
  | .oxl k g sz i len _=>Gr n H (.osl k g sz i len)
  |d=>match Dn 20 d with
   |true=>some d
   |false=>none
theorem Lh {d:D}(h:Ie d=true):d.cells=[d]:=by cases d<;>first|rfl|cases h
theorem Lq {H:Hp}{f:D->Option D}(hf:∀d d',f d=some d'->Fz H [] d d'/\BX d'){d d':D}(h:HZ f d=some d'):
  d'.cells.length=d.cells.length/\(∀(q:Nat) (c c':D),d.cells[q]?=some c->d'.cells[q]?=some c'->Fz H [] c c')/\∀c∈d'.cells,BX c:=by
 unfold HZ at h;split at h
 ·rename_i cs
  split at h<;>try(cases h;done)
  rename_i cs' hm;cases h;obtain⟨h1,h2⟩:=FL hm;refine⟨h1.symm,λq c c' hc hc'=>(hf _ _ (h2 q c c' hc hc')).1,λc hc=>?_⟩;obtain⟨x,_,hx⟩:=G1 hm c hc;exact(hf _ _ hx).2
 ·rename_i hne
  split at h<;>try(cases h;done)
  rename_i d1 hd;split at h<;>try(cases h;done)
  rename_i hn;cases h;have hc:d.cells=[d]:=Lh (by cases d<;>first|rfl|exact AW rfl (hne _));rw[hc,Lh hn];refine⟨rfl,λq c c' h1 h2=>?_,λc hc=>?_⟩
  ·cases q with
   |zero=>simp at h1 h2;subst h1 h2;exact(hf _ _ hd).1
   |succ q=>simp at h1
  ·simp at hc;subst hc;exact(hf _ _ hd).2
theorem ER {H:Hp}:∀ {n:Nat} {d d':D},Gr n H d=some d'->Fz H [] d d'/\BX d'
 | 0,_,_,h=>by cases h
 |n+1,d,d',h=>by
  simp only[Gr]at h;split at h
  ·split at h<;>try(cases h;done)
   rename_i hm;cases h;obtain⟨h1,h2⟩:=FL hm;refine⟨.agg h1 λi a b ha hb=>(ER (h2 i a b ha hb)).1,.agg λc hc=>?_⟩;obtain⟨x,_,hx⟩:=G1 hm c hc;exact(ER hx).2
  ·split at h<;>try(cases h;done)
   rename_i hm;cases h;obtain⟨h1,h2⟩:=FL hm;refine⟨.tup h1 λi a b ha hb=>(ER (h2 i a b ha hb)).1,.tup λc hc=>?_⟩;obtain⟨x,_,hx⟩:=G1 hm c hc;exact(ER hx).2
  ·split at h<;>try(cases h;done)
   rename_i k g sz i len _ e he;split at h<;>try(cases h;done)
   rename_i hb;split at h<;>try(cases h;done)
   rename_i es' hm;cases h;simp only[Ag]at hb;obtain⟨⟨b1,b2⟩,b3⟩:=hb;have b3:=BD b3;obtain⟨h1,h2⟩:=FL hm;have hget:∀(j:Nat) (x:D),j<len->e.es[i+j]?=some x->((e.es.drop i).take len)[j]?=some x:=λj x hj hx=>by
    rw[Cx,AM hj,Es];exact hx
   have hlen:es'.length=len:=by rw[<-h1];simp;omega
   refine⟨.osl he rfl (Ae b1) (Ae b2) b3 hlen (λj x y hx hy=>?_) (λj x y q c c' hx hy hc hc'=>?_),.sl λe' he' c hc=>?_⟩
   ·have hj:j<len:=by rw[<-hlen];exact(Ay.1 hy).1
    exact(Lq (λ_ _ h=>ER h) (h2 j x y (hget j x hj hx) hy)).1
   ·have hj:j<len:=by rw[<-hlen];exact(Ay.1 hy).1
    exact(Lq (λ_ _ h=>ER h) (h2 j x y (hget j x hj hx) hy)).2.1 q c c' hc hc'
   ·obtain⟨x,_,hx⟩:=G1 hm e' he'
    exact(Lq (λ_ _ h=>ER h) hx).2.2 c hc
  ·split at h<;>try(cases h;done)
   rename_i e he;split at h<;>try(cases h;done)
   rename_i hb;split at h<;>try(cases h;done)
   rename_i x hx;split at h<;>try(cases h;done)
   rename_i x' hx';cases h;simp only[Ag]at hb;have q:=Lq (λ_ _ h=>ER h) hx';exact⟨.optr he rfl (Ae hb.1.1) (Ae hb.1.2) (Gi hb.2) hx q.1 q.2.1,.pptr q.2.2⟩
  ·split at h<;>try(cases h;done)
   rename_i e he;split at h<;>try(cases h;done)
   rename_i hb;split at h<;>try(cases h;done)
   rename_i ks vs hq;cases h;simp only[Ag]at hb;obtain⟨q1,q2,q3⟩:=OL hq;refine⟨.omp he rfl (Ae hb.1.1) (Ae hb.1.2) (Ae hb.2) q1 q2 (λi d c c' hd hc hc'=>?_) (λi d c c' hd hc hc'=>?_),.mp (λc hc=>?_) λc hc=>?_⟩
   ·obtain⟨kd,vd,k',v',rfl,a1,a2,a3,a4⟩:=q3 i d hd
    cases hc;rw[a1]at hc';cases hc';exact(ER a3).1
   ·obtain⟨kd,vd,k',v',rfl,a1,a2,a3,a4⟩:=q3 i d hd
    cases hc;rw[a2]at hc';cases hc';exact(ER a4).1
   ·obtain⟨i,hi⟩:=HJ.1 hc
    have hl:i<e.es.length:=by rw[<-q1];exact(Ay.1 hi).1
    obtain⟨kd,vd,k',v',_,a1,a2,a3,a4⟩:=q3 i _ (BI hl);rw[a1]at hi;cases hi;exact(ER a3).2
   ·obtain⟨i,hi⟩:=HJ.1 hc
    have hl:i<e.es.length:=by rw[<-q2];exact(Ay.1 hi).1
    obtain⟨kd,vd,k',v',_,a1,a2,a3,a4⟩:=q3 i _ (BI hl);rw[a2]at hi;cases hi;exact(ER a4).2
  ·exact⟨.oxl (ER h).1,(ER h).2⟩
  ·split at h<;>try(cases h;done)
   rename_i hp;cases h;exact⟨.refl _,DL hp⟩
end
structure WR where
 iw:Nat
 ia:Option Nat
 e:AK
 e':AK
 R:Hp
def WR.tail (W:WR)(L:Array Bool):Hp:=if L.getD W.iw false=true then W.e'::W.R else match W.ia with
 |none=>W.e::W.R
 |some ia=>if L.getD ia false=true then W.e::W.R else W.R
def WR.start (W:WR):Hp:=match W.ia with
 |none=>W.e::W.R
 |some _=>W.R
theorem UK {W:WR}{L:Array Bool}(h:Ls L W.iw):W.tail L=W.e'::W.R:=AM h
section
variable {C:AZ} {F:AI} {ops:Array Oper}
def GA (C:AZ)(F:AI)(ops:Array Oper)(W:WR)(g:Nat)(env:Ab)(o:Oper)(d:D):Prop:=
 ∀(He:Hp) (ρ:Lk) (a:Act) (w:World),AQ C F ρ (W.e::He) w->(∀x∈W.R,x∈He)->(∀k,ρ k g=none)->(∀x∈W.e::He,x.g≠g) ->
  (∀t∈o.looksAt ops,AG ρ (AF F.X ρ (W.e::He)) w (env.get t) (a.tmps.getD t undef)) ->
  Region.wanted o (yielded ops a.tmps)=true/\∃v ρ' w',((execOp a.eval o).run C.P w=.ok (.value v) w'\/((execOp a.eval o).run C.P w=.ok .skip w'/\v=undef)) /\
   AQ C F ρ' (W.e'::He) w'/\Ao ρ (AF F.X ρ (W.e::He)) w ρ' (AF F.X ρ' (W.e'::He)) w'/\(∀k g',g'≠g->ρ' k g'=ρ k g')/\AG ρ' (AF F.X ρ' (W.e'::He)) w' d v
theorem XP {l:List CH}(hn:(l.map (·.i)).Nodup){a b:CH}(ha:a∈l)(hb:b∈l)(he:a.i=b.i):a=b:=by
 induction l with
 |nil=>simp at ha
 |cons x l ih=>
  rw[BY,List.nodup_cons]at hn;rcases Ah.1 ha with h1|h1
  ·rcases Ah.1 hb with h2|h2
   ·rw[h1,h2]
   ·exact AW (Bw.2 ⟨b,h2,by rw[<-he,h1]⟩) hn.1
  ·rcases Ah.1 hb with h2|h2
   ·exact AW (Bw.2 ⟨a,h1,by rw[he,h2]⟩) hn.1
   ·exact ih hn.2 h1 h2
def Jk (C:AZ)(F:AI)(ops:Array Oper)(W:WR)(g:Nat)(env:Ab)(r:CH):Prop:=
 (r.i≠W.iw/\W.ia≠some r.i/\((W.ia=none/\Cd ops W.iw r.i/\A0 C F ops (W.e::W.R) g env r.o r.d r.ne)\/A0 C F ops W.R g env r.o r.d r.ne))\/(r.i=W.iw/\W.ia≠some r.i/\r.ne=none/\GA C F ops W g env r.o r.d) \/
  (r.i≠W.iw/\W.ia=some r.i/\r.ne=none/\A0 C F ops W.R g env r.o r.d (some W.e))
theorem Jk.gen {W:WR}{g:Nat}{env:Ab}{r:CH}(h:Jk C F ops W g env r):∀e,r.ne=some e->e.g=g:=by
 rcases h with⟨_,_,⟨_,_,h⟩|h⟩|⟨_,_,h,_⟩|⟨_,_,h,_⟩
 ·exact h.1
 ·exact h.1
 ·intro e he;rw[h]at he;cases he
 ·intro e he;rw[h]at he;cases he
theorem UF {H H':Hp}{n:Nat}{env:Ab}{A B:List CH}{r:CH}{L:Array Bool}{a:Act}{w:World}{ρ:Lk}{He:Hp}(h:DI C F H n env (A++r::B) L a w ρ He)(hi:r.i<L.size)(hn:¬Ls L r.i)
  (hnd:((A++r::B).map (·.i)).Nodup) (hdst:(A++r::B).Pairwise (λr r'=>∀t,r.o.dst=some t->r'.o.dst≠some t)) (hok:CB F.nt r.o=true) {v:Value} {ρ':Lk} {w':World} {He':Hp}
  (pm:AQ C F ρ' He' w') (px:Ao ρ (AF F.X ρ He) w ρ' (AF F.X ρ' He') w') (pf:∀k g',g'≠n+r.i->ρ' k g'=ρ k g') (pr:AG ρ' (AF F.X ρ' He') w' r.d v)
  (pp:He'.Perm ((A++r::B).filterMap (λr'=>if(L.setIfInBounds r.i true).getD r'.i false then r'.ne else none)++H')):
  DI C F H' n env (A++r::B) (L.setIfInBounds r.i true) (a.put r.o.dst v) w' ρ' He':=by
 have hset:∀j,Ls (L.setIfInBounds r.i true) j↔j=r.i\/Ls L j:=λj=>Ls.set hi
 have hne:∀r'∈A++B,r'.i≠r.i:=by
  simp only[EH,BY]at hnd;intro r' hr' he;rw[De,List.nodup_cons]at hnd;rcases BR.1 hr' with hr'|hr'
  ·exact hnd.2.2 r'.i (Bw.2 ⟨r',hr',rfl⟩) r.i (by simp) he
  ·exact hnd.2.1.1 (Bw.2 ⟨r',hr',he⟩)
 have hput:∀t,(a.put r.o.dst v).tmps.getD t undef=if r.o.dst=some t then v else a.tmps.getD t undef:=by
  intro t;cases hd:r.o.dst with
  |none=>simp[Act.put]
  |some k=>
   have hk:k<a.tmps.size:=by
    rw[h.nt];unfold CB at hok;rw[hd]at hok;exact Nat.blt_eq.mp hok
   show(a.tmps.setIfInBounds k v).getD t undef=_;rw[AT,DE]
   by_cases hkt:k=t
   ·subst hkt;simp[hk]
   ·rw[AN hkt,AN (by simpa using hkt),<-AT]
 refine⟨pm,pp,λr' hr' hl t ht=>?_,λt ht=>?_,λk g hg hk=>?_,?_,?_⟩
 ·rw[hput]
  by_cases hrr:r'=r
  ·subst hrr;rw[AM ht];exact pr
  ·have hr2:r'∈A++B:=by
    rcases BR.1 hr' with h|h
    ·simp[h]
    ·rcases Ah.1 h with h|h
     ·exact AW h hrr
     ·simp[h]
   have hl2:=((hset r'.i).1 hl).resolve_left (hne r' hr2);rw[AN]
   ·exact(h.reps r' hr' hl2 t ht).mono px
   ·intro hrt
    rw[Iy,D3]at hdst;rcases BR.1 hr2 with h|h
    ·exact hdst.2.2 r' h r (by simp) t ht hrt
    ·exact hdst.2.1.1 r' h t hrt ht
 ·rw[hput,AN (ht r (by simp) ((hset r.i).2 (.inl rfl)))]
  exact(h.old t λr' hr' hl=>ht r' hr' ((hset r'.i).2 (.inr hl))).mono px
 ·by_cases hgr:g=n+r.i
  ·exact⟨r,by simp,(hset r.i).2 (.inl rfl),hgr⟩
  ·rw[pf k g hgr]at hk
   obtain⟨r',h1,h2,h3⟩:=h.fresh k g hg hk;exact⟨r',h1,(hset r'.i).2 (.inr h2),h3⟩
 ·cases r.o.dst<;>simp[Act.put,h.nt]
 ·cases r.o.dst<;>simp[Act.put,h.dfr]
theorem Uy {W:WR}{Q:Exit->Act->World->Prop}{n:Nat}{env:Ab}{rs:List CH}{suf:List Nat}(ho:K4 ops rs suf)(hiw:W.iw<ops.size)(hwg:W.e'.g=W.e.g\/W.e'.g=n+W.iw)(hgen:∀e∈W.R,e.g<n)(hge:W.ia=none->W.e.g<n)(hga:∀ia,W.ia=some ia->W.e.g=n+ia/\Cd ops W.iw ia)(hd:∀r∈rs,CB F.nt r.o=true)
  (hst:∀A r B,rs=A++r::B->ops[r.i]?=some r.o/\Jk C F ops W (n+r.i) (E3 A env) r)
  (hend:∀(L:Array Bool) (a:Act) (w:World) (ρ:Lk) (He:Hp),L.size=ops.size->(∀r∈rs,Ls L r.i)->DI C F (W.e'::W.R) n env rs L a w ρ He->wpOps C.P ops Q suf a w):
  (hw:∀ {L:Array Bool},(∀r∈rs,Ls L r.i)->Ls L W.iw)->∀(fuel:Nat) (L:Array Bool) (a:Act) (w:World) (ρ:Lk) (He:Hp),L.size=ops.size->((rs.map (·.i)++suf).filter (λi=>!L.getD i false)).length<=fuel->Cl ops L->(∀i∈suf,¬Ls L i) ->
   DI C F (W.tail L) n env rs L a w ρ He->wpAny C.P .any ops Q fuel L a w:=by
 intro hw fuel
 induction fuel with
 |zero=>
  intro L a w ρ He hL hf hc hs hi;have h0:(rs.map (·.i)++suf).filter (λi=>!L.getD i false)=[]:=Hz (by omega);have hall:∀r∈rs,Ls L r.i:=λr hr=>by
   have:=List.filter_eq_nil_iff.1 h0 r.i (by simp;exact .inl ⟨r,hr,rfl⟩)
   simpa[Ls]using this
  have hsuf:suf=[]:=by
   apply List.eq_nil_iff_forall_not_mem.2;intro i hi2
   have:=List.filter_eq_nil_iff.1 h0 i (by simp[hi2])
   exact hs i hi2 (by simpa[Ls]using this)
  subst hsuf;refine KV [] 0 L a w hL (Ad _) (λi hi2=>⟨λ_=>by simp,λ_=>?_⟩) .nil (λA i B h=>by cases A<;>simp at h) (by simp) hc (hend L a w ρ He hL hall (by have h0:=hi;rw[UK (hw hall)]at h0;exact h0))
  have:=ho.all i hi2
  simp at this;obtain⟨r,hr,rfl⟩:=this;exact hall r hr
 |succ fuel ih=>
  intro L a w ρ He hL hf hc hs hi
  by_cases hall:∀r∈rs,Ls L r.i
  ·refine KV suf (fuel+1) L a w hL ?_ (λi hi2=>?_) ?_ (λA i B hAB=>⟨λj hj=>?_,λj hj=>ho.suf A i B hAB j (by simp[hj])⟩) (λi hi2=>ho.lt i (by simp[hi2])) hc (hend L a w ρ He hL hall (by have h0:=hi;rw[UK (hw hall)]at h0;exact h0))
   ·refine Az ?_ hf
    rw[List.filter_append,B9];rw[(List.filter_eq_self (l:=suf)).2 λi hi2=>by have:=hs i hi2;unfold Ls at this;simpa using this];omega
   ·constructor
    ·intro h1 h2;exact hs i h2 h1
    ·intro h1
     have:=ho.all i hi2
     rcases BR.1 this with h|h
     ·obtain⟨r,hr,rfl⟩:=Bw.1 h;exact hall r hr
     ·exact AW h h1
   ·exact(De.1 ho.nodup).2.1
   ·have hA:=ho.first (rs.map (·.i)++A) i B (by simp[hAB]) j hj
    refine⟨ho.lt j (by rw[hAB];rcases BR.1 hA with h|h<;>simp[h]),λhB=>?_⟩;have hnd:=ho.nodup;rw[hAB,<-Cr,De]at hnd;exact hnd.2.2 j hA j hB rfl
  ·have hnot:∃r∈rs,¬Ls L r.i:=by
    apply Dt;intro hn;exact hall λr hr=>Dt λh=>hn ⟨r,hr,h⟩
   have hLt:∀j,j<ops.size->(L.getD j true=true↔Ls L j):=λj hj=>by
    unfold Ls;rw[AT,AT,D8];simp
   have hsome:Region.ready .any ops L≠[]:=by
    obtain⟨r0,hr0,hn0⟩:=hnot
    have:∀X:List CH,∀Y,rs=X++Y->(∃r∈Y,¬Ls L r.i)->(∀r∈X,Ls L r.i)->∃A r B,rs=A++r::B/\¬Ls L r.i/\∀r∈A,Ls L r.i:=by
     intro X Y
     induction Y generalizing X with
     |nil=>rintro _ ⟨r,hr,_⟩ _;simp at hr
     |cons y Y ihY=>
      intro hXY hex hX
      by_cases hy:Ls L y.i
      ·obtain⟨r,hr,hrn⟩:=hex
       rcases Ah.1 hr with rfl|hr
       ·exact AW hy hrn
       ·exact ihY (X++[y]) (by simp[hXY]) ⟨r,hr,hrn⟩ (λr hr=>by
         rcases BR.1 hr with h|h
         ·exact hX r h
         ·simp at h;subst h;exact hy)
      ·exact⟨X,y,Y,hXY,hy,hX⟩
    obtain⟨A,r,B,h1,h2,h3⟩:=this [] rs rfl ⟨r0,hr0,hn0⟩ (by simp);intro hnil;have hrlt:=ho.lt r.i (by rw[h1];simp)
    have:r.i∈Region.ready .any ops L:=by
     rw[CP];refine⟨hrlt,?_,λj hj=>?_⟩
     ·cases hb:L.getD r.i true with
      |false=>rfl
      |true=>exact AW ((hLt r.i hrlt).1 hb) h2
     ·have:=ho.first (A.map (·.i)) r.i (B.map (·.i)++suf) (by rw[h1];simp) j hj
      obtain⟨r',hr',rfl⟩:=Bw.1 this;exact h3 r' hr'
    rw[hnil]at this;simp at this
   refine⟨λh0=>AW h0 hsome,λi hir=>?_⟩;obtain⟨hilt,hin,hid⟩:=CP.1 hir;have hnL:¬Ls L i:=λh=>by rw[(hLt i hilt).2 h]at hin;cases hin
   have hpre:i∈rs.map (·.i):=by
    rcases BR.1 (ho.all i hilt)with h|h
    ·exact h
    ·obtain⟨A,B,hAB⟩:=EF h
     obtain⟨r0,hr0,hn0⟩:=hnot
     have:=FJ hL hc (ho.suf A i B hAB r0.i (J1 _ (Bw.2 ⟨r0,hr0,rfl⟩))) hid
     exact AW this hn0
   obtain⟨r,hr,rfl⟩:=Bw.1 hpre;obtain⟨A,B,hAB⟩:=EF hr;obtain⟨hor,hstr⟩:=hst A r B hAB;have hset:∀j,Ls (L.setIfInBounds r.i true) j↔j=r.i\/Ls L j:=λj=>Ls.set (by omega)
   have hndr:(rs.map (·.i)).Nodup:=(De.1 ho.nodup).1;have hgt:∀e∈W.tail L,(e∈W.R\/(e=W.e/\∀ia,W.ia=some ia->Ls L ia)\/(e=W.e'/\Ls L W.iw)):=λe he=>by
    unfold WR.tail at he
    by_cases hwl:L.getD W.iw false=true
    ·rw[AM hwl]at he
     rcases Ah.1 he with rfl|he
     ·exact .inr (.inr ⟨rfl,hwl⟩)
     ·exact .inl he
    ·rw[AN hwl]at he
     cases hia:W.ia with
     |none=>
      rw[hia]at he;rcases Ah.1 he with rfl|he
      ·exact .inr (.inl ⟨rfl,by simp⟩)
      ·exact .inl he
     |some ia=>
      rw[hia]at he;dsimp only at he
      by_cases hal:L.getD ia false=true
      ·rw[AM hal]at he
       rcases Ah.1 he with rfl|he
       ·exact .inr (.inl ⟨rfl,λj hj=>by cases hj;exact hal⟩)
       ·exact .inl he
      ·rw[AN hal]at he
       exact .inl he
   have hfr:∀k,ρ k (n+r.i)=none:=λk=>by
    apply Dt;intro hk;obtain⟨r',h1,h2,h3⟩:=hi.fresh k (n+r.i) (by omega) hk
    have:r'.i=r.i:=by omega
    rw[this]at h2;exact hnL h2
   have hne:∀e∈He,e.g≠n+r.i:=λe he hg=>by
    rcases BR.1 (hi.perm.mem_iff.1 he)with h|h
    ·obtain⟨r',h1,h2⟩:=List.mem_filterMap.1 h
     split at h2
     ·rename_i hl
      obtain⟨A',B',hAB'⟩:=EF h1
      have:=(hst A' r' B' hAB').2.gen e h2
      have:r'.i=r.i:=by omega
      rw[this]at hl;exact hnL hl
     ·cases h2
    ·have hE:(∀ia,W.ia=some ia->Ls L ia)->W.e.g≠n+r.i:=λhal hg=>by
      cases hia:W.ia with
      |none=>have:=hge hia;omega
      |some ia=>
       have h1:=(hga ia hia).1
       have:ia=r.i:=by omega
       rw[<-this]at hnL;exact hnL (hal ia hia)
     rcases hgt e h with h|⟨rfl,hal⟩|⟨rfl,hl⟩
     ·have:=hgen e h;omega
     ·exact hE hal hg
     ·rcases hwg with h'|h'
      ·refine hE (λia hia=>?_) (by omega)
       refine FJ hL hc (hga ia hia).2 λk hk=>?_
       have hwl':Ls L W.iw:=hl;exact hc W.iw ((hLt W.iw hiw).2 hwl') hiw k hk
      ·have:W.iw=r.i:=by omega
       rw[this]at hl;exact hnL hl
   have go:∀(a':Act) (w':World) (ρ':Lk) (He':Hp),DI C F (W.tail (L.setIfInBounds r.i true)) n env rs (L.setIfInBounds r.i true) a' w' ρ' He'->wpAny C.P .any ops Q fuel (L.setIfInBounds r.i true) a' w':=by
    intro a' w' ρ' He' hn';refine ih _ _ _ ρ' He' (by simp[hL]) ?_ ?_ (λj hj=>?_) hn'
    ·have:((rs.map (·.i)++suf).filter (λi=>!(L.setIfInBounds r.i true).getD i false)).length<((rs.map (·.i)++suf).filter (λi=>!L.getD i false)).length:=by
      have sub:(rs.map (·.i)++suf).filter (λi=>!(L.setIfInBounds r.i true).getD i false)=((rs.map (·.i)++suf).filter (λi=>!L.getD i false)).filter (λi=>!Nat.beq i r.i):=by
       rw[List.filter_filter];apply List.filter_congr;intro x hx;have h1:=hset x;unfold Ls at h1
       by_cases hxr:x=r.i
       ·subst hxr
        have:(L.setIfInBounds r.i true).getD r.i false=true:=h1.2 (.inl rfl)
        simp[this]
       ·have hb:Nat.beq x r.i=false:=by
         cases hb:Nat.beq x r.i with
         |false=>rfl
         |true=>exact AW (Ae hb) hxr
        rw[hb]
        by_cases hlx:L.getD x false=true
        ·rw[h1.2 (.inr hlx),hlx];rfl
        ·have:¬(L.setIfInBounds r.i true).getD x false=true:=λh=>hlx ((h1.1 h).resolve_left hxr)
         simp only[Bool.not_eq_true]at this hlx;rw[this,hlx];rfl
      rw[sub];apply List.length_filter_lt_length_iff_exists.2;exact⟨r.i,by rw[List.mem_filter];exact⟨by simp;exact .inl ⟨r,hr,rfl⟩,by unfold Ls at hnL;simpa using hnL⟩,by simp⟩
     omega
    ·intro k hk2 hks x hx
     have hk3:Ls (L.setIfInBounds r.i true) k:=by
      unfold Ls;rw[AT,BF (by simp;omega)]at hk2⊢;simpa using hk2
     show Ls _ x;rw[hset];rcases(hset k).1 hk3 with rfl|hk3
     ·exact .inr (hid x hx)
     ·exact .inr (hc k ((hLt k hks).2 hk3) hks x hx)
    ·rw[hset]
     rintro(rfl|h)
     ·have hnd:=ho.nodup
      rw[De]at hnd;exact hnd.2.2 r.i (Bw.2 ⟨r,hr,rfl⟩) r.i hj rfl
     ·exact hs j hj h
   have hdst:=ho.dst;rw[hAB]at hdst hndr;have keep:∀ {α:Type} (j:Nat) (x y:α),j≠r.i->(if(L.setIfInBounds r.i true).getD j false=true then x else y)=(if L.getD j false=true then x else y):=λj x y hj=>by
    have:=hset j
    unfold Ls at this
    by_cases hl:L.getD j false=true
    ·rw[AM hl,AM (this.2 (.inr hl))]
    ·rw[AN hl,AN λh=>hl ((this.1 h).resolve_left hj)]
   have wset:r.i≠W.iw->W.ia≠some r.i->W.tail (L.setIfInBounds r.i true)=W.tail L:=λhr hr2=>by
    unfold WR.tail;rw[keep W.iw _ _ (Ne.symm hr)];cases hia:W.ia with
    |none=>rfl
    |some ia=>
     dsimp only;rw[keep ia _ _ λh=>hr2 (by rw[hia,h])]
   have next:r.i≠W.iw->W.ia≠some r.i->∀v ρ' w',E5 C F He ρ w (n+r.i) r.d r.ne v ρ' w'->wpAny C.P .any ops Q fuel (L.setIfInBounds r.i true) (a.put r.o.dst v) w':=by
    intro hriw hria v ρ' w' p;have hi':=hi;rw[hAB]at hi';have hn':=DI.next hi' (by omega) hnL hndr hdst (hd r hr) p;rw[<-hAB,<-wset hriw hria]at hn';exact go _ _ _ _ hn'
   unfold wpOp;simp only[hor];have hR:∀e∈W.R,e∈He:=λe he=>hi.perm.mem_iff.2 (by
    refine List.mem_append_right _ ?_;unfold WR.tail;cases W.ia<;>dsimp only<;>(repeat' split)<;>simp[he])
   have samefm:r.ne=none->∀ {fm:List AK},(A++r::B).filterMap (λr'=>if L.getD r'.i false then r'.ne else none)=fm ->
     (A++r::B).filterMap (λr'=>if(L.setIfInBounds r.i true).getD r'.i false then r'.ne else none)=fm:=λhnone fm hfm=>by
    rw[<-hfm];refine JC λr' hr'=>?_
    by_cases hrr:r'.i=r.i
    ·have:r'=r:=XP hndr hr' (by simp) hrr
     subst this;rw[hnone];simp
    ·exact keep r'.i _ _ hrr
   rcases hstr with⟨hriw,hria,hstd⟩|⟨hriw,hria,hnone,hstw⟩|⟨hriw,hria,hnone,hstd⟩
   ·have hgo:∀Hr:Hp,(∀e∈Hr,e∈He)->A0 C F ops Hr (n+r.i) (E3 A env) r.o r.d r.ne->_:=λHr hsub hs=>hs.2 He ρ a w hi.mem hsub hfr hne (hi.look ho hL hc hAB hir)
    have fin:_:=(show(Region.wanted r.o (yielded ops a.tmps)=false/\r.ne=none/\AG ρ (AF F.X ρ He) w r.d undef)\/(Region.wanted r.o (yielded ops a.tmps)=true/\Tc C F He ρ w (n+r.i) r.d r.ne r.o a)from by
     rcases hstd with⟨hia,hre,hs⟩|hs
     ·refine hgo _ (λe he=>hi.perm.mem_iff.2 ?_) hs
      have hnw:¬L.getD W.iw false=true:=λhwl=>hnL (by
       refine FJ hL hc hre λk hk=>?_
       have hwl':Ls L W.iw:=hwl;exact hc W.iw ((hLt W.iw hiw).2 hwl') hiw k hk)
      unfold WR.tail;rw[AN hnw,hia];rcases Ah.1 he with rfl|he
      ·simp
      ·simp[he]
     ·exact hgo _ hR hs)
    rcases fin with⟨hw0,hn0,hrep⟩|⟨hw0,hout⟩
    ·rw[AN (by rw[hw0];simp)]
     exact next hriw hria undef ρ w ⟨by rw[hn0];exact hi.mem,by rw[hn0];exact .refl _ _ _,λ_ _ _=>rfl,by rw[hn0];exact hrep⟩
    ·rw[AM hw0]
     refine .inl ?_;unfold Oper.wp;rcases hout with⟨v,ρ',w',h1,h2⟩|⟨f,vs,h1,h2⟩
     ·rw[h1];exact next hriw hria v ρ' w' h2
     ·rw[h1]
      refine h2.mono ?_;rintro e w' ⟨v,rfl,ρ',h3⟩;exact next hriw hria v ρ' w' h3
   ·
    have hnw:¬L.getD W.iw false=true:=λh=>hnL (by rw[hriw];exact h)
    generalize hfm:rs.filterMap (λr'=>if L.getD r'.i false then r'.ne else none)=fm at*;have hperm:He.Perm (W.e::(fm++W.R)):=by
     have h0:=hi.perm;have htl:W.tail L=W.e::W.R:=by
      unfold WR.tail;rw[AN hnw];cases hia:W.ia with
      |none=>rfl
      |some ia=>
       dsimp only;have hre:=(hga ia hia).2;rw[<-hriw]at hre;exact AM (FJ hL hc hre hid)
     rw[htl,hfm]at h0;exact h0.trans Jy
    have m1:=hi.mem.perm hperm;have ho1:=AF.perm (X:=F.X) (ρ:=ρ) hperm;obtain⟨hw0,v,ρ',w',hrun,m2,x2,far2,rep2⟩:=hstw (fm++W.R) ρ a w m1 (λe he=>by simp[he]) hfr (λe he=>hne e (hperm.mem_iff.2 he)) (λt ht=>by
     rw[<-ho1];exact hi.look ho hL hc hAB hir t ht)
    rw[<-ho1]at x2;have hi':=hi;rw[hAB]at hi' hfm;have nx:=UF (H':=W.e'::W.R) hi' (by omega) hnL hndr hdst (hd r hr) (v:=v) m2 x2 far2 rep2 (by
     rw[samefm hnone hfm];exact Jy.symm)
    have hwt:W.tail (L.setIfInBounds r.i true)=W.e'::W.R:=by
     exact AM ((hset W.iw).2 (.inl hriw.symm))
    rw[<-hAB,<-hwt]at nx;rw[AM hw0];refine .inl ?_;unfold Oper.wp;rcases hrun with hrun|⟨hrun,rfl⟩
    ·rw[hrun];exact go _ _ _ _ nx
    ·rw[hrun];exact go _ _ _ _ nx
   ·
    have htl:W.tail L=W.R:=by
     have hnw:¬L.getD W.iw false=true:=λhwl=>hnL (by
      refine FJ hL hc (hga r.i hria).2 λk hk=>?_
      have hwl':Ls L W.iw:=hwl;exact hc W.iw ((hLt W.iw hiw).2 hwl') hiw k hk)
     unfold WR.tail;rw[AN hnw,hria];exact AN hnL
    have hwt:W.tail (L.setIfInBounds r.i true)=W.e::W.R:=by
     have hnw:¬(L.setIfInBounds r.i true).getD W.iw false=true:=λhwl=>by
      rcases(hset W.iw).1 hwl with h|h
      ·exact hriw h.symm
      ·exact hnL (by
        refine FJ hL hc (hga r.i hria).2 λk hk=>?_
        exact hc W.iw ((hLt W.iw hiw).2 h) hiw k hk)
     unfold WR.tail;rw[AN hnw,hria];exact AM ((hset r.i).2 (.inl rfl))
    have nxt:∀v ρ' w',E5 C F He ρ w (n+r.i) r.d (some W.e) v ρ' w'->wpAny C.P .any ops Q fuel (L.setIfInBounds r.i true) (a.put r.o.dst v) w':=λv ρ' w' p=>by
     have hi':=hi;rw[hAB]at hi';have nx:=UF (H':=W.e::W.R) hi' (by omega) hnL hndr hdst (hd r hr) (v:=v) p.mem p.ext p.far p.rep (by
      rw[samefm hnone rfl];have h0:=hi'.perm;rw[htl]at h0;exact(List.Perm.cons W.e h0).trans Jy.symm)
     rw[<-hAB,<-hwt]at nx;exact go _ _ _ _ nx
    rcases hstd.2 He ρ a w hi.mem hR hfr hne (hi.look ho hL hc hAB hir)with⟨hw0,hn0,hrep⟩|⟨hw0,hout⟩
    ·cases hn0
    ·rw[AM hw0]
     refine .inl ?_;unfold Oper.wp;rcases hout with⟨v,ρ',w',h1,h2⟩|⟨f,vs,h1,h2⟩
     ·rw[h1];exact nxt v ρ' w' h2
     ·rw[h1]
      refine h2.mono ?_;rintro e w' ⟨v,rfl,ρ',h3⟩;exact nxt v ρ' w' h3
inductive GJ (C:AZ)(F:AI)(ops:Array Oper)(W:WR)(n:Nat):List Nat->Ab->Hp->Ab->Hp->Prop
 |nil (env:Ab) (N:Hp):GJ C F ops W n [] env N env N
 |cons {i:Nat} {l:List Nat} {o:Oper} {d:D} {ne:Option AK} {env env':Ab} {N N':Hp} (ho:ops[i]?=some o) (hs:Jk C F ops W (n+i) env ⟨i,o,d,ne⟩)
   (h:GJ C F ops W n l (Ak env o.dst d) (Bk ne N) env' N'):GJ C F ops W n (i::l) env N env' N'
theorem GJ.recs {W:WR}{n:Nat}{l:List Nat}{env env':Ab}{N N':Hp}(h:GJ C F ops W n l env N env' N'):
  ∃rs:List CH,rs.map (·.i)=l/\env'=E3 rs env/\N'=Jh rs N /\
   ∀A r B,rs=A++r::B->ops[r.i]?=some r.o/\Jk C F ops W (n+r.i) (E3 A env) r:=by
 induction h with
 |nil env N=>exact⟨[],rfl,rfl,rfl,λA r B h=>by cases A<;>simp at h⟩
 | @cons i l o d ne env env' N N' ho hs _ ih=>
  obtain⟨rs,h1,h2,h3,h4⟩:=ih;refine⟨⟨i,o,d,ne⟩::rs,by simp[h1],h2,h3,λA r B hr=>?_⟩;cases A with
  |nil=>
   simp only[GP,CZ]at hr;obtain⟨rfl,rfl⟩:=hr;exact⟨ho,hs⟩
  |cons r0 A=>
   simp only[Fv,CZ]at hr;obtain⟨rfl,rfl⟩:=hr;exact h4 A r B rfl
theorem UI {W:WR}{s:St}{Q:Exit->St->Prop}{pre suf:List Nat}{envF:Ab}{N:Hp}(hc:FX ops pre suf=true)
  (hH:s.H.Perm W.start) (hga:∀ia,W.ia=some ia->W.e.g=s.n+ia/\Cd ops W.iw ia/\ia∈pre) (hiw:W.iw∈pre) (hwg:W.e'.g=W.e.g\/W.e'.g=s.n+W.iw)
  (hpre:GJ C F ops W s.n pre s.env [] envF N)
  (h:AR C F ops (suf.map λj=>ops.getD j default) ⟨envF,N++W.e'::W.R,s.n+ops.size⟩ (Q .normal)) (hd:ops.toList.all (CB F.nt)=true) (ρ:Lk) (a:Act) (w:World) (hs:Aw C F ρ s a w):
  wpAny C.P .any ops (Gt C F (Q .normal)) ops.size (Array.replicate ops.size false) a w.drew:=by
 obtain⟨rs,h1,h2,h3,h4⟩:=hpre.recs;have hor:∀r∈rs,ops[r.i]?=some r.o:=λr hr=>by
  obtain⟨A,B,hAB⟩:=EF hr;exact(h4 A r B hAB).1
 have ho:=OU h1 hor hc;have hds:∀r∈rs,CB F.nt r.o=true:=λr hr=>by
  refine CF.1 hd r.o ?_
  have:=hor r hr
  exact Dc.2 (FD this)
 have hrep:∀j,(Array.replicate ops.size false).getD j false=false:=λj=>by
  rw[AT];rw[H5];split<;>rfl
 have hnL:∀j,¬Ls (Array.replicate ops.size false) j:=λj hj=>by unfold Ls at hj;rw[hrep]at hj;cases hj
 have hgen:∀e∈W.R,e.g<s.n:=λe he=>hs.gen e (hH.mem_iff.2 (by unfold WR.start;cases W.ia<;>simp[he]))
 have hge:W.ia=none->W.e.g<s.n:=λhia=>hs.gen _ (hH.mem_iff.2 (by unfold WR.start;rw[hia];simp))
 have hlw:=ho.lt W.iw (by rw[h1];simp[hiw]);have htl:W.tail (Array.replicate ops.size false)=W.start:=by
  unfold WR.tail WR.start;rw[AN (by rw[hrep];simp)];cases W.ia with
  |none=>rfl
  |some ia=>exact AN (by rw[hrep];simp)
 have hin:DI C F (W.tail (Array.replicate ops.size false)) s.n s.env rs (Array.replicate ops.size false) a w.drew ρ s.H:=by
  refine⟨hs.mem.drew,?_,λr _ hl=>AW hl (hnL _),λt _=>(hs.env t).mono (.drew _ _ _),λk g hg hk=>AW (hs.fresh k g hg) hk,hs.nt,hs.dfr⟩
  have:rs.filterMap (λr=>if(Array.replicate ops.size false).getD r.i false then r.ne else none)=[]:=by
   rw[Pj];intro r _;rw[hrep];rfl
  rw[this,htl];exact hH
 refine Uy ho hlw hwg hgen hge (λia h=>⟨(hga ia h).1,(hga ia h).2.1⟩) hds h4 ?_ (λhall=>by
  rw[<-h1]at hiw;obtain⟨r,hr,he⟩:=Bw.1 hiw;rw[<-he];exact hall r hr) ops.size _ a w.drew ρ s.H (by simp) ?_ ?_ (λj _=>hnL j) hin
 ·intro L a' w' ρ' He hL hall hi
  have hN:He.Perm (N++W.e'::W.R):=by
   refine hi.perm.trans (List.Perm.append_right _ ?_);have e:rs.filterMap (λr=>if L.getD r.i false then r.ne else none)=rs.filterMap (·.ne):=JC λr hr=>by
    have:=hall r hr;unfold Ls at this;rw[this];rfl
   rw[e,h3]
   have:=IN rs []
   rw[Dd]at this;exact this.symm
  refine h ?_ suf ?_ ρ' a' w' ⟨hi.mem.perm hN,?_,?_,λt=>?_,hi.nt,hi.dfr⟩
  ·rw[CF]
   intro o' ho';obtain⟨j,hj,rfl⟩:=Bw.1 ho';have hlt:=ho.lt j (by simp[hj]);refine CF.1 hd _ ?_;rw[AT,BF hlt];simp
  ·rw[List.map_map]
   refine LQ λj hj=>?_
   have hlt:=ho.lt j (by simp[hj]);simp[AT,BF hlt]
  ·intro k g hg
   apply Dt;intro hk;obtain⟨r,hr,_,he⟩:=hi.fresh k g (by simp at hg;omega) hk
   have:=ho.lt r.i (by simp;exact .inl ⟨r,hr,rfl⟩)
   simp at hg;omega
  ·intro e he
   rcases BR.1 he with he|he
   ·rw[h3]at he
    have he:=(IN rs []).mem_iff.1 he;rw[Dd]at he;obtain⟨r,hr,hre⟩:=List.mem_filterMap.1 he;obtain⟨A,B,hAB⟩:=EF hr
    have:=(h4 A r B hAB).2.gen e hre
    have:=ho.lt r.i (by simp;exact .inl ⟨r,hr,rfl⟩)
    show e.g<s.n+ops.size;omega
   ·show e.g<s.n+ops.size
    rcases Ah.1 he with rfl|he
    ·have hE:W.e.g<s.n+ops.size:=by
      cases hia:W.ia with
      |none=>have:=hge hia;omega
      |some ia=>
       obtain⟨q1,_,q3⟩:=hga ia hia
       have:=ho.lt ia (by rw[h1];simp[q3])
       omega
     rcases hwg with h|h<;>omega
    ·have:=hgen e he
     omega
  ·show AG ρ' (AF F.X ρ' (N++W.e'::W.R)) w' (envF.get t) _
   rw[<-AF.perm hN,h2]
   by_cases hw:∃r∈rs,r.o.dst=some t
   ·obtain⟨r,hr,hrd⟩:=hw
    rw[Kb rs s.env t ho.dst r hr hrd];exact hi.reps r hr (hall r hr) t hrd
   ·rw[IG rs s.env t λr hr hrd=>hw ⟨r,hr,hrd⟩]
    exact hi.old t λr hr _ hrd=>hw ⟨r,hr,hrd⟩
 ·refine Az (List.length_filter_le _ _) ?_
  have hsub:∀(l:List Nat) (n:Nat),l.Nodup->(∀x∈l,x<n)->l.length<=n:=by
   intro l n
   induction n generalizing l with
   |zero=>intro _ h;cases l with
    |nil=>simp
    |cons x l=>exact AW (h x (by simp)) (by omega)
   |succ n ihn=>
    intro hnd hlt;have h1:=ihn (l.erase n) (hnd.erase n) λx hx=>by
     have:=hlt x (List.mem_of_mem_erase hx)
     have:x≠n:=λh=>by subst h;exact(Pk hnd) hx
     omega
    have:=List.length_erase (a:=n) (l:=l)
    split at this<;>omega
  exact hsub _ _ ho.nodup ho.lt
 ·intro k hk
  have:k<ops.size\/¬k<ops.size:=by omega
  rcases this with hlt|hlt
  ·rw[AT,H5,AM hlt]at hk;cases hk
  ·intro h;exact AW h hlt
theorem Wh {P:Program}{o:Oper}{a:Act}{R R':Exit->Act->World->Prop}{K K':Act->World->Prop}(hk:∀a w,K a w->K' a w)(h:∀e a w,R e a w->R' e a w):∀r,o.upon P a K R r->o.upon P a K' R' r:=λr hr=>by
 unfold Oper.upon at hr⊢;split at hr
 ·exact hk _ _ hr
 ·exact hk _ _ hr
 ·exact hk _ _ hr
 ·refine hr.mono ?_
  intro e w'' q;cases e with
  |returned v=>exact hk _ _ q
  |panicked c=>exact h _ _ _ q
  |outgrown=>obtain⟨a,w,q⟩:=q;exact⟨a,w,h _ _ _ q⟩
 ·exact λc cs=>by
   obtain⟨v,w',h1,h2⟩:=hr c cs;exact⟨v,w',hk _ _ h1,h2⟩
 ·exact h _ _ _ hr
 ·exact hr.elim
theorem L1 {P:Program}{R R':Exit->Act->World->Prop}(h:∀e a w,R e a w->R' e a w):∀(fuel:Nat) (L:Array Bool) (a:Act) (w:World),wpAny P .any ops R fuel L a w->wpAny P .any ops R' fuel L a w
 | 0,L,a,w,hh=>⟨hh.1,h _ _ _ hh.2⟩
 |fuel+1,L,a,w,hh=>⟨λh0=>h _ _ _ (hh.1 h0),λi hi=>by
   have hq:=hh.2 i hi;unfold wpOp at hq⊢;split
   ·rename_i ho;simp only[ho]at hq;exact L1 h _ _ _ _ hq
   ·rename_i o ho
    simp only[ho]at hq;split
    ·rename_i hw
     rw[AM hw]at hq;rcases hq with hq|⟨h1,a,w,h2⟩
     ·exact .inl (Wh (λa w=>L1 h _ _ a w) h _ hq)
     ·exact .inr ⟨h1,a,w,h _ _ _ h2⟩
    ·rename_i hw
     rw[AN hw]at hq;exact L1 h _ _ _ _ hq⟩
theorem Vd {tt:Nat->Option AL}{H:Hp}{g g':Operand->D}{op:Op}(h:∀x∈op.operands,g x=g' x):DH tt H g op=DH tt H g' op:=by
 cases op<;>simp only[Op.operands]at h<;>try rfl
 case store t x y=>simp only[DH];rw[h x (by simp),h y (by simp)]
theorem Wv {tt:Nat->Option AL}{e:AK}{He:Hp}{g:Operand->D}{op:Op}{k:Nat}{e':AK}{p:Prop}(h:DH tt [e] g op=some (k,e',p)):
  DH tt (e::He) g op=some (k,e',p)/\Hp.set (e::He) k e'=e'::He/\e'.g=e.g:=by
 unfold DH at h;split at h<;>try(cases h;done)
 rename_i t x y;simp only[DH];split at h<;>try(cases h;done)
 rename_i i hi
 try simp only[hi]
 split at h<;>try(cases h;done)
 rename_i h1
 try simp only[h1]
 split at h<;>try(cases h;done)
 rename_i e1 h2;have hb:Nat.beq e.k k=true/\e1=e:=by
  split at h<;>try(cases h;done)
  cases h;simp only[Hp.get]at h2;split at h2
  ·rename_i hb;cases h2;exact⟨hb,rfl⟩
  ·cases h2
 have hget:∀k0,Hp.get [e] k0=some e1->Hp.get (e::He) k0=some e1:=λk0 hk=>by
  simp only[Hp.get]at hk⊢;split at hk
  ·exact hk
  ·cases hk
 try rw[hget _ h2]
 split at h<;>try(cases h;done)
 rename_i h3;cases h;refine⟨by first|rfl|simp only[h3],?_,by rw[hb.2]⟩;simp only[Hp.set,hb.1]
theorem GA.store {W:WR}{g:Nat}{env:Ab}{o:Oper}{tt:Nat->Option AL}(htt:A7 C.P tt){k:Nat}{p:Prop}(hw:Am ops env o=some true)(he:DH tt [W.e] (AV env) o.op=some (k,W.e',p))(hp:p):
  GA C F ops W g env o (.prim (.tuple #[])):=λHe ρ a w m _ _ _ hr=>by
 refine⟨Dx hr hw,?_⟩;obtain⟨g',h1,h2⟩:=EA hr;rw[Vd h1]at he;obtain⟨q1,q2,_⟩:=Wv (He:=He) he;obtain⟨w',r1,r2,r3,_⟩:=Q0 (s:=⟨[],W.e::He,0⟩) htt m h2 q1 hp;simp only[q2]at r2 r3;exact⟨undef,ρ,w',.inr ⟨r1,rfl⟩,r2,r3,λ_ _ _=>rfl,.prim _⟩
theorem Qq {tt:Nat->Option AL}{H:Hp}{n k:Nat}{g g':Operand->D}{op:Op}(h:∀x∈op.operands,g x=g' x):Cf tt H n k g op=Cf tt H n k g' op:=by
 unfold Cf;split
 ·rename_i args tys
  cases hargs:args.toList with
  |nil=>rfl
  |cons s r=>
   cases r with
   |nil=>rfl
   |cons x r=>
    cases r with
    |nil=>
     have hs:s∈args.toList:=by rw[hargs];simp
     have hx:x∈args.toList:=by rw[hargs];simp
     dsimp only;rw[h s (by simp[Op.operands,Call.operands];simpa using hs),h x (by simp[Op.operands,Call.operands];simpa using hx)]
    |cons=>rfl
 ·rfl
theorem R4 {e e1:AK}{k:Nat}{He:Hp}(h:Hp.get [e] k=some e1):e1=e/\Hp.get (e::He) k=some e/\Hp.del (e::He) k=He/\Hp.del [e] k=[]:=by
 simp only[Hp.get]at h;split at h
 ·rename_i hb
  cases h;refine⟨rfl,?_,?_,?_⟩
  ·simp only[Hp.get,hb]
  ·simp only[Hp.del,hb]
  ·simp only[Hp.del,hb]
 ·cases h
theorem Wd {e:AK}{He:Hp}{esz:Nat}{d:D}{r:List D×Prop}(h:DC [e] esz d=some r):DC (e::He) esz d=some r:=by
 unfold DC at h⊢;split at h<;>try exact h
 split at h<;>try(cases h;done)
 rename_i h1;obtain⟨rfl,h2,_,_⟩:=R4 (He:=He) h1;rw[h2];exact h
theorem WV {tt:Nat->Option AL}{e e':AK}{He:Hp}{n k:Nat}{g:Operand->D}{op:Op}{d:D}{p:Prop}(h:Cf tt [e] n k g op=some (d,[e'],p)):
  Cf tt (e::He) n k g op=some (d,e'::He,p)/\e'.g=n:=by
 unfold Cf at h⊢;split at h<;>try(cases h;done)
 split at h<;>try(cases h;done)
 rename_i h1
 try rw[h1]
 try dsimp only
 split at h<;>try(cases h;done)
 rename_i h2
 try rw[h2]
 try dsimp only
 split at h<;>try(cases h;done)
 rename_i h3
 try rw[h3]
 try dsimp only
 split at h<;>try(cases h;done)
 rename_i h4
 try rw[h4]
 try dsimp only
 split at h<;>try(cases h;done)
 rename_i h5
 try rw[h5]
 try dsimp only
 split at h<;>try(cases h;done)
 rename_i h6
 try rw[Wd h6]
 try dsimp only
 split at h<;>try(cases h;done)
 ·rename_i h7
  try rw[h7]
  try dsimp only
  split at h<;>try(cases h;done)
  rename_i h8;obtain⟨rfl,a1,a2,a3⟩:=R4 (He:=He) h8
  try rw[a1]
  try dsimp only
  rw[a3]at h;rw[a2];cases h;exact⟨rfl,rfl⟩
theorem GA.app {W:WR}{g:Nat}{env:Ab}{o:Oper}{tt:Nat->Option AL}(k:Nat)(htt:A7 C.P tt){d:D}{p:Prop}(hw:Am ops env o=some true)(he:Cf tt [W.e] g k (AV env) o.op=some (d,[W.e'],p))(hp:p):
  GA C F ops W g env o d:=λHe ρ a w m _ fr hne hr=>by
 refine⟨Dx hr hw,?_⟩;obtain⟨g',h1,h2⟩:=EA hr;rw[Qq h1]at he;obtain⟨q1,_⟩:=WV (He:=He) he;obtain⟨v,ρ',w',r1,r2⟩:=L3 htt m fr hne h2 q1 hp;exact⟨v,ρ',w',.inl r1,r2.mem,r2.ext,r2.far,r2.rep⟩
theorem RS {tt:Nat->Option AL}{e':AK}{He:Hp}{n k:Nat}{g:Operand->D}{op:Op}{d:D}{p:Prop}(h:Cf tt [] n k g op=some (d,[e'],p)):
  Cf tt He n k g op=some (d,e'::He,p)/\e'.g=n:=by
 have src:∀ {esz:Nat} {x:D} {r:List D×Prop},DC [] esz x=some r->DC He esz x=some r:=λ{esz x r} h=>by
  unfold DC at h⊢;split at h<;>try exact h
  split at h<;>try(cases h;done)
  rename_i h1;cases h1
 unfold Cf at h⊢;split at h<;>try(cases h;done)
 split at h<;>try(cases h;done)
 rename_i h1
 try rw[h1]
 try dsimp only
 split at h<;>try(cases h;done)
 rename_i h2
 try rw[h2]
 try dsimp only
 split at h<;>try(cases h;done)
 rename_i h3
 try rw[h3]
 try dsimp only
 split at h<;>try(cases h;done)
 rename_i h4
 try rw[h4]
 try dsimp only
 split at h<;>try(cases h;done)
 rename_i h5
 try rw[h5]
 try dsimp only
 split at h<;>try(cases h;done)
 rename_i h6
 try rw[src h6]
 try dsimp only
 split at h<;>try(cases h;done)
 cases h;exact⟨rfl,rfl⟩
theorem UM {H:Hp}{g:Nat}{env:Ab}{o:Oper}{e:AK}{tt:Nat->Option AL}(k:Nat)(htt:A7 C.P tt){d:D}{p:Prop}(hw:Am ops env o=some true)(he:Cf tt [] g k (AV env) o.op=some (d,[e],p))(hp:p):
  A0 C F ops H g env o d (some e):=by
 refine⟨λe' h=>by cases h;exact(RS (He:=[]) he).2,λHe ρ a w m _ fr hne hr=>.inr ⟨Dx hr hw,.inl ?_⟩⟩;obtain⟨g',h1,h2⟩:=EA hr;rw[Qq h1]at he;obtain⟨q1,_⟩:=RS (He:=He) he;obtain⟨v,ρ',w',r1,r2⟩:=L3 htt m fr hne h2 q1 hp;exact⟨v,ρ',w',r1,r2.mem,r2.ext,r2.far,r2.rep⟩
end
def Cj (H:Hp)(d d':D):Prop:=∀(C:AZ) (F:AI) (ρ:Lk) (He:Hp) (w:World),AQ C F ρ He w->(∀e∈H,e∈He)->∀v,AG ρ (AF F.X ρ He) w d v->AG ρ (AF F.X ρ []) w d' v
theorem AF.nil_le {X:Nat->Prop}{ρ:Lk}{H:Hp}{b:Nat}(h:AF X ρ [] b):AF X ρ H b:=by
 rcases h with h|⟨e,he,_⟩
 ·exact .inl h
 ·cases he
theorem Cj.refl (H:Hp)(d:D):Cj H d d:=λ_ _ _ _ _ _ _ _ hv=>hv.anti λ_ h=>h.nil_le
theorem AQ.not_nil {C:AZ}{F:AI}{ρ:Lk}{H:Hp}{w:World}(m:AQ C F ρ H w){e:AK}(he:e∈H){b:Nat}(hb:ρ e.k e.g=some b):¬AF F.X ρ [] b:=by
 rintro(h|⟨e,he,_⟩)
 ·exact(m.hok.own e ‹_› b hb).1 h
 ·cases he
def LH (H:Hp)(d d':D):Prop:=d'.cells.length=d.cells.length/\∀(q:Nat) (c c':D),d.cells[q]?=some c->d'.cells[q]?=some c'->Cj H c c'
theorem Cj.osl {H:Hp}{k g sz i len:Nat}{e:AK}{es':List D}(he:Hp.get H k=some e)(hg:g=e.g)(hs:sz=e.sz)(hi:i+len<=e.es.length)(hl:es'.length=len)
  (h:∀(j:Nat) (d d':D),e.es[i+j]?=some d->es'[j]?=some d'->LH H d d'):Cj H (.osl k g sz i len) (.sl false sz es'):=λC F ρ He w m hsub v hv=>by
 subst hg hs;obtain⟨hm,hk⟩:=Hp.get_mem he;subst hk;have hm:=hsub _ hm;cases hv with
 |onil=>simp at hl;subst hl;exact .nil _
 |osl hr hb hc hsz hml=>
  rename_i cap b T cs fz;obtain⟨cs2,h1,h2⟩:=m.atC hm hr hb;rw[h1]at hb;obtain⟨rfl,rfl,rfl⟩:cs2=cs/\e.T=T/\((0,0):Nat×Nat)=fz:=by
   have:=H9 hb
   simp only[Obj.cells.injEq]at this;exact this
  have hin:∀n,n<len*e.sz->i*e.sz+n<cs2.size:=λn hn=>by
   have:=h2.len
   have q:(i+len)*e.sz<=e.es.length*e.sz:=Br _ hi;rw[Ba]at q;omega
  have hel:∀(j:Nat) (d':D),es'[j]?=some d'->∃d,e.es[i+j]?=some d/\LH H d d':=λj d' hd'=>by
   have hj:j<len:=by rw[<-hl];exact(Ay.1 hd').1
   have hx:e.es[i+j]?=some (e.es[i+j]'(by omega)):=B3;exact⟨_,hx,h j _ d' hx hd'⟩
  refine .sl (λn=>cs2.getD (i*e.sz+n) undef) hl hc (m.not_nil hm hr) (m.lt hm hr) (λj d' hd'=>?_) (λn hn=>?_) (λn hn=>?_) λj d' q c' hd' hc'=>?_
  ·obtain⟨d,hd,hE⟩:=hel j d' hd'
   rw[hE.1];exact h2.siz _ d hd
  ·simp[World.cell?,h1,hin n hn]
  ·have:=h2.one _ _ (BF (hin n hn))
   simpa[AT,BF (hin n hn)]using this
  ·obtain⟨d,hd,hE⟩:=hel j d' hd'
   have hq:q<d.cells.length:=by rw[<-hE.1];exact(Ay.1 hc').1
   have hcq:d.cells[q]?=some (d.cells[q]):=BI hq;have r:=h2.rep (i+j) d q _ hd hcq;rw[Ba,Fw]at r;exact hE.2 q _ c' hcq hc' C F ρ He w m hsub _ r
theorem Cj.optr {H:Hp}{k g sz i:Nat}{e:AK}{x x':D}(he:Hp.get H k=some e)(hg:g=e.g)(hs:sz=e.sz)(hz:e.sz≠0)(hx:e.es[i]?=some x)(h:LH H x x'):Cj H (.optr k g sz i 0) (.pptr x'):=λC F ρ He w m hsub v hv=>by
 subst hg hs;obtain⟨hm,hk⟩:=Hp.get_mem he;subst hk;have hm:=hsub _ hm;cases hv with
 |optr hr=>
  rename_i b;obtain⟨cs,h1,h2⟩:=m.at hm hr hz;have hsz:=h2.siz i x hx;have hin:∀n,n<x.cells.length->i*e.sz+n<cs.size:=λn hn=>by
   have:=h2.len
   have hi:i<e.es.length:=(Ay.1 hx).1;have q:(i+1)*e.sz<=e.es.length*e.sz:=Br _ hi;rw[Ba,Nat.one_mul]at q;omega
  refine .pptr (λn=>cs.getD (i*e.sz+n) undef) (m.not_nil hm hr) (m.lt hm hr) (λn hn=>?_) (λn hn=>?_) λq c' hc'=>?_
  ·rw[h.1]at hn
   simp[World.cell?,h1,hin n hn]
  ·rw[h.1]at hn
   have:=h2.one _ _ (BF (hin n hn))
   simpa[AT,BF (hin n hn)]using this
  ·have hq:q<x.cells.length:=by rw[<-h.1];exact(Ay.1 hc').1
   have hcq:x.cells[q]?=some (x.cells[q]):=BI hq;exact h.2 q _ c' hcq hc' C F ρ He w m hsub _ (h2.rep i x q _ hx hcq)
theorem Cj.agg {H:Hp}{ds ds':List D}(hl:ds.length=ds'.length)(h:∀(i:Nat) (d d':D),ds[i]?=some d->ds'[i]?=some d'->Cj H d d'):Cj H (.agg ds) (.agg ds'):=λC F ρ He w m hsub v hv=>by
 cases hv with
 |agg hn ho hh=>
  refine .agg (by omega) ho λi d' hd'=>?_
  have hi:i<ds.length:=by rw[hl];exact(Ay.1 hd').1
  exact h i _ d' (BI hi) hd' C F ρ He w m hsub _ (hh i _ (BI hi))
theorem Cj.clo {H:Hp}{fn:Fn}{a a' c c':List D}(ha:a.length=a'.length)(hc:c.length=c'.length)(h1:∀(i:Nat) (d d':D),a[i]?=some d->a'[i]?=some d'->Cj H d d')
  (h2:∀(i:Nat) (d d':D),c[i]?=some d->c'[i]?=some d'->Cj H d d'):Cj H (.clo fn a c) (.clo fn a' c'):=λC F ρ He w m hsub v hv=>by
 cases hv with
 |clo hf hcs r1 r2=>
  refine .clo (by omega) (by omega) (λi d' hd'=>?_) λi d' hd'=>?_
  ·have hi:i<a.length:=by rw[ha];exact(Ay.1 hd').1
   exact h1 i _ d' (BI hi) hd' C F ρ He w m hsub _ (r1 i _ (BI hi))
  ·have hi:i<c.length:=by rw[hc];exact(Ay.1 hd').1
   exact h2 i _ d' (BI hi) hd' C F ρ He w m hsub _ (r2 i _ (BI hi))
theorem Cj.omp {H:Hp}{k g:Nat}{e:AK}{ks vs:List D}(he:Hp.get H k=some e)(hg:g=e.g)(hs:e.sz=0)(hT:e.T=0)(h1:ks.length=e.es.length)(h2:vs.length=e.es.length)
  (hk:∀(i:Nat) (d c c':D),e.es[i]?=some d->d.cells[0]?=some c->ks[i]?=some c'->Cj H c c')
  (hv:∀(i:Nat) (d c c':D),e.es[i]?=some d->d.cells[1]?=some c->vs[i]?=some c'->Cj H c c'):Cj H (.omp k g) (.mp ks vs):=λC F ρ He w m hsub v hv'=>by
 subst hg;obtain⟨hm,hkk⟩:=Hp.get_mem he;subst hkk;have hm:=hsub _ hm;cases hv' with
 |omp hr=>
  rename_i b;obtain⟨es,clock,a1,a2⟩:=m.atM hm hr hs hT;have get:∀i,i<e.es.length->∃d c c2,e.es[i]?=some d/\d.cells[0]?=some c/\d.cells[1]?=some c2:=λi hi=>by
   have hd:=BI hi;have hsz:=a2.siz i _ hd;exact⟨_,_,_,hd,B3,B3⟩
  refine .mp (m.not_nil hm hr) (m.lt hm hr) a1 (by rw[a2.len,h1]) (by rw[a2.len,h2]) a2.born (λi d' hd'=>?_) λi d' hd'=>?_
  ·obtain⟨d,c,c2,b1,b2,b3⟩:=get i (by have:=(Ay.1 hd').1;omega)
   exact hk i d c d' b1 b2 hd' C F ρ He w m hsub _ (a2.key i d c b1 b2)
  ·obtain⟨d,c,c2,b1,b2,b3⟩:=get i (by have:=(Ay.1 hd').1;omega)
   exact hv i d c2 d' b1 b3 hd' C F ρ He w m hsub _ (a2.val i d c2 b1 b3)
theorem Cj.oxl {H:Hp}{k g sz i len cap:Nat}{d':D}(h:Cj H (.osl k g sz i len) d'):Cj H (.oxl k g sz i len cap) d':=λC F ρ He w m hsub v hv=>h C F ρ He w m hsub v hv.wk
def GL:Nat->Hp->D->Option D
 | 0,_,_=>none
 |n+1,H,d=>match Dn 20 d with
  |true=>some d
  |false=>match d with
   | .agg l=>match Ep (GL n H) l with
    |some l'=>some (.agg l')
    |none=>none
   | .clo fn a c=>match Ep (GL n H) a with
    |some a'=>match Ep (GL n H) c with
     |some c'=>some (.clo fn a' c')
     |none=>none
    |none=>none
   | .osl k g sz i len=>match Hp.get H k with
    |some e=>match Nat.beq g e.g&&Nat.beq sz e.sz&&Nat.ble (i+len) e.es.length with
     |true=>match Ep (HZ (GL n H)) ((e.es.drop i).take len)with
      |some es'=>some (.sl false sz es')
      |none=>none
     |false=>none
    |none=>none
   | .optr k g sz i 0=>match Hp.get H k with
    |some e=>match Nat.beq g e.g&&Nat.beq sz e.sz&&Nat.ble 1 e.sz with
     |true=>match e.es[i]? with
      |some x=>match HZ (GL n H) x with
       |some x'=>some (.pptr x')
       |none=>none
      |none=>none
     |false=>none
    |none=>none
   | .omp k g=>match Hp.get H k with
    |some e=>match Nat.beq g e.g&&Nat.beq e.sz 0&&Nat.beq e.T 0 with
     |true=>match JT (GL n H) e.es with
      |some (ks,vs)=>some (.mp ks vs)
      |none=>none
     |false=>none
    |none=>none
   | .oxl k g sz i len _=>GL n H (.osl k g sz i len)
   |_=>none
theorem N6 {H:Hp}{f:D->Option D}(hf:∀d d',f d=some d'->Cj H d d'/\BX d'){d d':D}(h:HZ f d=some d'):LH H d d'/\∀c∈d'.cells,BX c:=by
 unfold HZ at h;split at h
 ·rename_i cs
  split at h<;>try(cases h;done)
  rename_i cs' hm;cases h;obtain⟨h1,h2⟩:=FL hm;refine⟨⟨h1.symm,λq c c' hc hc'=>(hf _ _ (h2 q c c' hc hc')).1⟩,λc hc=>?_⟩;obtain⟨x,_,hx⟩:=G1 hm c hc;exact(hf _ _ hx).2
 ·rename_i hne
  split at h<;>try(cases h;done)
  rename_i d1 hd;split at h<;>try(cases h;done)
  rename_i hn;cases h;have hc:d.cells=[d]:=Lh (by cases d<;>first|rfl|exact AW rfl (hne _));unfold LH;rw[hc,Lh hn];refine⟨⟨rfl,λq c c' h1 h2=>?_⟩,λc hc=>?_⟩
  ·cases q with
   |zero=>simp at h1 h2;subst h1 h2;exact(hf _ _ hd).1
   |succ q=>simp at h1
  ·simp at hc;subst hc;exact(hf _ _ hd).2
theorem D9 {H:Hp}:∀ {n:Nat} {d d':D},GL n H d=some d'->Cj H d d'/\BX d'
 | 0,_,_,h=>by cases h
 |n+1,d,d',h=>by
  simp only[GL]at h;split at h
  ·rename_i hp
   cases h;exact⟨.refl _ _,DL hp⟩
  ·split at h<;>try(cases h;done)
   ·split at h<;>try(cases h;done)
    rename_i hm;cases h;obtain⟨h1,h2⟩:=FL hm;refine⟨.agg h1 λi a b ha hb=>(D9 (h2 i a b ha hb)).1,.agg λc hc=>?_⟩;obtain⟨x,_,hx⟩:=G1 hm c hc;exact(D9 hx).2
   ·split at h<;>try(cases h;done)
    rename_i hm;split at h<;>try(cases h;done)
    rename_i hm2;cases h;obtain⟨h1,h2⟩:=FL hm;obtain⟨g1,g2⟩:=FL hm2;refine⟨.clo h1 g1 (λi a b ha hb=>(D9 (h2 i a b ha hb)).1) (λi a b ha hb=>(D9 (g2 i a b ha hb)).1),.clo (λc hc=>?_) λc hc=>?_⟩
    ·obtain⟨x,_,hx⟩:=G1 hm c hc
     exact(D9 hx).2
    ·obtain⟨x,_,hx⟩:=G1 hm2 c hc
     exact(D9 hx).2
   ·rename_i k g sz i len _
    split at h<;>try(cases h;done)
    rename_i e he;split at h<;>try(cases h;done)
    rename_i hb;split at h<;>try(cases h;done)
    rename_i es' hm;cases h;simp only[Ag]at hb;obtain⟨⟨b1,b2⟩,b3⟩:=hb;have b3:=BD b3;obtain⟨h1,h2⟩:=FL hm;have hlen:es'.length=len:=by rw[<-h1];simp;omega
    refine⟨.osl he (Ae b1) (Ae b2) b3 hlen λj x y hx hy=>?_,.sl λe' he' c hc=>?_⟩
    ·have hj:j<len:=by rw[<-hlen];exact(Ay.1 hy).1
     exact(N6 (λ_ _ h=>D9 h) (h2 j x y (by rw[Cx,AM hj,Es];exact hx) hy)).1
    ·obtain⟨x,_,hx⟩:=G1 hm e' he'
     exact(N6 (λ_ _ h=>D9 h) hx).2 c hc
   ·split at h<;>try(cases h;done)
    rename_i e he;split at h<;>try(cases h;done)
    rename_i hb;split at h<;>try(cases h;done)
    rename_i x hx;split at h<;>try(cases h;done)
    rename_i x' hx';cases h;simp only[Ag]at hb;have q:=N6 (λ_ _ h=>D9 h) hx';exact⟨.optr he (Ae hb.1.1) (Ae hb.1.2) (Gi hb.2) hx q.1,.pptr q.2⟩
   ·split at h<;>try(cases h;done)
    rename_i e he;split at h<;>try(cases h;done)
    rename_i hb;split at h<;>try(cases h;done)
    rename_i ks vs hq;cases h;simp only[Ag]at hb;obtain⟨q1,q2,q3⟩:=OL hq;refine⟨.omp he (Ae hb.1.1) (Ae hb.1.2) (Ae hb.2) q1 q2 (λi d c c' hd hc hc'=>?_) (λi d c c' hd hc hc'=>?_),.mp (λc hc=>?_) λc hc=>?_⟩
    ·obtain⟨kd,vd,k',v',rfl,a1,a2,a3,a4⟩:=q3 i d hd
     cases hc;rw[a1]at hc';cases hc';exact(D9 a3).1
    ·obtain⟨kd,vd,k',v',rfl,a1,a2,a3,a4⟩:=q3 i d hd
     cases hc;rw[a2]at hc';cases hc';exact(D9 a4).1
    ·obtain⟨i,hi⟩:=HJ.1 hc
     have hl:i<e.es.length:=by rw[<-q1];exact(Ay.1 hi).1
     obtain⟨kd,vd,k',v',_,a1,a2,a3,a4⟩:=q3 i _ (BI hl);rw[a1]at hi;cases hi;exact(D9 a3).2
    ·obtain⟨i,hi⟩:=HJ.1 hc
     have hl:i<e.es.length:=by rw[<-q2];exact(Ay.1 hi).1
     obtain⟨kd,vd,k',v',_,a1,a2,a3,a4⟩:=q3 i _ (BI hl);rw[a2]at hi;cases hi;exact(D9 a4).2
   ·exact⟨.oxl (D9 h).1,(D9 h).2⟩
def Je:Nat->D->Bool
 | 0,_=>false
 |n+1,d=>match d with
  | .prim _=>true
  | .agg l=>D0 (Je n) l
  | .tup l=>D0 (Je n) l
  |_=>false
theorem MA:∀ {n:Nat} {d:D},Je n d=true->Cw d
 | 0,_,h=>by cases h
 |n+1,d,h=>by
  simp only[Je]at h;split at h
  ·exact .prim _
  ·exact .agg λd hd=>MA (Dy h d hd)
  ·exact .tup λd hd=>MA (Dy h d hd)
  ·cases h
section
variable {C:AZ} {F:AI} {ops:Array Oper} {H:Hp} {g:Nat} {env:Ab} {o:Oper}
theorem iX {f:Nat}{first captured ds ds':List D}{fop:Operand}{args:Array Operand}{tys:Array Nat}{d:D}(hw:Am ops env o=some true)(ho:o.op=.call ⟨.value fop,args,tys⟩)
  (hf:AV env fop=.clo (.func f) first captured) (hds:first++args.toList.map (AV env)++captured=ds) (hl:ds.length=ds'.length) (hv:∀(i:Nat) (a b:D),ds[i]?=some a->ds'[i]?=some b->Cj H a b)
  (hc:Aa C f ds' d) (hp:AS ds') (hflat:Cw d):A0 C F ops H g env o d none:=by
 refine⟨by simp,λHe ρ a w m hsub fr hne hr=>.inr ⟨Dx hr hw,.inr ?_⟩⟩;obtain⟨g',h1,h2⟩:=EA hr;have hfop:fop∈o.op.operands:=by rw[ho];simp[Op.operands,Call.operands]
 have harg:∀x∈args.toList,AV env x=g' x:=λx hx=>h1 x (by rw[ho];simp[Op.operands,Call.operands];right;simpa using hx)
 rw[h1 fop hfop]at hf;rw[HO harg]at hds;obtain⟨vs,q1,q2,q3⟩:=IH (g:=g') ho hf hc.1 h2;rw[hds]at q2 q3;refine⟨f,vs,q1,(hc.2 (AF F.X ρ []) w vs m.g (Az m.gn m.size) (λb hb=>m.own_lt hb.nil_le) (by omega) λi x hx=>?_).mono ?_⟩
 ·have hi:i<ds.length:=by rw[hl];exact(Ay.1 hx).1
  exact hp.out x (Bh hx) _ _ _ _ _ (hv i _ x (BI hi) hx C F ρ He w m hsub _ (q3 i _ (BI hi)))
 rintro e w' ⟨v,d',rfl,hb,rfl,hrep⟩;have x:Ao ρ (AF F.X ρ He) w ρ (AF F.X ρ He) w':=⟨hb.size,λ_ _ _ h=>h,λb hb' hO=>⟨hO,hb.block b hb'⟩,λb cs T fz hh=>⟨cs,_,by
  rw[hb.block b (Bo.1 hh).1];exact hh,rfl⟩⟩
 exact⟨v,rfl,ρ,m.same x hb.os hb.tape hb.output hb.block,x,λ_ _ _=>rfl,hflat _ _ _ _ _ _ _ hrep⟩
theorem iW {f n1:Nat}{first captured ds ds':List D}{fop:Operand}{args:Array Operand}{tys:Array Nat}{e:AK}{sz i len:Nat}(k:Nat)(hw:Am ops env o=some true)(ho:o.op=.call ⟨.value fop,args,tys⟩)
  (hf:AV env fop=.clo (.func f) first captured) (hds:first++args.toList.map (AV env)++captured=ds) (hl:ds.length=ds'.length) (hv:∀(i:Nat) (a b:D),ds[i]?=some a->ds'[i]?=some b->Cj H a b)
  (hc:Ct C f ds' [] 0 (λd1 H1 n=>d1=.osl e.k e.g sz i len/\H1=[e]/\n=n1)) (hp:AS ds')
  (hpe:∀x∈e.es,∀c∈x.cells,Cw c):A0 C F ops H g env o (.osl k g sz i len) (some ⟨k,g,e.T,e.sz,e.es⟩):=by
 refine⟨λe' h=>by cases h;rfl,λHe ρ a w m hsub fr hne hr=>.inr ⟨Dx hr hw,.inr ?_⟩⟩;obtain⟨g',h1,h2⟩:=EA hr;have hfop:fop∈o.op.operands:=by rw[ho];simp[Op.operands,Call.operands]
 have harg:∀x∈args.toList,AV env x=g' x:=λx hx=>h1 x (by rw[ho];simp[Op.operands,Call.operands];right;simpa using hx)
 rw[h1 fop hfop]at hf;rw[HO harg]at hds;obtain⟨vs,q1,q2,q3⟩:=IH (g:=g') ho hf hc.1 h2;rw[hds]at q2 q3
 let F0:AI:=⟨w,AF F.X ρ [],λ_=>False,F.nt,nol,[]⟩
 have hown:AF F0.X nol []=AF F.X ρ []:=funext λb=>propext (by simp[AF,F0])
 have mem0:AQ C F0 nol [] w:=⟨⟨by simp,.nil,by simp⟩,rfl,rfl,rfl,Ad _,λ_ _ _=>rfl,λb hb=>m.own_lt (show AF F.X ρ [] b from hb).nil_le,m.g,Az m.gn m.size,by simp[F0],λ_ _ _ h=>h,λ_ cs _ _ h=>⟨cs,_,h,rfl⟩⟩
 refine⟨f,vs,q1,(hc.2 F0 nol w vs mem0 (λ_ _ _=>rfl) (by simp) (by omega) λj d hd=>?_).mono ?_⟩
 ·have hj:j<ds.length:=by rw[hl];exact(Ay.1 hd).1
  rw[hown];exact hp.out d (Bh hd) _ _ _ _ _ (hv j _ d (BI hj) hd C F ρ He w m hsub _ (q3 j _ (BI hj)))
 rintro e' w' ⟨v,d0,H0,n0,ρ0,rfl,⟨rfl,rfl,rfl⟩,m1,x1,_,_,rep⟩;refine⟨v,rfl,λk' g'=>if g'=g then(if k'=k then ρ0 e.k e.g else none)else ρ k' g',?_⟩;generalize hρ:(λk' g'=>if g'=g then(if k'=k then ρ0 e.k e.g else none)else ρ k' g':Lk)=ρ';have a1:ρ' k g=ρ0 e.k e.g:=by rw[<-hρ];simp
 have a2:∀k' g',g'≠g->ρ' k' g'=ρ k' g':=λk' g' h=>by rw[<-hρ];simp[h]
 have a3:∀k' g' b,ρ k' g'=some b->ρ' k' g'=some b:=λk' g' b h=>by
  rw[a2 k' g' (λhg=>by rw[hg,fr]at h;cases h)];exact h
 have hown1:=m1.hok.own e (Eb.2 rfl);have hnew:∀b,ρ0 e.k e.g=some b->w.heap.size<=b:=λb hb=>by
  rcases(hown1 b hb).2 with c2|c2
  ·exact c2
  ·exact c2.elim
 have hblk:∀b,b<w.heap.size->w'.heap[b]?=w.heap[b]?:=λb hb=>m1.blk b hb (by simp[F0])
 have x:Ao ρ (AF F.X ρ He) w ρ' (AF F.X ρ' (⟨k,g,e.T,e.sz,e.es⟩::He)) w':=by
  refine⟨x1.size,a3,λb hb hn=>⟨?_,hblk b hb⟩,λb cs T fz h=>⟨cs,fz,by rw[hblk b (Bo.1 h).1];exact h,rfl⟩⟩;rintro(h|⟨e2,he2,hb2⟩)
  ·exact hn (.inl h)
  ·rcases Ah.1 he2 with rfl|he2
   ·dsimp only at hb2
    rw[a1]at hb2;exact AW (hnew b hb2) (by omega)
   ·rw[a2 _ _ (hne e2 he2)]at hb2
    exact hn (.inr ⟨e2,he2,hb2⟩)
 refine⟨⟨⟨λe2 he2=>?_,?_,λe2 he2 b hb=>?_⟩,m1.os.trans m.os,m1.tape.trans m.tape,m1.output.trans m.output,Az m.size x1.size,λb hb hw'=>?_,m.xlt,m.g0,m.gn,m.gw,λ_ _ _ h=>a3 _ _ _ (m.lnk _ _ _ h),GC m.shp x⟩,x,λk' g' h=>a2 k' g' h,?_⟩
 ·rcases Ah.1 he2 with rfl|he2
  ·rcases m1.hok.ent e (Eb.2 rfl)with⟨b1,b2⟩|⟨b,cs,b1,b2,b3⟩
   ·exact .inl ⟨b1,by dsimp only;rw[a1];exact b2⟩
   ·refine .inr ⟨b,cs,by dsimp only;rw[a1];exact b1,b2,?_⟩
    rcases b3.cas with⟨cs1,rfl,r3,b3⟩|⟨es1,cl1,rfl,r1,r2,b3⟩|⟨bm,si,se,c0,rfl,r1,r2,b3⟩
    ·exact⟨rfl,rfl,r3,b3.len,b3.siz,b3.one,λi d j c hd hc=>hpe d (Bh hd) c (Bh hc) _ _ _ _ _ _ _ (b3.rep i d j c hd hc)⟩
    ·exact⟨r1,r2,b3.len,b3.born,b3.siz,λi d c hd hc=>hpe d (Bh hd) c (Bh hc) _ _ _ _ _ _ _ (b3.key i d c hd hc),λi d c hd hc=>hpe d (Bh hd) c (Bh hc) _ _ _ _ _ _ _ (b3.val i d c hd hc)⟩
    ·obtain⟨ks,vs,dn,es1,i1,i2,i3,i4⟩:=b3.it
     exact⟨r1,r2,⟨ks,vs,dn,es1,i1,hpe (.mp ks vs) (by rw[i1];simp) (.mp ks vs) (by simp[D.cells]) _ _ _ _ _ _ _ i2,i3,i4⟩⟩
  ·rcases m.hok.ent e2 he2 with⟨b1,b2⟩|⟨b,cs,b1,b2,b3⟩
   ·exact .inl ⟨b1,by rw[a2 _ _ (hne e2 he2)];exact b2⟩
   ·exact .inr ⟨b,cs,a3 _ _ _ b1,by rw[hblk b (m.lt he2 b1)];exact b2,b3.mono x⟩
 ·refine D3.2 ⟨λe2 he2 b b' h h' hbb=>?_,m.hok.inj.imp_of_mem λ{e2 e3} c1 c2 h b b' hb hb'=>h b b' (by rw[<-a2 _ _ (hne e2 c1)];exact hb) (by rw[<-a2 _ _ (hne e3 c2)];exact hb')⟩
  dsimp only at h;rw[a1]at h;rw[a2 _ _ (hne e2 he2)]at h'
  have:=m.lt he2 h'
  exact AW (hnew b h) (by omega)
 ·rcases Ah.1 he2 with rfl|he2
  ·dsimp only at hb
   rw[a1]at hb;exact⟨λh=>(hown1 b hb).1 (.inl h),.inl (Az m.size (hnew b hb))⟩
  ·rw[a2 _ _ (hne e2 he2)]at hb
   exact m.hok.own e2 he2 b hb
 ·rw[hblk b (CU hb m.size)];exact m.blk b hb hw'
 ·show AG ρ' (AF F.X ρ' (⟨k,g,e.T,e.sz,e.es⟩::He)) w' _ _
  cases rep with
  |onil=>exact .onil _ _ _
  |osl hr hb hcp hs hm=>exact .osl (by rw[a1];exact hr) hb hcp hs hm
end
theorem Wb {P:Program}{op:BinOp}{t l cap:Nat}{X Y:Operand}{ad:Addr}{e:Nat}{c:Bool}(w:World)(hu:P.underlying t=some (.slice e))(hc:Gj op false=some c):
  (do eqGuard op t X Y (.slice (some ad) l cap) (.slice none 0 0);binOp op t (.slice (some ad) l cap) (.slice none 0 0):Sem Value).run P w=.ok (.bool c) w:=by
 have hq:(Op.equal t (.slice (some ad) l cap) (.slice none 0 0)).run P w=.ok false w:=F9 hu w rfl;have hb2:=Ol (op:=op) hc hq ⟨by simp,by simp,by simp,by simp⟩;rw[run_bind];have g0:(eqGuard op t X Y (.slice (some ad) l cap) (.slice none 0 0)).run P w=.ok () w:=by
  unfold eqGuard;cases op<;>rfl
 rw[g0];exact hb2
theorem Sw {C:AZ}{F:AI}{ρ:Lk}{H:Hp}{w:World}{tt:Nat->Option AL}{o:Oper}{g:Operand->D}{ev:Operand->Value}{n k t len e esz eby:Nat}{ez:Value}{ps:Array (Nat×Operand)}{i ie:AL}{es:List D}(htt:A7 C.P tt)(m:AQ C F ρ H w)(fr:∀k,ρ k n=none)(hlt:∀e∈H,e.g≠n)
  (hg:∀x,AG ρ (AF F.X ρ H) w (g x) (ev x)) (ho:o.op=.buildSlice t (len+1) ps) (hi:tt t=some i) (hk:i.ti=.slice e esz eby ez) (_:tt e=some ie) (hes:EO g 0 ps.toList=some es)
  (p1:Hb ie.ag esz es) (p2:es.length=len+1) (p3:(len+1)*esz<=16777216) (p4:1<=esz):
  ∃v ρ' w',(execOp ev o).run C.P w=.ok (.value v) w'/\E5 C F H ρ w n (.oxl k n esz 0 (len+1) (len+1)) (some ⟨k,n,e,esz,es⟩) v ρ' w':=by
 unfold execOp;simp only[ho];have ht:=htt _ _ hi;obtain⟨vs',f1,f2,f3,f4⟩:=Oc (ρ:=ρ) (w:=w) (O:=AF F.X ρ H) hg ps.toList 0 es ((Array.range ((len+1)*esz)).map (λj=>(if(len+1)*esz=0 then #[]else ez.cells)[j%(if(len+1)*esz=0 then #[]else ez.cells).size]!)) hes
  (N5 p1) (by simp[p2])
 have run:=Nq (C:=C) (w:=w) (len:=len+1) (parts:=ps.map λ(i,x)=>(i,ev x)) (cells:=vs') ht hk p3 (by rw[<-f1];simp);have hsz:vs'.size=(len+1)*esz:=by rw[f2];simp
 have hone:∀j,j<(len+1)*esz->one (vs'.getD j undef)=true:=λj hj=>by
  have hq:j/esz<es.length:=by rw[p2];exact(Nat.div_lt_iff_lt_mul (by omega)).2 hj
  have:=(f4 (j/esz) _ (BI hq)).2.2 (j%esz) (Gn _ (by omega))
  rw[B5,Nat.div_add_mod']at this;exact this
 have hok:B2 ρ (AF F.X ρ H) w ⟨k,n,e,esz,es⟩ vs':=⟨by dsimp only;rw[p2,hsz];exact Ad _,λq d hd=>(f4 q d hd).1,λj v hv=>by
   have hj:=(Bo.1 hv).1
   have:=hone j (by omega)
   rwa [AT,hv]at this,λq d j c hd hc=>by
   have:=(f4 q d hd).2.1 j c hc
   rwa [B5]at this⟩
 obtain⟨a1,a2⟩:=m.alloc ⟨k,n,e,esz,es⟩ vs' (fr k) (λe he hh=>hlt e he hh.2) (show esz≠0 by omega) hok;refine⟨_,_,_,by rw[run_bind,run];rfl,a1,a2,?_,?_⟩
 ·intro k' g' hg'
  unfold Lk.put;rw[AN (by dsimp only;omega)]
 ·have hle:len+1<=16777216:=Az (Nat.le_mul_of_pos_right _ p4) p3
  have:=AG.oxl (sz:=esz) (i:=0) (len:=len+1) (cap:=len+1) (O:=AF F.X (ρ.put k n w.heap.size) (⟨k,n,e,esz,es⟩::H)) (w:=w.alloc (.cells vs' e)) (T:=e) (cs:=vs') (fz:=(0,0)) (CO ρ k n w.heap.size)
   (by rw[Cc,AM rfl]) (Ad _) (by rw[hsz,B5]) (by simp[maxLen];omega)
  simpa[Bk]using this
section
variable {C:AZ} {F:AI} {ops:Array Oper} {s:St} {o:Oper} {os:List Oper} {K:St->Prop}
theorem gu {tt:Nat->Option AL}(htt:A7 C.P tt){op:BinOp}{t yt:Nat}{x y:Operand}{i:AL}{e esz eby:Nat}{ez:Value}{k g sz j len:Nat}{c:Bool}(hw:Am ops s.env o=some true)
  (ho:o.op=.binOp op t x y yt) (hi:tt t=some i) (hk:i.ti=.slice e esz eby ez) (h1:AV s.env x=.osl k g sz j (len+1)) (h2:AV s.env y=.prim (.slice none 0 0)) (hc:Gj op false=some c)
  (h:AR C F ops os ⟨Ak s.env o.dst (.prim (.bool c)),s.H,s.n+1⟩ K):AR C F ops (o::os) s K:=
 AR.step hw (λρ a w hs=>by
  have a1:=BN hs.env x;have a2:=BN hs.env y;rw[h1]at a1;rw[h2]at a2;generalize hx:a.eval x=vx at a1;generalize hy:a.eval y=vy at a2;cases a2;cases a1 with
  |osl hr hb hcp hsz hm=>
   refine⟨.bool c,ρ,w,.inl ?_,.pure hs (.prim _),λe he=>BK (hs.gen e he)⟩;unfold execOp;simp only[ho,hx,hy];rw[run_bind,Wb w (CM (htt _ _ hi) hk).1 hc];rfl) h
def Js (b:Bool)(k n esz len:Nat):D:=match b with
 |true=>.oxl k n esz 0 (len+1) (len+1)
 |false=>.osl k n esz 0 (len+1)
theorem RD {ρ:Lk}{O:Nat->Prop}{w:World}{v:Value}{b:Bool}{k n esz len:Nat}(h:AG ρ O w (.oxl k n esz 0 (len+1) (len+1)) v):AG ρ O w (Js b k n esz len) v:=by
 cases b
 ·exact h.wk
 ·exact h
theorem AR.lit {tt:Nat->Option AL}(htt:A7 C.P tt){t len e esz eby:Nat}{ez:Value}{ps:Array (Nat×Operand)}{i ie:AL}{es:List D}(k:Nat)(hw:Am ops s.env o=some true)(ho:o.op=.buildSlice t (len+1) ps)(hi:tt t=some i)(hk:i.ti=.slice e esz eby ez)(hie:tt e=some ie)
  (hes:EO (AV s.env) 0 ps.toList=some es) (p1:Hb ie.ag esz es) (p2:es.length=len+1) (p3:(len+1)*esz<=16777216) (p4:1<=esz) (b:Bool)
  (h:AR C F ops os ⟨Ak s.env o.dst (Js b k s.n esz len),⟨k,s.n,e,esz,es⟩::s.H,s.n+1⟩ K):AR C F ops (o::os) s K:=
 AR.step hw (λρ a w hs=>by
  obtain⟨v,ρ',w',h1,h2⟩:=Sw (k:=k) htt hs.mem (λk=>hs.fresh k _ (Ad _)) (λe he=>Nat.ne_of_lt (hs.gen e he)) (BN hs.env) ho hi hk hie hes p1 p2 p3 p4;refine⟨v,ρ',w',.inl h1,⟨h2.mem,h2.ext,λk g hg=>by rw[h2.far k g (by omega)];exact hs.fresh k g (by omega),RD h2.rep⟩,λe he'=>?_⟩;rcases Ah.1 he' with rfl|he'
  ·exact Ft _
  ·exact BK (hs.gen e he')) h
theorem WH {ρ:Lk}{w:World}{H:Hp}{ev:Operand->Value}{g:Operand->D}{tt:Nat->Option AL}(htt:A7 C.P tt)(m:AQ C F ρ H w)(hg:∀x,AG ρ (AF F.X ρ H) w (g x) (ev x)){t t' e esz eby k gg len:Nat}{ez:Value}{x y:Operand}{i:AL}{e1:AK}{news:List D}{p:Prop}
  (ho:o.op=.call ⟨.builtin .copy,#[x,y],#[t,t']⟩) (hi:tt t=some i) (hk:i.ti=.slice e esz eby ez) (h1:g x=.osl k gg esz 0 len) (he:Hp.get H k=some e1) (hgg:gg=e1.g) (hs1:esz=e1.sz) (hsrc:DC H esz (g y)=some (news,p)) (hp:p)
  (hle:news.length<=len) (hle2:len<=e1.es.length) (hpos:news≠[]):
  ∃w',(execOp ev o).run C.P w=.ok (.value (goInt news.length)) w'/\AQ C F ρ (Hp.set H k ⟨e1.k,e1.g,e1.T,e1.sz,news++e1.es.drop news.length⟩) w' /\
   Ao ρ (AF F.X ρ H) w ρ (AF F.X ρ (Hp.set H k ⟨e1.k,e1.g,e1.T,e1.sz,news++e1.es.drop news.length⟩)) w':=by
 subst hgg hs1;obtain⟨hm,hke⟩:=Hp.get_mem he;obtain⟨H1,H2,q1,q2,_⟩:=GM ⟨e1.k,e1.g,e1.T,e1.sz,news++e1.es.drop news.length⟩ he;have hx:=hg x;have hy:=hg y;rw[h1]at hx;generalize hvx:ev x=vx at hx;generalize hvy:ev y=vy at hy;obtain⟨k1,⟨inf,k2,k3,k4,k5⟩,k6,k7⟩:=CM (htt _ _ hi) hk;rcases IY m hsrc hp hy with⟨_,rfl⟩|⟨a,c,f,rfl,hc,hs⟩
 ·exact AW rfl hpos
 cases hx with
 |onil=>
  have:news.length=0:=by omega
  exact AW (List.length_eq_zero_iff.1 this) hpos
 |osl hr hb hcp hsz hmx=>
  rename_i cap b T cs fz;rw[<-hke]at hr;obtain⟨cs0,r1,r2⟩:=m.atC hm hr hb;rw[hb]at r1;cases r1;have hN:news.length*e1.sz<=cs.size:=by
   have:news.length*e1.sz<=e1.es.length*e1.sz:=Br _ (by omega)
   exact Az this r2.len
  have hl:((List.range (news.length*e1.sz)).map f).length=news.length*e1.sz:=by simp
  have hst:=run_storeCells_at C.P b 0 e1.T ((List.range (news.length*e1.sz)).map f) 0 cs w hb (by simp;exact hN) (λu hu=>by
   rw[Mb];obtain⟨q,hq,rfl⟩:=Bw.1 hu;exact hs.one q (List.mem_range.1 hq))
  simp only[Fc,B5,Jz,GP,hl]at hst;generalize hcs':((List.range (news.length*e1.sz)).map f++cs.toList.drop (news.length*e1.sz)).toArray=cs' at hst;have get:∀q,cs'[q]?=if q<news.length*e1.sz then some (f q)else cs[q]?:=λq=>by
   rw[<-hcs'];simp only[EI];rcases Aq q (news.length*e1.sz)with hq|hq
   ·rw[CT (by omega),AM hq];simp[hq]
   ·rw[B8 (by omega),BU,hl,Es,show news.length*e1.sz+(q-news.length*e1.sz)=q from by omega];simp
  have hsz':cs'.size=cs.size:=by rw[<-hcs'];simp;omega
  have hmul:∀ {a b:Nat},a<b->a*e1.sz+e1.sz<=b*e1.sz:=λ{a b} h=>by
   have:(a+1)*e1.sz<=b*e1.sz:=Br _ h
   rwa [Ba,Nat.one_mul]at this
  have hrep:B2 ρ (AF F.X ρ H) w ⟨e1.k,e1.g,e1.T,e1.sz,news++e1.es.drop news.length⟩ cs':=by
   refine⟨by dsimp only;rw[B9,Et,hsz',show news.length+(e1.es.length-news.length)=e1.es.length from by omega];exact r2.len,λq d hd=>?_,λq u hu=>?_,λq d j c hd hc=>?_⟩
   ·dsimp only at hd⊢
    rcases Aq q news.length with hq|hq
    ·rw[CT hq]at hd;exact hs.siz q d hd
    ·rw[B8 hq,Es]at hd;exact r2.siz _ d hd
   ·rw[get]at hu
    split at hu
    ·rename_i hq;cases hu;exact hs.one q hq
    ·exact r2.one q u hu
   ·dsimp only at hd⊢
    rw[AT,get];rcases Aq q news.length with hq|hq
    ·rw[CT hq]at hd
     have hj:j<e1.sz:=by rw[<-hs.siz q d hd];exact(Ay.1 hc).1
     have:=hmul hq
     rw[DK];exact hs.rep q d j c hd hc
    ·rw[B8 hq,Es,show news.length+(q-news.length)=q from by omega]at hd
     have:news.length*e1.sz<=q*e1.sz:=Br _ hq
     rw[BU,<-AT];exact r2.rep q d j c hd hc
  rw[q1]at m hrep;obtain⟨a1,a2⟩:=m.write (e':=⟨e1.k,e1.g,e1.T,e1.sz,news++e1.es.drop news.length⟩) hr hb rfl rfl rfl rfl hsz' hrep;refine⟨_,?_,by rw[q2];exact a1,by rw[q2,q1];exact a2⟩;unfold execOp;have hmin:Nat.min news.length len=news.length:=Nat.min_eq_left hle;have hfc:=run_firstCells_some (P:=C.P) w e1.sz news.length a news.length c ((List.range (news.length*e1.sz)).map f) hl (λj v hv=>by
   have hj:j<news.length*e1.sz:=by have:=(Ay.1 hv).1;omega
   rw[hs.cell j hj];rw[Bf,FZ hj]at hv;simpa using hv)
  have hst2:(storeCells ⟨b,0*e1.sz,none⟩ ((List.range (news.length*e1.sz)).map f)).run C.P w=.ok () (World.setBlk w b cs' e1.T):=by
   rw[GQ,hst,Lx hb]
  have hrun:(Builtin.copy_ #[t,t'] o.type #[.slice (some ⟨b,0*e1.sz,none⟩) len cap,.slice (some a) news.length c]).run C.P w=.ok (goInt news.length) (World.setBlk w b cs' e1.T):=by
   simp[Builtin.copy_,BS k1,Builtin.lenOf,sizeOf,typeInfo,k2,k3,hmin,hfc];rw[GQ]at hst2;rw[hst2];rfl
  simp only[ho,resolve,invoke,builtin,Sem.run_bind,Sem.run_pure,Result.andThen_ok,List.map_toArray,BY,List.map_nil,hvx,hvy,hrun]
theorem iN {tt:Nat->Option AL}(htt:A7 C.P tt){t t' e esz eby k gg sz j len:Nat}{ez:Value}{x y:Operand}{i:AL}{p:Prop}(hw:Am ops s.env o=some true)
  (ho:o.op=.call ⟨.builtin .copy,#[x,y],#[t,t']⟩) (hi:tt t=some i) (hk:i.ti=.slice e esz eby ez) (h1:AV s.env x=.osl k gg sz j len) (hsrc:DC s.H esz (AV s.env y)=some ([],p)) (hp:p)
  (h:AR C F ops os ⟨Ak s.env o.dst (.prim (.int .i64 0)),s.H,s.n+1⟩ K):AR C F ops (o::os) s K:=
 AR.step hw (λρ a w hs=>by
  have hx:=h1 ▸ BN hs.env x;have hy:=BN hs.env y;generalize hvx:a.eval x=vx at hx;generalize hvy:a.eval y=vy at hy;obtain⟨k1,⟨inf,k2,k3,k4,k5⟩,k6,k7⟩:=CM (htt _ _ hi) hk;have hrun:(Builtin.copy_ #[t,t'] o.type #[vx,vy]).run C.P w=.ok (goInt 0) w:=by
   have hsrc0:∃cap ao,vy=.slice ao 0 cap:=by
    rcases IY hs.mem hsrc hp hy with⟨rfl,-⟩|⟨a,c,f,rfl,_,_⟩
    ·exact⟨_,_,rfl⟩
    ·exact⟨_,_,rfl⟩
   obtain⟨cap,ao,rfl⟩:=hsrc0;have hfc:(Builtin.firstCells inf.size 0 (.slice ao 0 cap)).run C.P w=.ok #[] w:=by
    cases ao with
    |none=>exact run_firstCells_none _ _ _ _ _
    |some a=>exact run_firstCells_some (P:=C.P) w inf.size 0 a 0 cap [] (by simp) (by simp)
   have hmin:Nat.min 0 len=0:=Nat.zero_min len;cases hx with
   |onil=>simp[Builtin.copy_,BS k1,Builtin.lenOf,sizeOf,typeInfo,k2,hfc]
   |osl hr hb hc hs hm=>simp[Builtin.copy_,BS k1,Builtin.lenOf,sizeOf,typeInfo,k2,hfc,hmin,storeCells]
  refine⟨.int .i64 0,ρ,w,.inl ?_,.pure hs (.prim _),λe he=>BK (hs.gen e he)⟩;unfold execOp;simp only[ho,resolve,invoke,builtin,Sem.run_bind,Sem.run_pure,Result.andThen_ok,List.map_toArray,BY,List.map_nil,hvx,hvy,hrun];rfl) h
theorem AR.copy {tt:Nat->Option AL}(htt:A7 C.P tt){t t' e esz eby k gg len:Nat}{ez:Value}{x y:Operand}{i:AL}{e1:AK}{news:List D}{p:Prop}(hw:Am ops s.env o=some true)
  (ho:o.op=.call ⟨.builtin .copy,#[x,y],#[t,t']⟩) (hi:tt t=some i) (hk:i.ti=.slice e esz eby ez) (h1:AV s.env x=.osl k gg esz 0 len) (he:Hp.get s.H k=some e1) (hgg:gg=e1.g) (hs1:esz=e1.sz) (hsrc:DC s.H esz (AV s.env y)=some (news,p)) (hp:p)
  (hle:news.length<=len) (hle2:len<=e1.es.length) (hpos:news≠[]) (h:AR C F ops os ⟨Ak s.env o.dst (.prim (.int .i64 (news.length:Nat))),Hp.set s.H k ⟨e1.k,e1.g,e1.T,e1.sz,news++e1.es.drop news.length⟩,s.n+1⟩ K):AR C F ops (o::os) s K:=
 AR.step hw (λρ a w hs=>by
  obtain⟨w',r1,r2,r3⟩:=WH htt hs.mem (BN hs.env) ho hi hk h1 he hgg hs1 hsrc hp hle hle2 hpos;refine⟨_,ρ,w',.inl r1,⟨r2,r3,λk g hg=>hs.fresh k g (by omega),.prim _⟩,λe2 he2=>?_⟩;obtain⟨H1,H2,q1,q2,_⟩:=GM ⟨e1.k,e1.g,e1.T,e1.sz,news++e1.es.drop news.length⟩ he;have hold:∀e3∈s.H,e3.g<s.n+1:=λe3 h3=>BK (hs.gen e3 h3)
  rw[q2]at he2;rw[q1]at hold;rcases BR.1 he2 with h|h
  ·exact hold e2 (by simp[h])
  ·rcases Ah.1 h with rfl|h
   ·exact hold e1 (by simp)
   ·exact hold e2 (by simp[h])) h
theorem Ok.label {l:Nat}{Q:Exit->St->Prop}(h:Q .normal s):Ok C F (.label l) s Q:=λ_ ρ _ _ hs=>wp_label ⟨s,ρ,h,hs⟩
theorem Ok.scope {b:Code}{Q:Exit->St->Prop}(hn:∀l s',¬Q (.goto l) s')(h:Ok C F b s Q):Ok C F (.scope b) s Q:=λhd ρ a w hs=>by
 refine wp_scope_straight (wp_mono (h hd ρ a w hs) ?_);rintro e a' w' ⟨s',ρ',hq,hs'⟩;cases e with
 |goto l=>exact(hn l s' hq).elim
 |_=>exact⟨s',ρ',hq,hs'⟩
end
noncomputable section
def Hy (l:List D):Nat->Option D:=List.rec (motive:=λ_=>Nat->Option D) (λ_=>none) (λd _ ih n=>Nat.rec (motive:=λ_=>Option D) (some d) (λm _=>ih m) n) l
theorem JN:∀(l:List D) (n:Nat),Hy l n=l[n]?
 | [],_=>rfl
 |_::_,0=>rfl
 |_::l,n+1=>JN l n
def Tx (l:List (Nat×Nat×Bool)):Nat->Option (Nat×Nat×Bool):=List.rec (motive:=λ_=>Nat->Option (Nat×Nat×Bool)) (λ_=>none) (λd _ ih n=>Nat.rec (motive:=λ_=>Option (Nat×Nat×Bool)) (some d) (λm _=>ih m) n) l
theorem SA:∀(l:List (Nat×Nat×Bool)) (n:Nat),Tx l n=l[n]?
 | [],_=>rfl
 |_::_,0=>rfl
 |_::l,n+1=>SA l n
def Jq (H:Hp):Nat->Option AK:=List.rec (motive:=λ_=>Nat->Option AK) (λ_=>none) (λe _ ih k=>Bool.rec (motive:=λ_=>Option AK) (ih k) (some e) (Nat.beq e.k k)) H
theorem Of:∀(H:Hp) (k:Nat),Jq H k=Hp.get H k
 | [],_=>rfl
 |e::r,k=>by
  show Bool.rec (motive:=λ_=>Option AK) (Jq r k) (some e) (Nat.beq e.k k)=_;rw[Of r k];simp only[Hp.get];cases Nat.beq e.k k<;>rfl
def LB (H:Hp):Nat->AK->(Hp->Option Hp)->Option Hp:=List.rec (motive:=λ_=>Nat->AK->(Hp->Option Hp)->Option Hp) (λ_ _ c=>c []) (λe r ih k e' c=>Bool.rec (motive:=λ_=>Option Hp) (ih k e' λr'=>c (e::r')) (c (e'::r)) (Nat.beq e.k k)) H
theorem RZ:∀(H:Hp) (k:Nat) (e':AK) (c:Hp->Option Hp),LB H k e' c=c (Hp.set H k e')
 | [],_,_,_=>rfl
 |e::r,k,e',c=>by
  show Bool.rec (motive:=λ_=>Option Hp) (LB r k e' λr'=>c (e::r')) (c (e'::r)) (Nat.beq e.k k)=_;rw[RZ r k];simp only[Hp.set];cases Nat.beq e.k k<;>rfl
def Mr (l:List D):Nat->D->(List D->Option Hp)->Option Hp:=List.rec (motive:=λ_=>Nat->D->(List D->Option Hp)->Option Hp) (λ_ _ c=>c []) (λx l ih n d c=>Nat.rec (motive:=λ_=>Option Hp) (c (d::l)) (λm _=>ih m d λl'=>c (x::l')) n) l
theorem RY:∀(l:List D) (n:Nat) (d:D) (c:List D->Option Hp),Mr l n d c=c (FQ l n d)
 | [],_,_,_=>rfl
 |_::_,0,_,_=>rfl
 |x::l,n+1,d,c=>RY l n d λl'=>c (x::l')
def Mq (l:List D):Nat->Bool:=List.rec (motive:=λ_=>Nat->Bool) (λn=>Nat.rec (motive:=λ_=>Bool) true (λ_ _=>false) n) (λ_ _ ih n=>Nat.rec (motive:=λ_=>Bool) false (λm _=>ih m) n) l
theorem L8:∀ {l:List D} {n:Nat},Mq l n=true->l.length=n
 | [],0,_=>rfl
 | [],_+1,h=>nomatch h
 |_::_,0,h=>nomatch h
 |_::l,n+1,h=>congrArg (· + 1) (L8 (l:=l) (n:=n) h)
def HG (l:List Operand):(Operand->D)->List D:=List.rec (motive:=λ_=>(Operand->D)->List D) (λ_=>[]) (λx _ ih g=>g x::ih g) l
theorem Oi (g:Operand->D):∀l:List Operand,HG l g=l.map g
 | []=>rfl
 |x::l=>congrArg (g x :: ·) (Oi g l)
def EE (a b:List D):List D:=List.rec (motive:=λ_=>List D) b (λd _ ih=>d::ih) a
theorem Km (b:List D):∀a:List D,EE a b=a++b
 | []=>rfl
 |d::a=>congrArg (d :: ·) (Km b a)
abbrev I5 (b:Bool)(d:Option D):Option D:=Bool.rec (motive:=λ_=>Option D) none d b
theorem JD {b:Bool}{o:Option D}{d:D}(h:I5 b o=some d):b=true/\o=some d:=by
 cases b
 ·cases h
 ·exact⟨rfl,h⟩
theorem and2 {a b:Bool}(h:(a&&b)=true):a=true/\b=true:=by simpa using h
noncomputable def FW (d:D):Option (List D):=D.rec (motive_1:=λ_=>Option (List D)) (motive_2:=λ_=>Unit) none (λ_=>none) (λl _=>some l) (λ_ _=>none) (λ_ _ _ _=>none) (λ_ _=>none) (λ_ _ _ _ _=>none) (λ_ _ _ _ _=>none) (λ_ _ _ _ _=>none) (λ_ _ _=>none) (λ_ _ _ _=>none) (λ_ _ _=>none) (λ_ _=>none) (λ_ _ _ _ _ _=>none) (λ_ _=>none) () (λ_ _ _ _=>()) d
theorem Kl {d:D}{l:List D}(h:FW d=some l):d=.agg l:=by
 cases d<;>first|(cases h;done)|(cases h;rfl)
theorem Ro {d:D}(h:FW d=none):d.cells=[d]/\Ie d=true:=by
 cases d<;>first|(cases h;done)|exact⟨rfl,rfl⟩
def g8 (d:D):Nat->Option D:=λoff=>Nat.rec (motive:=λ_=>Option D) (some d) (λ_ _=>none) off
def NW (d:D)(off:Nat):Option D:=Option.rec (motive:=λ_=>Option D) (g8 d off) (λl=>Hy l off) (FW d)
theorem Sv {d d':D}{off sz:Nat}(h:NW d off=some d'):DB false sz off d.cells=some d':=by
 have key:∀(l:List D) (off:Nat),l[off]?=some d'->DB false sz off l=some d':=λl off h=>by
  simp only[DB,L7];obtain⟨h1,h2⟩:=Ay.1 h;rw[List.drop_eq_getElem_cons h1,h2]
 unfold NW at h;cases ha:FW d with
 |none=>
  rw[ha]at h;rw[(Ro ha).1];cases off with
  |zero=>cases(show some d=some d' from h);rfl
  |succ n=>cases(show none=some d' from h)
 |some l=>
  rw[ha]at h;rw[Kl ha];exact key l off (by rw[<-JN];exact h)
def Pu (d:D)(off sz:Nat):Option D:=Option.rec (motive:=λ_=>Option D) none (λl=>I5 (Nat.beq off 0&&Mq l sz) (some d)) (FW d)
theorem cg {d d':D}{off sz:Nat}(h:Pu d off sz=some d'):DB true sz off d.cells=some d'/\Nat.ble (off+sz) d.cells.length=true:=by
 unfold Pu at h;cases ha:FW d with
 |none=>rw[ha]at h;cases(show none=some d' from h)
 |some l=>
  rw[ha]at h;obtain⟨hb,hd⟩:=JD h;obtain⟨b1,b2⟩:=and2 hb;have b2:=L8 b2;cases Ae b1;cases hd;rw[Kl ha];refine⟨?_,?_⟩
  ·show some (D.agg (HC sz (Gf 0 l)))=_
   rw[L7,Rc,List.drop_zero,<-b2,List.take_length]
  ·show Nat.ble (0+sz) l.length=true
   rw[b2,B5];exact Nat.ble_self_eq_true _
def Pv (i:AL)(d:D)(off:Nat):Option D:=Bool.rec (motive:=λ_=>Option D) (NW d off) (Pu d off i.sz) i.ag
theorem cj {i:AL}{d d':D}{off:Nat}(h:Pv i d off=some d'):DB i.ag i.sz off d.cells=some d'/\(bif i.ag then Nat.ble (off+i.sz) d.cells.length else true)=true:=by
 unfold Pv at h;cases hi:i.ag with
 |false=>rw[hi]at h;exact⟨Sv h,rfl⟩
 |true=>rw[hi]at h;exact cg h
def Pw (i:AL)(d:D):Option D:=Bool.rec (motive:=λ_=>Option D) (Option.rec (motive:=λ_=>Option D) (some d) (λ_=>none) (FW d)) (Option.rec (motive:=λ_=>Option D) none (λl=>I5 (Mq l i.sz) (some d)) (FW d)) i.ag
def UV (o:Option AK)(gg sz j off:Nat)(i:AL):Option D:=Option.rec (motive:=λ_=>Option D) none (λe=>I5 (Nat.beq gg e.g&&(Nat.beq sz e.sz&&Nat.ble 1 e.sz)) (Option.rec (motive:=λ_=>Option D) none (λd=>Pv i d off) (Hy e.es j))) o
noncomputable def UU (d:D):AL->Hp->Option D:=D.rec (motive_1:=λ_=>AL->Hp->Option D) (motive_2:=λ_=>Unit) (λ_ _=>none) (λ_ _ _=>none) (λ_ _ _ _=>none) (λ_ _ _ _=>none) (λ_ _ _ _ _ _=>none) (λd _ i _=>Pw i d) (λ_ _ _ _ _ _ _=>none) (λk g sz j off i H=>UV (Jq H k) g sz j off i) (λ_ _ _ _ _ _ _=>none) (λ_ _ _ _ _=>none) (λ_ _ _ _ _ _=>none) (λ_ _ _ _ _=>none) (λ_ _ _ _=>none) (λ_ _ _ _ _ _ _ _=>none) (λ_ _ _ _=>none) () (λ_ _ _ _=>()) d
def NV (t:Nat)(x:Operand)(tt:Nat->Option AL)(g:Operand->D)(H:Hp):Option D:=Option.rec (motive:=λ_=>Option D) none (λi=>UU (g x) i H) (tt t)
theorem Su {t:Nat}{x:Operand}{tt:Nat->Option AL}{g:Operand->D}{H:Hp}{d:D}(h:NV t x tt g H=some d)(n k:Nat):∃p,Cg tt H n k g (.load t x)=some (d,none,p)/\Fg tt H g (.load t x)=true:=by
 unfold NV at h;cases hi:tt t with
 |none=>rw[hi]at h;cases(show none=some d from h)
 |some i=>
  rw[hi]at h;have h:UU (g x) i H=some d:=h;simp only[Cg,Fg,hi];generalize g x=dx at h;cases dx
  case optr k' gg sz j off=>
   have h:UV (Jq H k') gg sz j off i=some d:=h;rw[Of]at h;dsimp only;cases he:Hp.get H k' with
   |none=>rw[he]at h;cases(show none=some d from h)
   |some e=>
    rw[he]at h;obtain⟨hb,h⟩:=JD h;rw[JN]at h;dsimp only;cases hd:e.es[j]? with
    |none=>rw[hd]at h;cases(show none=some d from h)
    |some d0=>
     rw[hd]at h;obtain⟨h1,h2⟩:=cj h;obtain⟨b1,b⟩:=and2 hb;obtain⟨b2,b3⟩:=and2 b;dsimp only;rw[h1];exact⟨_,rfl,by rw[b1,b2,b3,h2];rfl⟩
  case pptr d0=>
   have h:Pw i d0=some d:=h;unfold Pw at h;cases hg:i.ag with
   |false=>
    rw[hg]at h;cases ha:FW d0 with
    |some l=>rw[ha]at h;cases(show none=some d from h)
    |none=>
     rw[ha]at h;cases(show some d0=some d from h);exact⟨_,rfl,(Ro ha).2⟩
   |true=>
    rw[hg]at h;cases ha:FW d0 with
    |none=>rw[ha]at h;cases(show none=some d from h)
    |some l=>
     rw[ha]at h;obtain⟨hb,hd⟩:=JD h;cases hd;rw[Kl ha];exact⟨_,rfl,by show Nat.beq l.length i.sz=true;rw[L8 hb];exact Fx _⟩
  all_goals(cases(show none=some d from h))
noncomputable def LD (ag:Bool)(sz:Nat)(d:D):Bool:=Bool.rec (motive:=λ_=>Bool) (Hg false sz d) (Option.rec (motive:=λ_=>Bool) false (λl=>Mq l sz) (FW d)) ag
theorem Xf {ag:Bool}{sz:Nat}{d:D}(h:LD ag sz d=true):Hg ag sz d=true:=by
 unfold LD at h;cases ag with
 |false=>exact h
 |true=>
  cases ha:FW d with
  |none=>rw[ha]at h;cases(show false=true from h)
  |some l=>rw[ha]at h;rw[Kl ha];show Nat.beq l.length sz=true;rw[L8 h];exact Fx _
def Pa (o:Option AK)(k gg sz j off:Nat)(i:AL)(y:D)(H:Hp):Option Hp:=Option.rec (motive:=λ_=>Option Hp) none (λe=>AK.rec (motive:=λ_=>Option Hp) (λk0 g0 t0 s0 es=>Option.rec (motive:=λ_=>Option Hp) none (λd0=>Bool.rec (motive:=λ_=>Option Hp) none (GS (EZ i off sz d0 y) λy=>Mr es j y λes'=>LB H k ⟨k0,g0,t0,s0,es'⟩ some) (LD i.ag i.sz y&&(Nat.beq gg g0&&(Nat.beq sz s0&&(bif Nat.ble 1 s0 then Nat.ble (off+i.sz) s0 else false))))) (Hy es j)) e) o
noncomputable def T4 (d:D):AL->D->Hp->Option Hp:=D.rec (motive_1:=λ_=>AL->D->Hp->Option Hp) (motive_2:=λ_=>Unit) (λ_ _ _=>none) (λ_ _ _ _=>none) (λ_ _ _ _ _=>none) (λ_ _ _ _ _=>none) (λ_ _ _ _ _ _ _=>none) (λ_ _ _ _ _=>none) (λ_ _ _ _ _ _ _ _=>none) (λk g sz j off i y H=>Pa (Jq H k) k g sz j off i y H) (λ_ _ _ _ _ _ _ _=>none) (λ_ _ _ _ _ _=>none) (λ_ _ _ _ _ _ _=>none) (λ_ _ _ _ _ _=>none) (λ_ _ _ _ _=>none) (λ_ _ _ _ _ _ _ _ _=>none) (λ_ _ _ _ _=>none) () (λ_ _ _ _=>()) d
def Jv (t:Nat)(x y:Operand)(tt:Nat->Option AL)(g:Operand->D)(H:Hp):Option Hp:=Option.rec (motive:=λ_=>Option Hp) none (λi=>T4 (g x) i (g y) H) (tt t)
theorem SF {t:Nat}{x y:Operand}{tt:Nat->Option AL}{g:Operand->D}{H H':Hp}(h:Jv t x y tt g H=some H'):∃k e p,DH tt H g (.store t x y)=some (k,e,p)/\KC tt H g (.store t x y)=true/\H'=Hp.set H k e:=by
 unfold Jv at h;cases hi:tt t with
 |none=>rw[hi]at h;cases(show none=some H' from h)
 |some i=>
  rw[hi]at h;have h:T4 (g x) i (g y) H=some H':=h;simp only[DH,KC,hi];generalize g x=dx at h;cases dx
  case optr k' gg sz j off=>
   have h:Pa (Jq H k') k' gg sz j off i (g y) H=some H':=h;rw[Of]at h;unfold Pa at h;dsimp only;cases he:Hp.get H k' with
   |none=>rw[he]at h;cases(show none=some H' from h)
   |some e=>
    rw[he]at h;have h:Option.rec (motive:=λ_=>Option Hp) none (λd0=>Bool.rec (motive:=λ_=>Option Hp) none (GS (EZ i off sz d0 (g y)) λy=>Mr e.es j y λes'=>LB H k' ⟨e.k,e.g,e.T,e.sz,es'⟩ some) (LD i.ag i.sz (g y)&&(Nat.beq gg e.g&&(Nat.beq sz e.sz&&(bif Nat.ble 1 e.sz then Nat.ble (off+i.sz) e.sz else false))))) (Hy e.es j)=some H':=h;rw[JN]at h;dsimp only;cases hd:e.es[j]? with
    |none=>rw[hd]at h;cases(show none=some H' from h)
    |some d0=>
     rw[hd]at h;dsimp only at h⊢;cases hb:(LD i.ag i.sz (g y)&&(Nat.beq gg e.g&&(Nat.beq sz e.sz&&(bif Nat.ble 1 e.sz then Nat.ble (off+i.sz) e.sz else false))))with
     |false=>rw[hb]at h;cases(show none=some H' from h)
     |true=>
      rw[hb]at h;obtain⟨b1,b⟩:=and2 hb;obtain⟨b2,b⟩:=and2 b;obtain⟨b3,b4⟩:=and2 b;have b1:=Xf b1;have h:GS (EZ i off sz d0 (g y)) (λy=>Mr e.es j y λes'=>LB H k' ⟨e.k,e.g,e.T,e.sz,es'⟩ some)=some H':=h;rw[Hc,RY,RZ]at h;cases h;refine⟨_,_,_,rfl,?_,rfl⟩;rw[b1,b2,b3,b4];rfl
  all_goals(cases(show none=some H' from h))
noncomputable def Tw (d:D):Option D:=D.rec (motive_1:=λ_=>Option D) (motive_2:=λ_=>Unit) none (λ_=>none) (λ_ _=>none) (λ_ _=>none) (λ_ _ _ _=>none) (λd _=>some (.pptr d)) (λ_ _ _ _ _=>none) (λk g sz i off=>some (.optr k g sz i off)) (λ_ _ _ _ _=>none) (λ_ _ _=>none) (λ_ _ _ _=>none) (λ_ _ _=>none) (λ_ _=>none) (λ_ _ _ _ _ _=>none) (λ_ _=>none) () (λ_ _ _ _=>()) d
noncomputable def gW (k:IntKind):Bool:=IntKind.rec (motive:=λ_=>Bool) false false false true false false false false k
def Lc (a b:Int):Bool:=Int.rec (motive:=λ_=>Int->Bool) (λm b=>Int.rec (motive:=λ_=>Bool) (λn=>Nat.blt m n) (λ_=>false) b) (λm b=>Int.rec (motive:=λ_=>Bool) (λ_=>true) (λn=>Nat.blt n m) b) a b
def Po (a b:Int):Bool:=Int.rec (motive:=λ_=>Int->Bool) (λm b=>Int.rec (motive:=λ_=>Bool) (λn=>Nat.beq m n) (λ_=>false) b) (λm b=>Int.rec (motive:=λ_=>Bool) (λ_=>false) (λn=>Nat.beq n m) b) a b
theorem co (a b:Int):Lc a b=decide (a<b):=by
 rw[I1,decide_eq_true_iff];cases a with
 |ofNat m=>cases b with
  |ofNat n=>show Nat.blt m n=true↔_;rw[Nat.blt_eq];simp only[LZ];omega
  |negSucc n=>show false=true↔_;simp only[LZ,Int.negSucc_eq];simp;omega
 |negSucc m=>cases b with
  |ofNat n=>show true=true↔_;simp only[LZ,Int.negSucc_eq];simp;omega
  |negSucc n=>show Nat.blt n m=true↔_;rw[Nat.blt_eq];simp only[Int.negSucc_eq];omega
theorem YP (a b:Int):Po a b=decide (a=b):=by
 rw[I1,decide_eq_true_iff];cases a with
 |ofNat m=>cases b with
  |ofNat n=>show Nat.beq m n=true↔_;rw[Nat.beq_eq];simp only[LZ];omega
  |negSucc n=>show false=true↔_;simp
 |negSucc m=>cases b with
  |ofNat n=>show false=true↔_;simp
  |negSucc n=>show Nat.beq n m=true↔_;rw[Nat.beq_eq];simp only[Int.negSucc_eq];omega
abbrev bl (b:Bool):Option D:=some (.prim (.bool b))
def Q8 (a b:Int):Option D:=Int.rec (motive:=λ_=>Option D) (λm=>Int.rec (motive:=λ_=>Option D) (λn=>I5 (Nat.blt (m+n) 9223372036854775808) (some (.prim (.int .i64 (.ofNat (m+n)))))) (λ_=>none) b) (λ_=>none) a
noncomputable def S8 (op:BinOp):Int->Int->Option D:=BinOp.rec (motive:=λ_=>Int->Int->Option D) (Q8) (λ_ _=>none) (λ_ _=>none) (λ_ _=>none) (λ_ _=>none) (λ_ _=>none) (λ_ _=>none) (λ_ _=>none) (λ_ _=>none) (λ_ _=>none) (λ_ _=>none) (λa b=>bl (Po a b)) (λa b=>bl (!Po a b)) (λa b=>bl (Lc a b)) (λa b=>bl (!Lc b a)) (λa b=>bl (Lc b a)) (λa b=>bl (!Lc a b)) op
noncomputable def Hx (d:D):Option Int:=D.rec (motive_1:=λ_=>Option Int) (motive_2:=λ_=>Unit) none (λv=>Value.rec (motive_1:=λ_=>Option Int) (motive_2:=λ_=>Unit) (motive_3:=λ_=>Unit) (λ_=>none) (λk a=>Bool.rec (motive:=λ_=>Option Int) none (some a) (gW k)) (λ_ _=>none) (λ_ _ _=>none) (λ_=>none) (λ_=>none) (λ_ _ _=>none) (λ_=>none) (λ_=>none) (λ_ _ _ _ _=>none) none (λ_ _ _=>none) none (λ_ _=>none) (λ_ _=>none) (λ_ _=>()) () (λ_ _ _ _=>()) v) (λ_ _=>none) (λ_ _=>none) (λ_ _ _ _=>none) (λ_ _=>none) (λ_ _ _ _ _=>none) (λ_ _ _ _ _=>none) (λ_ _ _ _ _=>none) (λ_ _ _=>none) (λ_ _ _ _=>none) (λ_ _ _=>none) (λ_ _=>none) (λ_ _ _ _ _ _=>none) (λ_ _=>none) () (λ_ _ _ _=>()) d
theorem Og {d:D}{a:Int}(h:Hx d=some a):d=.prim (.int .i64 a):=by
 cases d<;>try(cases h;done)
 rename_i v;cases v<;>try(cases h;done)
 rename_i k n;cases k<;>first|(cases h;done)|(cases h;rfl)
def M2 (op:BinOp)(x y:D):Option D:=Option.rec (motive:=λ_=>Option D) none (λa=>Option.rec (motive:=λ_=>Option D) none (λb=>S8 op a b) (Hx y)) (Hx x)
theorem dq {z:Int}(h0:0<=z)(h:z<9223372036854775808):IntKind.i64.wrap z=z:=by
 unfold IntKind.wrap;have e:(2:Int)^IntKind.i64.bits=18446744073709551616:=by decide
 have e':(2:Int)^(IntKind.i64.bits-1)=9223372036854775808:=by decide
 simp only[e,e',IntKind.signed,LX,FE];rw[Int.emod_eq_of_lt h0 (by omega),BU]
theorem XH {tt:Nat->Option AL}{op:BinOp}{t:Nat}{x y d:D}(h:M2 op x y=some d):∃p,Io tt op t x y=some (d,p)/\Mw tt op t x y=true:=by
 unfold M2 at h;cases hx:Hx x with
 |none=>rw[hx]at h;cases(show none=some d from h)
 |some a=>
  rw[hx]at h;dsimp only at h;cases hy:Hx y with
  |none=>rw[hy]at h;cases(show none=some d from h)
  |some b=>
   rw[hy]at h;have h:S8 op a b=some d:=h;rw[Og hx,Og hy];have hq:(a==b)=decide (a=b):=rfl;cases op<;>try(cases(show none=some d from h);done)
   case add=>
    have h:Q8 a b=some d:=h;cases a with
    |negSucc _=>cases(show none=some d from h)
    |ofNat m=>cases b with
     |negSucc _=>cases(show none=some d from h)
     |ofNat n=>
      obtain⟨hb,hd⟩:=JD h;rw[Nat.blt_eq]at hb;cases hd;refine⟨IntKind.i64=IntKind.i64,?_,rfl⟩;show some (D.prim (.int .i64 (IntKind.i64.wrap (.ofNat m+.ofNat n))),_)=_;rw[show(Int.ofNat m+Int.ofNat n)=Int.ofNat (m+n)from rfl,dq (z:=Int.ofNat (m+n)) (Int.natCast_nonneg _) (by simp only[LZ];omega)]
   all_goals
    cases(show bl _=some d from h);refine⟨IntKind.i64=IntKind.i64,?_,rfl⟩;simp only[Io,Ip,YP,co,hq,bne,ge_iff_le,gt_iff_lt]
    try(congr 5;rw[I1];simp)
noncomputable def im (d:D):Nat->Option D:=D.rec (motive_1:=λ_=>Nat->Option D) (motive_2:=λ_=>Unit) (λ_=>none) (λ_ _=>none) (λ_ _ _=>none) (λ_ _ _=>none) (λ_ _ _ _ _=>none) (λ_ _ _=>none) (λ_ _ _ _ _ _=>none) (λk g sz i off o=>some (.optr k g sz i (off+o))) (λ_ _ _ _ _ _=>none) (λ_ _ _ _=>none) (λ_ _ _ _ _=>none) (λ_ _ _ _=>none) (λ_ _ _=>none) (λ_ _ _ _ _ _ _=>none) (λ_ _ _=>none) () (λ_ _ _ _=>()) d
noncomputable def Pp (i:TI):Option (List (Nat×Nat×Bool)):=TI.rec (motive:=λ_=>Option (List (Nat×Nat×Bool))) (λ_=>none) none none (λfs=>some fs) (λ_ _ _ _=>none) (λ_ _ _=>none) none none none i
theorem dL {i:TI}{fs:List (Nat×Nat×Bool)}(h:Pp i=some fs):i=.struct fs:=by cases i<;>first|(cases h;done)|(cases h;rfl)
theorem HP {α:Type}{f:α->Option D}{o:Option α}{d:D}(h:Option.rec (motive:=λ_=>Option D) none f o=some d):∃a,o=some a/\f a=some d:=by
 cases o with
 |none=>cases(show none=some d from h)
 |some a=>exact⟨a,rfl,h⟩
def NP (o:Option AL)(f:Nat):Option (Nat×Nat×Bool):=Option.rec (motive:=λ_=>Option (Nat×Nat×Bool)) none (λi=>Option.rec (motive:=λ_=>Option (Nat×Nat×Bool)) none (λfs=>Tx fs f) (Pp i.ti)) o
theorem Sj {o:Option AL}{f:Nat}{p:Nat×Nat×Bool}(h:NP o f=some p):∃i fs,o=some i/\i.ti=.struct fs/\fs[f]?=some p:=by
 unfold NP at h;cases o with
 |none=>cases(show none=some p from h)
 |some i=>
  dsimp only at h;cases hf:Pp i.ti with
  |none=>rw[hf]at h;cases(show none=some p from h)
  |some fs=>rw[hf]at h;exact⟨i,fs,rfl,dL hf,by rw[<-SA];exact h⟩
def UP (o:Option AL)(f:Nat)(d:D):Option D:=Option.rec (motive:=λ_=>Option D) none (λp=>im d p.1) (NP o f)
def io (p:Nat×Nat×Bool)(l:List D):Option D:=Bool.rec (motive:=λ_=>Option D) (Hy l p.1) none p.2.2
def UQ (o:Option AL)(f:Nat)(d:D):Option D:=Option.rec (motive:=λ_=>Option D) none (λp=>Option.rec (motive:=λ_=>Option D) none (λl=>io p l) (FW d)) (NP o f)
def Tv (o:Option Int):Option Nat:=Option.rec (motive:=λ_=>Option Nat) none (λa=>Int.rec (motive:=λ_=>Option Nat) (λn=>some n) (λ_=>none) a) o
theorem Xn {d:D}{n:Nat}(h:Tv (Hx d)=some n):d=.prim (.int .i64 (n:Nat)):=by
 cases hd:Hx d with
 |none=>rw[hd]at h;cases(show none=some n from h)
 |some a=>
  rw[hd]at h;rw[Og hd];cases a with
  |ofNat m=>cases(show some m=some n from h);rfl
  |negSucc m=>cases(show none=some n from h)
noncomputable def UY (i:TI):Option Nat:=TI.rec (motive:=λ_=>Option Nat) (λ_=>none) none none (λ_=>none) (λ_ esz _ _=>some esz) (λ_ _ _=>none) none none none i
theorem dj {i:TI}{n:Nat}(h:UY i=some n):∃e eby ez,i=.slice e n eby ez:=by cases i<;>first|(cases h;done)|(cases h;exact⟨_,_,_,rfl⟩)
noncomputable def US (d:D):Nat->Nat->Option D:=D.rec (motive_1:=λ_=>Nat->Nat->Option D) (motive_2:=λ_=>Unit) (λ_ _=>none) (λ_ _ _=>none) (λ_ _ _ _=>none) (λ_ _ _ _=>none) (λ_ _ _ _ _ _=>none) (λ_ _ _ _=>none) (λk g sz i len esz j=>I5 (Nat.blt j len&&Nat.beq esz sz) (some (.optr k g sz (i+j) 0))) (λ_ _ _ _ _ _ _=>none) (λ_ _ _ _ _ _ _=>none) (λ_ _ _ _ _=>none) (λ_ _ _ _ _ _=>none) (λ_ _ _ _ _=>none) (λ_ _ _ _=>none) (λ_ _ _ _ _ _ _ _=>none) (λ_ _ _ _=>none) () (λ_ _ _ _=>()) d
noncomputable def Pt (d:D):Nat->Nat->Option D:=D.rec (motive_1:=λ_=>Nat->Nat->Option D) (motive_2:=λ_=>Unit) (λ_ _=>none) (λ_ _ _=>none) (λ_ _ _ _=>none) (λ_ _ _ _=>none) (λ_ sz es _ esz j=>I5 (Nat.beq sz esz) (Option.rec (motive:=λ_=>Option D) none (λd=>some (.pptr d)) (Hy es j))) (λ_ _ _ _=>none) (λ_ _ _ _ _ _ _=>none) (λ_ _ _ _ _ _ _=>none) (λ_ _ _ _ _ _ _=>none) (λ_ _ _ _ _=>none) (λ_ _ _ _ _ _=>none) (λ_ _ _ _ _=>none) (λ_ _ _ _=>none) (λ_ _ _ _ _ _ _ _=>none) (λ_ _ _ _=>none) () (λ_ _ _ _=>()) d
def J8 (f:D->Nat->Nat->Option D)(o:Option AL)(x ix:D):Option D:=Option.rec (motive:=λ_=>Option D) none (λi=>Option.rec (motive:=λ_=>Option D) none (λesz=>Option.rec (motive:=λ_=>Option D) none (λj=>f x esz j) (Tv (Hx ix))) (UY i.ti)) o
theorem Sq {f:D->Nat->Nat->Option D}{o:Option AL}{x ix d:D}(h:J8 f o x ix=some d):∃i e esz eby ez j,o=some i/\i.ti=.slice e esz eby ez/\ix=.prim (.int .i64 (j:Nat))/\f x esz j=some d:=by
 obtain⟨i,h1,h⟩:=HP h;obtain⟨esz,h2,h⟩:=HP h;obtain⟨j,h3,h⟩:=HP h;obtain⟨e,eby,ez,h2⟩:=dj h2;exact⟨i,e,esz,eby,ez,j,h1,h2,Xn h3,h⟩
noncomputable def T7 (d:D):Option (List D):=D.rec (motive_1:=λ_=>Option (List D)) (motive_2:=λ_=>Unit) none (λ_=>none) (λ_ _=>none) (λl _=>some l) (λ_ _ _ _=>none) (λ_ _=>none) (λ_ _ _ _ _=>none) (λ_ _ _ _ _=>none) (λ_ _ _ _ _=>none) (λ_ _ _=>none) (λ_ _ _ _=>none) (λ_ _ _=>none) (λ_ _=>none) (λ_ _ _ _ _ _=>none) (λ_ _=>none) () (λ_ _ _ _=>()) d
theorem XY {d:D}{l:List D}(h:T7 d=some l):d=.tup l:=by
 cases d<;>first|(cases h;done)|(cases h;rfl)
def UO (d:D)(i:Nat):Option D:=Option.rec (motive:=λ_=>Option D) none (λl=>Hy l i) (T7 d)
noncomputable def pF (op:Op):(Nat->Option AL)->(Operand->D)->Option D:=Op.rec (motive:=λ_=>(Nat->Option AL)->(Operand->D)->Option D) (λx _ g=>some (g x)) (λx _ g=>some (g x)) (λ_ _ _ _ _=>none) (λ_ _ _=>none) (λ_ _ _ _=>none) (λ_ _ _ _=>none) (λ_ _ _ _ _=>none) (λ_ _ _ _ _ _=>none) (λ_ _ _ _=>none) (λ_ _ _ _ _=>none) (λ_ _ _=>none) (λ_ _ _=>none) (λx _ g=>Tw (g x)) (λb _ x y _ _ g=>M2 b (g x) (g y)) (λ_ _ _ _ _=>none) (λ_ _ _ _ _=>none) (λ_ _ _ _=>none) (λ_ _ _ _=>none) (λ_ _ _ _ _=>none) (λ_ _ _ _=>none) (λ_ _ _ _=>none) (λ_ _ _ _ _=>none) (λ_ _ _ _ _ _ _=>none) (λt x f tt g=>UP (tt t) f (g x)) (λt x f tt g=>UQ (tt t) f (g x)) (λt x ix tt g=>J8 US (tt t) (g x) (g ix)) (λ_ _ _ _ _=>none) (λ_ _ _ _ _ _=>none) (λ_ _ _ _ _ _=>none) (λ_ _ _ _ _=>none) (λ_ _ _ _ _ _=>none) (λ_ _ _ _=>none) (λ_ _ _ _=>none) (λ_ _ _=>none) (λ_ _ _ _ _ _=>none) (λx i _ g=>UO (g x) i) (λ_ _ _=>none) (λ_ _ _=>none) (λ_ _ _=>none) (λ_ _ _=>none) (λ_ _ _ _=>none) (λ_ _ _ _ _=>none) (λ_ _ _ _=>none) op
theorem TG {op:Op}{tt:Nat->Option AL}{g:Operand->D}{d:D}(h:pF op tt g=some d):∃p,CG tt g op=some (d,p)/\Ed tt g op=true:=by
 cases op
 case move x=>cases(show some (g x)=some d from h);exact⟨_,rfl,rfl⟩
 case assign x=>cases(show some (g x)=some d from h);exact⟨_,rfl,rfl⟩
 case nilCheck x=>
  have h:Tw (g x)=some d:=h;simp only[CG,Ed];generalize g x=dx at h;cases dx<;>first|(cases(show none=some d from h);done)|(cases h;exact⟨_,rfl,trivial⟩)
 case binOp b t x y yt=>
  obtain⟨p,h1,h2⟩:=XH (tt:=tt) (t:=t) (show M2 b (g x) (g y)=some d from h);exact⟨p,h1,h2⟩
 case fieldAddr t x f=>
  obtain⟨p,h1,h⟩:=HP (show UP (tt t) f (g x)=some d from h);obtain⟨i,fs,a1,a2,a3⟩:=Sj h1;obtain⟨o,sz,ag⟩:=p;simp only[CG,Ed,a1,a2,a3];generalize g x=dx at h;cases dx<;>first|(cases(show none=some d from h);done)|(cases h;exact⟨_,rfl,trivial⟩)
 case field t x f=>
  obtain⟨p,h1,h⟩:=HP (show UQ (tt t) f (g x)=some d from h);obtain⟨i,fs,a1,a2,a3⟩:=Sj h1;obtain⟨l,h2,h⟩:=HP h;obtain⟨o,sz,ag⟩:=p;simp only[CG,Ed,a1,a2,a3,Kl h2];cases ag with
  |true=>cases(show none=some d from h)
  |false=>
   have:=Sv (d:=.agg l) (sz:=sz) (show NW (.agg l) o=some d from h)
   rw[show DB false sz o l=some d from this];exact⟨_,rfl,trivial⟩
 case indexAddr t x ix=>
  obtain⟨i,e,esz,eby,ez,j,a1,a2,a3,h⟩:=Sq (show J8 US (tt t) (g x) (g ix)=some d from h);simp only[CG,Ed,a1,a2,a3];generalize g x=dx at h;cases dx<;>try(cases(show none=some d from h);done)
  obtain⟨hb,h⟩:=JD h;obtain⟨b1,b2⟩:=and2 hb;rw[Nat.blt_eq]at b1;cases h;refine⟨_,rfl,?_⟩;simp only[b2,Bool.and_true,Ag,FE];omega
 case extract x i=>
  obtain⟨l,h1,h⟩:=HP (show UO (g x) i=some d from h);simp only[CG,Ed,XY h1];rw[show l[i]?=some d by rw[<-JN];exact h];exact⟨_,rfl,trivial⟩
 all_goals(cases(show none=some d from h))
end
end Go.Ide
